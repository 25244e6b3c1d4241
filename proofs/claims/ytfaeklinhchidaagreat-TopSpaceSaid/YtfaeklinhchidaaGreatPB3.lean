import Derived.Test.YtfaeklinhchidaaGreatPI
set_option linter.all false
set_option maxRecDepth 100000
namespace Go.Proofs.YtfaeklinhchidaaGreat
open Go Hold
-- 59 (*holdfast/wal.Log).Commit
def T59 : Ann := (.seq .none (.seq (.block (.seq .none (.seq (.seq .none .none) (.seq .none (.seq (.seq .none .none) (.seq .none (.seq (.seq .none .none) (.seq .none (.seq (.seq .none .none) .none))))))))) (.seq .none (.seq (.seq .none (.block (.loop 18014389919547536 [33] (.seq .none (.seq (.seq .none .none) (.seq (.block (.seq .none (.seq (.seq .none (.seq (.seq .none .none) .none)) .none))) .none)))))) (.seq (.seq (.draw [.op 0 .pure, .op 1 .pure, .op 3 .load, .op 4 .pure, .op 5 .pure, .op 6 .load, .op 7 .load, .op 8 .pure, .op 9 .pure, .op 10 .load, .op 11 .pure, .op 2 .eff, .op 12 .pure]) (.seq (.seq .none .none) .none)) (.seq .none (.seq .none (.seq .none (.seq (.seq .none (.block (.loop 19806738397111180741092314112 [78] (.seq .none (.seq (.seq .none .none) (.seq (.block (.seq .none .none)) .none)))))) (.seq .none (.seq .none (.seq (.seq .none (.block (.loop 174224571214483385976394345438753283137536 [109] (.seq .none (.seq (.seq .none .none) (.seq (.block (.seq .none (.seq (.draw [.op 5 .pure, .op 6 .pure, .op 7 .pure, .op 8 .pure, .op 9 .pure, .op 10 .pure, .op 0 .load, .op 1 .pure, .op 2 .pure, .op 3 .pure, .op 4 .load, .op 11 .load, .op 12 .eff]) .none))) .none)))))) (.seq (.draw [.op 4 .pure, .op 5 .pure, .op 0 .load, .op 1 .pure, .op 2 .pure, .op 3 .load, .op 6 .eff, .op 7 .pure, .op 8 .pure, .op 9 .pure, .op 10 .eff]) (.seq .none (.seq .none (.seq .none .none))))))))))))))))
theorem T59_ok : chkFn prog Tryz.f59 T59 = true := by kernel_rfl
def B59 (l_p0 pages_p1 : Value) (w : World) (K : Value → World → Prop) : Prop :=
  efv prog (Instr.box 52 l_p0) w fun l_0 w =>
  ldv prog (Instr.loadAt 52 l_0) w fun t_1 w =>
  pvv prog (oEq .eql 52 (.tmp 16) (.const (.pointer none)) t_1 (.pointer none)) w fun t_2 w =>
  cd t_2 (
    K (.int .i64 1) w) <|
  pv prog (oBi .len #[134] 3 #[false] #[pages_p1]) w fun t_3 w =>
  pvv prog (oEq .eql 3 (.tmp 20) (.const (.int .i64 0)) t_3 (.int .i64 0)) w fun t_4 w =>
  cd t_4 (
    K (.int .i64 0) w) <|
  pv prog (oBi .len #[134] 3 #[false] #[pages_p1]) w fun t_5 w =>
  pvv prog (binOp .gtr 3 t_5 (.int .i64 100)) w fun t_6 w =>
  cd t_6 (
    K (.int .i64 6) w) <|
  pvv prog (Instr.makeFunc (.func 91) #[] #[l_0]) w fun t_7 w =>
  Calls prog 90 #[pages_p1, t_7] w (Ret fun t_8 w =>
  cd t_8 (
    K (.int .i64 2) w) <|
  efv prog (Instr.makeMap 117 none) w fun t_9 w =>
  pv prog (oBi .len #[134] 3 #[false] #[pages_p1]) w fun t_10 w =>
  lp (fun σ w again_12 => pop σ fun t_11 σ => fin σ <|
    pvv prog (binOp .lss 3 t_11 t_10) w fun t_13 w =>
    cd t_13 (
      pvv prog (Instr.indexAt 134 pages_p1 t_11) w fun t_14 w =>
      ldv prog (Instr.loadAt 136 t_14) w fun t_15 w =>
      efv prog (Instr.alloc 136 true (.tuple #[])) w fun p_16 w =>
      efu prog (Instr.storeAt 136 p_16 t_15) w fun u_17 w =>
      pvv prog (Instr.fieldAt 136 p_16 0) w fun t_18 w =>
      ldv prog (Instr.loadAt 3 t_18) w fun t_19 w =>
      ldv prog (Instr.lookup 117 t_9 t_19 false) w fun t_20 w =>
      pvv prog (oEq .neq 22 (.tmp 40) (.const (.slice none 0 0)) t_20 (.slice none 0 0)) w fun t_21 w =>
      gate (some (t_21, false)) (fun K => pvv prog (Instr.fieldAt 136 p_16 1) w K) w fun t_22 w =>
      gate (some (t_21, false)) (fun K => ldv prog (Instr.loadAt 22 t_22) w K) w fun t_23 w =>
      gate (some (t_21, false)) (fun K => pv prog (oBi .len #[22] 3 #[false] #[t_23]) w K) w fun t_24 w =>
      gate (some (t_21, false)) (fun K => pvv prog (oEq .neq 3 (.tmp 45) (.const (.int .i64 256)) t_24 (.int .i64 256)) w K) w fun t_25 w =>
      pv prog (oPick t_21 (.bool true) t_25) w fun t_26 w =>
      cd t_26 (
        K (.int .i64 3) w) <|
      pvv prog (Instr.fieldAt 136 p_16 0) w fun t_27 w =>
      ldv prog (Instr.loadAt 3 t_27) w fun t_28 w =>
      pvv prog (Instr.fieldAt 136 p_16 1) w fun t_29 w =>
      ldv prog (Instr.loadAt 22 t_29) w fun t_30 w =>
      efu prog (Instr.mapUpdate 117 t_9 t_28 t_30) w fun u_31 w =>
      pvv prog (binOp .add 3 t_11 (.int .i64 1)) w fun t_32 w =>
      again_12 [t_32] w) <|
    dr w fun w =>
    pv prog (oBi .len #[134] 3 #[false] #[pages_p1]) w fun t_33 w =>
    bindS (vN (Instr.loadAt 52 l_0)) fun m_35 => ldv prog (Instr.loadAt 52 l_0) w fun t_34 w =>
    pv prog (oNil t_34) w fun t_36 w =>
    pvv prog (Instr.fieldAt 114 t_36 1) w fun t_37 w =>
    bindS (vN (Instr.loadAt 3 t_37)) fun m_39 => ldv prog (Instr.loadAt 3 t_37) w fun t_38 w =>
    bindS (vN (Instr.loadAt 52 l_0)) fun m_41 => ldv prog (Instr.loadAt 52 l_0) w fun t_40 w =>
    pv prog (oNil t_40) w fun t_42 w =>
    pvv prog (Instr.fieldAt 114 t_42 3) w fun t_43 w =>
    bindS (vN (Instr.loadAt 3 t_43)) fun m_45 => ldv prog (Instr.loadAt 3 t_43) w fun t_44 w =>
    pvv prog (binOp .sub 3 t_38 t_44) w fun t_46 w =>
    Calls prog 92 #[t_33] w (Ret fun t_47 w => stay prog none m_45 t_44 w <| stay prog none m_41 t_40 w <| stay prog none m_39 t_38 w <| stay prog none m_35 t_34 w <| 
    pvv prog (binOp .gtr 3 t_47 t_46) w fun t_48 w =>
    cd t_48 (
      K (.int .i64 7) w) <|
    efv prog (Instr.makeSlice 22 (.int .i64 256) (.int .i64 256)) w fun t_49 w =>
    pvv prog (Instr.sliceAt 22 t_49 none (some (.int .i64 2)) none) w fun t_50 w =>
    pv prog (oBi .len #[134] 3 #[false] #[pages_p1]) w fun t_51 w =>
    Calls prog 93 #[t_50, t_51] w (Ret fun t_52 w =>
    Calls prog 77 #[t_9] w (Ret fun t_53 w =>
    Calls prog 76 #[t_53] w (Ret fun t_54 w =>
    pv prog (oBi .len #[29] 3 #[false] #[t_54]) w fun t_55 w =>
    lp (fun σ w again_57 => pop σ fun t_56 σ => fin σ <|
      pvv prog (binOp .lss 3 t_56 t_55) w fun t_58 w =>
      cd t_58 (
        pvv prog (Instr.indexAt 29 t_54 t_56) w fun t_59 w =>
        ldv prog (Instr.loadAt 3 t_59) w fun t_60 w =>
        pvv prog (binOp .mul 3 (.int .i64 2) t_56) w fun t_61 w =>
        pvv prog (binOp .add 3 (.int .i64 2) t_61) w fun t_62 w =>
        pvv prog (binOp .mul 3 (.int .i64 2) t_56) w fun t_63 w =>
        pvv prog (binOp .add 3 (.int .i64 4) t_63) w fun t_64 w =>
        pvv prog (Instr.sliceAt 22 t_49 (some t_62) (some t_64) none) w fun t_65 w =>
        Calls prog 93 #[t_65, t_60] w (Ret fun t_66 w =>
        pvv prog (binOp .add 3 t_56 (.int .i64 1)) w fun t_67 w =>
        again_57 [t_67] w)) <|
      ldv prog (Instr.loadAt 52 l_0) w fun t_68 w =>
      pv prog (oNil t_68) w fun t_69 w =>
      pvv prog (Instr.fieldAt 114 t_69 3) w fun t_70 w =>
      ldv prog (Instr.loadAt 3 t_70) w fun t_71 w =>
      pvv prog (binOp .add 3 t_71 (.int .i64 1)) w fun t_72 w =>
      ldv prog (Instr.loadAt 52 l_0) w fun t_73 w =>
      pv prog (oNil t_73) w fun t_74 w =>
      pvv prog (Instr.fieldAt 114 t_74 0) w fun t_75 w =>
      pvv prog (Instr.fieldAt 111 t_75 0) w fun t_76 w =>
      ldv prog (Instr.loadAt 49 t_76) w fun t_77 w =>
      Calls prog 94 #[t_77, t_72, t_49] w (Ret fun t_78 w =>
      pv prog (oBi .len #[29] 3 #[false] #[t_54]) w fun t_79 w =>
      lp (fun σ w again_81 => pop σ fun t_80 σ => fin σ <|
        pvv prog (binOp .lss 3 t_80 t_79) w fun t_82 w =>
        cd t_82 (
          pvv prog (Instr.indexAt 29 t_54 t_80) w fun t_83 w =>
          ldv prog (Instr.loadAt 3 t_83) w fun t_84 w =>
          dr w fun w =>
          pvv prog (binOp .add 3 t_72 (.int .i64 1)) w fun t_85 w =>
          pvv prog (binOp .add 3 t_85 t_80) w fun t_86 w =>
          bindS (vN (Instr.loadAt 52 l_0)) fun m_88 => ldv prog (Instr.loadAt 52 l_0) w fun t_87 w =>
          pv prog (oNil t_87) w fun t_89 w =>
          pvv prog (Instr.fieldAt 114 t_89 0) w fun t_90 w =>
          pvv prog (Instr.fieldAt 111 t_90 0) w fun t_91 w =>
          bindS (vN (Instr.loadAt 49 t_91)) fun m_93 => ldv prog (Instr.loadAt 49 t_91) w fun t_92 w =>
          bindS (vN (Instr.lookup 117 t_9 t_84 false)) fun m_95 => ldv prog (Instr.lookup 117 t_9 t_84 false) w fun t_94 w =>
          Calls prog 94 #[t_92, t_86, t_94] w (Ret fun t_96 w => stay prog none m_88 t_87 w <| 
          ldv prog (Instr.loadAt 52 l_0) w fun t_97 w =>
          pv prog (oNil t_97) w fun t_98 w =>
          pvv prog (Instr.fieldAt 114 t_98 4) w fun t_99 w =>
          ldv prog (Instr.loadAt 112 t_99) w fun t_100 w =>
          pvv prog (binOp .add 3 t_72 (.int .i64 1)) w fun t_101 w =>
          pvv prog (binOp .add 3 t_101 t_80) w fun t_102 w =>
          efu prog (Instr.mapUpdate 112 t_100 t_84 t_102) w fun u_103 w =>
          pvv prog (binOp .add 3 t_80 (.int .i64 1)) w fun t_104 w =>
          again_81 [t_104] w)) <|
        dr w fun w =>
        pv prog (oBi .len #[134] 3 #[false] #[pages_p1]) w fun t_106 w =>
        bindS (vN (Instr.loadAt 52 l_0)) fun m_108 => ldv prog (Instr.loadAt 52 l_0) w fun t_107 w =>
        pv prog (oNil t_107) w fun t_109 w =>
        pvv prog (Instr.fieldAt 114 t_109 3) w fun t_110 w =>
        bindS (vN (Instr.loadAt 3 t_110)) fun m_112 => ldv prog (Instr.loadAt 3 t_110) w fun t_111 w =>
        Calls prog 92 #[t_106] w (Ret fun t_113 w => stay prog none m_112 t_111 w <| stay prog none m_108 t_107 w <| 
        pvv prog (binOp .add 3 t_111 t_113) w fun t_114 w =>
        pv prog (oNil t_107) w fun t_115 w =>
        pvv prog (Instr.fieldAt 114 t_115 3) w fun t_116 w =>
        efu prog (Instr.storeAt 3 t_116 t_114) w fun u_117 w =>
        ldv prog (Instr.loadAt 52 l_0) w fun t_118 w =>
        pv prog (oNil t_118) w fun t_119 w =>
        pvv prog (Instr.fieldAt 114 t_119 2) w fun t_120 w =>
        ldv prog (Instr.loadAt 3 t_120) w fun t_121 w =>
        pvv prog (binOp .add 3 t_121 (.int .i64 1)) w fun t_122 w =>
        pv prog (oNil t_118) w fun t_123 w =>
        pvv prog (Instr.fieldAt 114 t_123 2) w fun t_124 w =>
        efu prog (Instr.storeAt 3 t_124 t_122) w fun u_125 w =>
        ldv prog (Instr.loadAt 52 l_0) w fun t_126 w =>
        Calls prog 95 #[t_126] w (Ret fun t_127 w =>
        K (.int .i64 0) w))) [(.int .i64 0)] w)) [(.int .i64 0)] w))))) [(.int .i64 0)] w)
theorem B59_eq (l_p0 pages_p1 : Value) (w : World) (K : Value → World → Prop) : denFn prog Tryz.f59 T59 [l_p0, pages_p1] w K = B59 l_p0 pages_p1 w K := by kernel_rfl
theorem c59 {l_p0 pages_p1 : Value} {w : World} {K : Value → World → Prop} (h : B59 l_p0 pages_p1 w K) : Calls prog 59 #[l_p0, pages_p1] w (Ret K) :=
  denFn_calls Tryz.func59 T59_ok (Eq.mpr (B59_eq l_p0 pages_p1 w K) h)

-- 83 slices.Replace[[]holdfast/tree.entry,holdfast/tree.entry]
def T83 : Ann := (.seq .none (.seq .none (.seq (.seq .none (.seq (.seq .none .none) .none)) (.seq (.seq .none (.seq (.seq .none (.meet 17557826306048 [] (.seq .none (.seq .none .none)) (.seq .none .none))) .none)) (.seq (.draw [.op 0 .pure, .op 1 .pure, .op 2 .pure, .op 3 .pure, .op 4 .pure, .op 5 .pure, .op 6 .pure, .op 7 .pure, .op 8 .pure, .op 9 .pure, .op 10 .pure, .op 11 .pure, .op 12 .pure]) (.seq (.seq .none (.seq (.seq .none (.seq .none (.seq (.draw [.op 0 .pure, .op 1 .pure, .op 2 .pure, .op 3 .pure, .op 4 .pure, .op 5 .pure, .op 6 .pure, .op 7 .pure, .op 8 .pure, .op 9 .eff]) (.seq .none .none)))) .none)) (.seq .none (.seq (.seq .none (.seq (.seq .none (.seq (.draw [.op 0 .pure, .op 1 .pure, .op 2 .pure, .op 3 .pure, .op 4 .pure, .op 5 .pure, .op 6 .pure, .op 7 .pure, .op 8 .pure, .op 9 .eff]) (.seq .none (.seq .none .none)))) .none)) (.seq (.seq .none (.seq (.seq (.draw [.op 0 .pure, .op 1 .pure, .op 2 .pure, .op 3 .pure, .op 4 .pure, .op 5 .pure, .op 6 .pure, .op 7 .pure, .op 8 .pure, .op 9 .eff]) (.seq .none (.seq .none .none))) .none)) (.seq .none (.seq (.seq .none (.seq (.seq (.draw [.op 0 .pure, .op 1 .pure, .op 2 .pure, .op 3 .pure, .op 4 .pure, .op 5 .pure, .op 6 .pure, .op 7 .eff]) (.seq (.draw [.op 0 .pure, .op 1 .pure, .op 2 .pure, .op 3 .pure, .op 4 .pure, .op 5 .pure, .op 6 .pure, .op 7 .eff]) (.seq .none (.seq .none .none)))) .none)) (.seq (.seq .none (.seq (.seq (.draw [.op 0 .pure, .op 1 .pure, .op 2 .pure, .op 3 .pure, .op 4 .pure, .op 5 .pure, .op 6 .pure, .op 7 .eff]) (.seq (.draw [.op 0 .pure, .op 1 .pure, .op 2 .pure, .op 3 .pure, .op 4 .pure, .op 5 .pure, .op 6 .pure, .op 7 .eff]) (.seq .none (.seq .none .none)))) .none)) (.seq .none (.seq .none (.seq (.draw [.op 0 .pure, .op 1 .pure, .op 2 .pure, .op 3 .pure, .op 4 .pure, .op 5 .pure, .op 6 .pure, .op 7 .pure, .op 8 .pure, .op 9 .pure, .op 10 .pure, .op 11 .eff]) (.seq .none .none))))))))))))))))
theorem T83_ok : chkFn prog Tryz.f83 T83 = true := by kernel_rfl
def B83 (s_p0 i_p1 j_p2 v_p3 : Value) (w : World) (K : Value → World → Prop) : Prop :=
  pvv prog (Instr.sliceAt 61 s_p0 (some i_p1) (some j_p2) none) w fun t_0 w =>
  pvv prog (oEq .eql 3 (.tmp 19) (.tmp 20) i_p1 j_p2) w fun t_1 w =>
  cd t_1 (
    Calls prog 22 #[s_p0, i_p1, v_p3] w (Ret fun t_2 w =>
    K t_2 w)) <|
  pv prog (oBi .len #[61] 3 #[false] #[s_p0]) w fun t_3 w =>
  pvv prog (oEq .eql 3 (.tmp 26) (.tmp 28) j_p2 t_3) w fun t_4 w =>
  cd t_4 (
    pvv prog (Instr.sliceAt 61 s_p0 none (some i_p1) none) w fun t_5 w =>
    ef prog (oBi .append #[61, 61] 61 #[false, false] #[t_5, v_p3]) w fun t_6 w =>
    jn (fun σ w => fin σ <|
      K t_6 w) fun k_7 =>
    pv prog (oBi .len #[61] 3 #[false] #[t_6]) w fun t_8 w =>
    pv prog (oBi .len #[61] 3 #[false] #[s_p0]) w fun t_9 w =>
    pvv prog (binOp .lss 3 t_8 t_9) w fun t_10 w =>
    cd t_10 (
      pv prog (oBi .len #[61] 3 #[false] #[t_6]) w fun t_11 w =>
      pvv prog (Instr.sliceAt 61 s_p0 (some t_11) none none) w fun t_12 w =>
      ef prog (oBi .clear #[61] 0 #[false] #[t_12]) w fun u_13 w =>
      k_7 [] w) <|
    k_7 [] w) <|
  dr w fun w =>
  pvv prog (Instr.sliceAt 61 s_p0 none (some i_p1) none) w fun t_14 w =>
  pv prog (oBi .len #[61] 3 #[false] #[t_14]) w fun t_15 w =>
  pv prog (oBi .len #[61] 3 #[false] #[v_p3]) w fun t_16 w =>
  pvv prog (binOp .add 3 t_15 t_16) w fun t_17 w =>
  pvv prog (Instr.sliceAt 61 s_p0 (some j_p2) none none) w fun t_18 w =>
  pv prog (oBi .len #[61] 3 #[false] #[t_18]) w fun t_19 w =>
  pvv prog (binOp .add 3 t_17 t_19) w fun t_20 w =>
  pv prog (oBi .cap #[61] 3 #[false] #[s_p0]) w fun t_21 w =>
  pvv prog (binOp .gtr 3 t_20 t_21) w fun t_22 w =>
  cd t_22 (
    pvv prog (Instr.sliceAt 61 s_p0 none (some i_p1) none) w fun t_23 w =>
    pvv prog (binOp .sub 3 t_20 i_p1) w fun t_24 w =>
    ef prog (oBi .append #[61, 3] 61 #[false, false] #[t_23, t_24]) w fun t_25 w =>
    pvv prog (Instr.sliceAt 61 t_25 (some i_p1) none none) w fun t_26 w =>
    ef prog (oBi .copy #[61, 61] 3 #[false, false] #[t_26, v_p3]) w fun t_27 w =>
    dr w fun w =>
    pv prog (oBi .len #[61] 3 #[false] #[v_p3]) w fun t_28 w =>
    pvv prog (binOp .add 3 i_p1 t_28) w fun t_29 w =>
    pvv prog (Instr.sliceAt 61 t_25 (some t_29) none none) w fun t_30 w =>
    pvv prog (Instr.sliceAt 61 s_p0 (some j_p2) none none) w fun t_31 w =>
    ef prog (oBi .copy #[61, 61] 3 #[false, false] #[t_30, t_31]) w fun t_32 w =>
    K t_25 w) <|
  pvv prog (Instr.sliceAt 61 s_p0 none (some t_20) none) w fun t_34 w =>
  pv prog (oBi .len #[61] 3 #[false] #[v_p3]) w fun t_35 w =>
  pvv prog (binOp .add 3 i_p1 t_35) w fun t_36 w =>
  pvv prog (binOp .leq 3 t_36 j_p2) w fun t_37 w =>
  cd t_37 (
    pvv prog (Instr.sliceAt 61 t_34 (some i_p1) none none) w fun t_38 w =>
    ef prog (oBi .copy #[61, 61] 3 #[false, false] #[t_38, v_p3]) w fun t_39 w =>
    dr w fun w =>
    pv prog (oBi .len #[61] 3 #[false] #[v_p3]) w fun t_40 w =>
    pvv prog (binOp .add 3 i_p1 t_40) w fun t_41 w =>
    pvv prog (Instr.sliceAt 61 t_34 (some t_41) none none) w fun t_42 w =>
    pvv prog (Instr.sliceAt 61 s_p0 (some j_p2) none none) w fun t_43 w =>
    ef prog (oBi .copy #[61, 61] 3 #[false, false] #[t_42, t_43]) w fun t_44 w =>
    pvv prog (Instr.sliceAt 61 s_p0 (some t_20) none none) w fun t_45 w =>
    ef prog (oBi .clear #[61] 0 #[false] #[t_45]) w fun u_46 w =>
    K t_34 w) <|
  pv prog (oBi .len #[61] 3 #[false] #[v_p3]) w fun t_48 w =>
  pvv prog (binOp .add 3 i_p1 t_48) w fun t_49 w =>
  pvv prog (Instr.sliceAt 61 t_34 (some t_49) none none) w fun t_50 w =>
  ef prog (oCall (.func (.func 57) #[] #[]) #[t_50, v_p3]) w fun t_51 w =>
  pvv prog (Op.unary .not t_51) w fun t_52 w =>
  cd t_52 (
    dr w fun w =>
    pv prog (oBi .len #[61] 3 #[false] #[v_p3]) w fun t_53 w =>
    pvv prog (binOp .add 3 i_p1 t_53) w fun t_54 w =>
    pvv prog (Instr.sliceAt 61 t_34 (some t_54) none none) w fun t_55 w =>
    pvv prog (Instr.sliceAt 61 s_p0 (some j_p2) none none) w fun t_56 w =>
    ef prog (oBi .copy #[61, 61] 3 #[false, false] #[t_55, t_56]) w fun t_57 w =>
    pvv prog (Instr.sliceAt 61 t_34 (some i_p1) none none) w fun t_58 w =>
    ef prog (oBi .copy #[61, 61] 3 #[false, false] #[t_58, v_p3]) w fun t_59 w =>
    K t_34 w) <|
  pv prog (oBi .len #[61] 3 #[false] #[v_p3]) w fun t_61 w =>
  pvv prog (binOp .sub 3 j_p2 i_p1) w fun t_62 w =>
  pvv prog (binOp .sub 3 t_61 t_62) w fun t_63 w =>
  pvv prog (Instr.sliceAt 61 t_34 (some i_p1) (some j_p2) none) w fun t_64 w =>
  ef prog (oCall (.func (.func 57) #[] #[]) #[t_64, v_p3]) w fun t_65 w =>
  pvv prog (Op.unary .not t_65) w fun t_66 w =>
  cd t_66 (
    dr w fun w =>
    pvv prog (Instr.sliceAt 61 t_34 (some i_p1) (some j_p2) none) w fun t_67 w =>
    pvv prog (Instr.sliceAt 61 v_p3 (some t_63) none none) w fun t_68 w =>
    ef prog (oBi .copy #[61, 61] 3 #[false, false] #[t_67, t_68]) w fun t_69 w =>
    dr w fun w =>
    pv prog (oBi .len #[61] 3 #[false] #[s_p0]) w fun t_70 w =>
    pvv prog (Instr.sliceAt 61 t_34 (some t_70) none none) w fun t_71 w =>
    pvv prog (Instr.sliceAt 61 v_p3 none (some t_63) none) w fun t_72 w =>
    ef prog (oBi .copy #[61, 61] 3 #[false, false] #[t_71, t_72]) w fun t_73 w =>
    pvv prog (Instr.sliceAt 61 t_34 (some i_p1) none none) w fun t_74 w =>
    Calls prog 58 #[t_74, t_63] w (Ret fun t_75 w =>
    K t_34 w)) <|
  pv prog (oBi .len #[61] 3 #[false] #[s_p0]) w fun t_78 w =>
  pvv prog (Instr.sliceAt 61 t_34 (some t_78) none none) w fun t_79 w =>
  ef prog (oCall (.func (.func 57) #[] #[]) #[t_79, v_p3]) w fun t_80 w =>
  pvv prog (Op.unary .not t_80) w fun t_81 w =>
  cd t_81 (
    dr w fun w =>
    pv prog (oBi .len #[61] 3 #[false] #[s_p0]) w fun t_82 w =>
    pvv prog (Instr.sliceAt 61 t_34 (some t_82) none none) w fun t_83 w =>
    pvv prog (Instr.sliceAt 61 v_p3 none (some t_63) none) w fun t_84 w =>
    ef prog (oBi .copy #[61, 61] 3 #[false, false] #[t_83, t_84]) w fun t_85 w =>
    dr w fun w =>
    pvv prog (Instr.sliceAt 61 t_34 (some i_p1) (some j_p2) none) w fun t_86 w =>
    pvv prog (Instr.sliceAt 61 v_p3 (some t_63) none none) w fun t_87 w =>
    ef prog (oBi .copy #[61, 61] 3 #[false, false] #[t_86, t_87]) w fun t_88 w =>
    pvv prog (Instr.sliceAt 61 t_34 (some i_p1) none none) w fun t_89 w =>
    Calls prog 58 #[t_89, t_63] w (Ret fun t_90 w =>
    K t_34 w)) <|
  pvv prog (Instr.sliceAt 61 s_p0 (some j_p2) none none) w fun t_93 w =>
  Calls prog 119 #[v_p3, t_93] w (Ret fun t_94 w =>
  pvv prog (Instr.sliceAt 61 t_34 (some i_p1) none none) w fun t_95 w =>
  ef prog (oBi .copy #[61, 61] 3 #[false, false] #[t_95, v_p3]) w fun t_96 w =>
  dr w fun w =>
  pv prog (oBi .len #[61] 3 #[false] #[v_p3]) w fun t_97 w =>
  pvv prog (binOp .add 3 i_p1 t_97) w fun t_98 w =>
  pvv prog (Instr.sliceAt 61 t_34 (some t_98) none none) w fun t_99 w =>
  pvv prog (binOp .add 3 i_p1 t_94) w fun t_100 w =>
  pvv prog (Instr.sliceAt 61 t_34 (some t_100) none none) w fun t_101 w =>
  ef prog (oBi .copy #[61, 61] 3 #[false, false] #[t_99, t_101]) w fun t_102 w =>
  K t_34 w)
theorem B83_eq (s_p0 i_p1 j_p2 v_p3 : Value) (w : World) (K : Value → World → Prop) : denFn prog Tryz.f83 T83 [s_p0, i_p1, j_p2, v_p3] w K = B83 s_p0 i_p1 j_p2 v_p3 w K := by kernel_rfl
theorem c83 {s_p0 i_p1 j_p2 v_p3 : Value} {w : World} {K : Value → World → Prop} (h : B83 s_p0 i_p1 j_p2 v_p3 w K) : Calls prog 83 #[s_p0, i_p1, j_p2, v_p3] w (Ret K) :=
  denFn_calls Tryz.func83 T83_ok (Eq.mpr (B83_eq s_p0 i_p1 j_p2 v_p3 w K) h)

-- 8 (*holdfast/tree.Tree).Check
def T8 : AnnD := (.seq .none (.seq (.seq .none (.seq (.seq .none .none) .none)) (.here (.seq .none (.seq .none (.meet 1073709056 [] (.seq .none (.seq .none .none)) (.seq (.seq .none (.block (.loop 151115727451794287100352 [6] (.seq (.seq .none (.seq .none .none)) (.block (.seq (.seq .none (.seq (.seq .none .none) .none)) (.seq .none (.seq .none (.seq .none (.draw [.op 0 .pure, .op 1 .pure, .op 5 .pure, .op 6 .pure, .op 2 .load, .op 3 .pure, .op 4 .pure, .op 7 .load, .op 8 .pure, .op 9 .pure, .op 10 .pure])))))))))) (.seq (.seq (.draw [.op 0 .pure, .op 2 .pure, .op 3 .pure, .op 4 .pure, .op 5 .pure, .op 1 .load, .op 6 .load, .op 7 .pure, .op 8 .pure]) (.seq (.seq .none .none) .none)) (.seq (.seq .none (.block (.loop 324513601898269585262056424079872 [9] (.seq (.seq .none (.seq .none .none)) (.seq (.block .none) .none))))) (.seq .none (.seq .none (.seq .none .none))))))))))))
theorem T8_ok : chkFnD prog Tryz.f8 T8 = true := by kernel_rfl
def B8 (t_p0 : Value) (w : World) (K : Value → World → Prop) : Prop :=
  efv prog (Instr.alloc 31 true (.tuple #[])) w fun r_0 w =>
  efv prog (Instr.alloc 24 true (.tuple #[])) w fun e_1 w =>
  pvv prog (oEq .eql 23 (.tmp 10) (.const (.pointer none)) t_p0 (.pointer none)) w fun t_2 w =>
  cd t_2 (
    pvv prog (Instr.build 31 #[]) w fun t_3 w =>
    efu prog (Instr.storeAt 31 r_0 t_3) w fun u_4 w =>
    efu prog (Instr.storeAt 24 e_1 (.int .i64 1)) w fun u_5 w =>
    ∃ r_6, (do loadVar 31 (← asAddr r_0)).run prog w = .ok r_6 w ∧ ∃ r_7, (do loadVar 24 (← asAddr e_1)).run prog w = .ok r_7 w ∧ K (.tuple #[r_6, r_7]) w) <|
  pvv prog (Instr.makeFunc (.func 24) #[] #[r_0, e_1]) w fun t_8 w =>
  isFn t_8 ∧
  efv prog (Instr.makeMap 76 none) w fun t_9 w =>
  efv prog (Instr.alloc 22 true (.tuple #[])) w fun last_10 w =>
  jn (fun σ w => fin σ <|
    pv prog (oNil t_p0) w fun t_11 w =>
    pvv prog (Instr.fieldAt 73 t_11 0) w fun t_12 w =>
    pvv prog (Instr.fieldAt 71 t_12 1) w fun t_13 w =>
    ldv prog (Instr.loadAt 3 t_13) w fun t_14 w =>
    lp (fun σ w again_16 => pop σ fun n_15 σ => fin σ <|
      pvv prog (oEq .neq 3 (.tmp 35) (.const (.int .i64 0)) n_15 (.int .i64 0)) w fun t_17 w =>
      cd t_17 (
        pv prog (oNil t_p0) w fun t_18 w =>
        pvv prog (Instr.fieldAt 73 t_18 0) w fun t_19 w =>
        pvv prog (Instr.fieldAt 71 t_19 2) w fun t_20 w =>
        ldv prog (Instr.loadAt 3 t_20) w fun t_21 w =>
        pvv prog (binOp .geq 3 n_15 t_21) w fun t_22 w =>
        gate (some (t_22, false)) (fun K => K t_9 w) w fun t_23 w =>
        gate (some (t_22, false)) (fun K => K n_15 w) w fun t_24 w =>
        gate (some (t_22, false)) (fun K => ldv prog (Instr.lookup 76 t_23 t_24 false) w K) w fun t_25 w =>
        pv prog (oPick t_22 (.bool true) t_25) w fun t_26 w =>
        cd t_26 (
          pvv prog (Instr.build 31 #[]) w fun t_27 w =>
          efu prog (Instr.storeAt 31 r_0 t_27) w fun u_28 w =>
          efu prog (Instr.storeAt 24 e_1 (.int .i64 15)) w fun u_29 w =>
          dfr prog t_8 w fun w => ∃ r_30, (do loadVar 31 (← asAddr r_0)).run prog w = .ok r_30 w ∧ ∃ r_31, (do loadVar 24 (← asAddr e_1)).run prog w = .ok r_31 w ∧ K (.tuple #[r_30, r_31]) w) <|
        efu prog (Instr.mapUpdate 76 t_9 n_15 (.bool true)) w fun u_32 w =>
        pvv prog (Instr.fieldAt 31 r_0 2) w fun t_33 w =>
        ldv prog (Instr.loadAt 29 t_33) w fun t_34 w =>
        efv prog (Instr.buildSlice 29 1 #[(0, n_15)]) w fun t_35 w =>
        ef prog (oBi .append #[29, 29] 29 #[false, false] #[t_34, t_35]) w fun t_36 w =>
        pvv prog (Instr.fieldAt 31 r_0 2) w fun t_37 w =>
        efu prog (Instr.storeAt 29 t_37 t_36) w fun u_38 w =>
        pv prog (oNil t_p0) w fun t_39 w =>
        pvv prog (Instr.fieldAt 73 t_39 1) w fun t_40 w =>
        ldv prog (Instr.loadAt 55 t_40) w fun t_41 w =>
        Calls prog 26 #[t_41, n_15] w (Ret fun t_42 w =>
        pvv prog (Instr.extract t_42 0) w fun t_43 w =>
        pvv prog (Instr.extract t_42 1) w fun t_44 w =>
        dr w fun w =>
        pvv prog (Instr.indexAt 22 t_43 (.int .i64 1)) w fun t_45 w =>
        pvv prog (Instr.indexAt 22 t_43 (.int .i64 2)) w fun t_46 w =>
        bindS (vN (Instr.loadAt 5 t_45)) fun m_48 => ldv prog (Instr.loadAt 5 t_45) w fun t_47 w =>
        pvv prog (convert 5 3 t_47) w fun t_49 w =>
        pvv prog (binOp .shl 3 t_49 (.int .u64 8)) w fun t_50 w =>
        bindS (vN (Instr.loadAt 5 t_46)) fun m_52 => ldv prog (Instr.loadAt 5 t_46) w fun t_51 w =>
        pvv prog (convert 5 3 t_51) w fun t_53 w =>
        pvv prog (binOp .or 3 t_50 t_53) w fun t_54 w =>
        again_16 [t_54] w)) <|
      dr w fun w =>
      pv prog (oNil t_p0) w fun t_55 w =>
      pvv prog (Instr.fieldAt 73 t_55 0) w fun t_56 w =>
      pvv prog (Instr.fieldAt 71 t_56 2) w fun t_57 w =>
      bindS (oBi .len #[76] 3 #[false] #[t_9]) fun m_59 => ld prog (oBi .len #[76] 3 #[false] #[t_9]) w fun t_58 w =>
      bindS (vN (Instr.loadAt 3 t_57)) fun m_61 => ldv prog (Instr.loadAt 3 t_57) w fun t_60 w =>
      pvv prog (binOp .sub 3 t_60 (.int .i64 1)) w fun t_62 w =>
      pvv prog (oEq .neq 3 (.tmp 78) (.tmp 84) t_58 t_62) w fun t_63 w =>
      cd t_63 (
        pvv prog (Instr.build 31 #[]) w fun t_64 w =>
        efu prog (Instr.storeAt 31 r_0 t_64) w fun u_65 w =>
        efu prog (Instr.storeAt 24 e_1 (.int .i64 15)) w fun u_66 w =>
        dfr prog t_8 w fun w => ∃ r_67, (do loadVar 31 (← asAddr r_0)).run prog w = .ok r_67 w ∧ ∃ r_68, (do loadVar 24 (← asAddr e_1)).run prog w = .ok r_68 w ∧ K (.tuple #[r_67, r_68]) w) <|
      pv prog (oNil t_p0) w fun t_69 w =>
      pvv prog (Instr.fieldAt 73 t_69 0) w fun t_70 w =>
      pvv prog (Instr.fieldAt 71 t_70 2) w fun t_71 w =>
      ldv prog (Instr.loadAt 3 t_71) w fun t_72 w =>
      lp (fun σ w again_74 => pop σ fun n_73 σ => fin σ <|
        pv prog (oNil t_p0) w fun t_75 w =>
        pvv prog (Instr.fieldAt 73 t_75 1) w fun t_76 w =>
        ldv prog (Instr.loadAt 55 t_76) w fun t_77 w =>
        Calls prog 27 #[t_77] w (Ret fun t_78 w =>
        Calls prog 28 #[t_78] w (Ret fun t_79 w =>
        pvv prog (binOp .lss 3 n_73 t_79) w fun t_80 w =>
        cd t_80 (
          pvv prog (Instr.fieldAt 31 r_0 3) w fun t_81 w =>
          ldv prog (Instr.loadAt 29 t_81) w fun t_82 w =>
          efv prog (Instr.buildSlice 29 1 #[(0, n_73)]) w fun t_83 w =>
          ef prog (oBi .append #[29, 29] 29 #[false, false] #[t_82, t_83]) w fun t_84 w =>
          pvv prog (Instr.fieldAt 31 r_0 3) w fun t_85 w =>
          efu prog (Instr.storeAt 29 t_85 t_84) w fun u_86 w =>
          pvv prog (binOp .add 3 n_73 (.int .i64 1)) w fun t_87 w =>
          again_74 [t_87] w) <|
        pvv prog (Instr.fieldAt 31 r_0 1) w fun t_88 w =>
        ldv prog (Instr.loadAt 29 t_88) w fun t_89 w =>
        Calls prog 29 #[t_89] w (Ret fun t_90 w =>
        pvv prog (Instr.fieldAt 31 r_0 2) w fun t_91 w =>
        ldv prog (Instr.loadAt 29 t_91) w fun t_92 w =>
        Calls prog 29 #[t_92] w (Ret fun t_93 w =>
        ldv prog (Instr.loadAt 31 r_0) w fun t_94 w =>
        efu prog (Instr.storeAt 31 r_0 t_94) w fun u_95 w =>
        efu prog (Instr.storeAt 24 e_1 (.int .i64 0)) w fun u_96 w =>
        dfr prog t_8 w fun w => ∃ r_97, (do loadVar 31 (← asAddr r_0)).run prog w = .ok r_97 w ∧ ∃ r_98, (do loadVar 24 (← asAddr e_1)).run prog w = .ok r_98 w ∧ K (.tuple #[r_97, r_98]) w))))) [t_72] w) [t_14] w) fun k_99 =>
  pv prog (oNil t_p0) w fun t_100 w =>
  pvv prog (Instr.fieldAt 73 t_100 0) w fun t_101 w =>
  pvv prog (Instr.fieldAt 71 t_101 0) w fun t_102 w =>
  ldv prog (Instr.loadAt 3 t_102) w fun t_103 w =>
  pvv prog (oEq .neq 3 (.tmp 19) (.const (.int .i64 0)) t_103 (.int .i64 0)) w fun t_104 w =>
  cd t_104 (
    pv prog (oNil t_p0) w fun t_105 w =>
    pvv prog (Instr.fieldAt 73 t_105 0) w fun t_106 w =>
    pvv prog (Instr.fieldAt 71 t_106 0) w fun t_107 w =>
    ldv prog (Instr.loadAt 3 t_107) w fun t_108 w =>
    Calls prog 25 #[t_p0, t_108, r_0, last_10, t_9] w (Ret fun t_109 w =>
    pvv prog (Instr.fieldAt 31 r_0 0) w fun t_110 w =>
    efu prog (Instr.storeAt 3 t_110 t_109) w fun u_111 w =>
    k_99 [] w)) <|
  k_99 [] w
theorem B8_eq (t_p0 : Value) (w : World) (K : Value → World → Prop) : denFnD prog Tryz.f8 T8 [t_p0] w K = B8 t_p0 w K := by kernel_rfl
theorem c8 {t_p0 : Value} {w : World} {K : Value → World → Prop} (h : B8 t_p0 w K) : Calls prog 8 #[t_p0] w (Ret K) :=
  denFnD_calls Tryz.func8 T8_ok (Eq.mpr (B8_eq t_p0 w K) h)

-- 50 (holdfast/tree.node).page
def T50 : Ann := (.seq .none (.seq .none (.seq (.draw [.op 0 .pure, .op 1 .pure, .op 2 .pure, .op 3 .pure, .op 8 .pure, .op 12 .pure, .op 4 .load, .op 5 .pure, .op 6 .pure, .op 7 .pure, .op 9 .load, .op 10 .pure, .op 11 .pure, .op 13 .eff, .op 14 .pure, .op 15 .eff, .op 16 .pure, .op 17 .eff]) (.meet 62914560 [] (.seq .none (.seq .none .none)) (.seq (.seq .none (.block (.loop 73786976294301335592 [3, 29] (.seq .none (.seq (.seq .none .none) (.meet 36893488145271619624 [3] (.block (.seq .none (.seq (.draw [.op 0 .pure, .op 1 .pure, .op 7 .pure, .op 2 .load, .op 3 .pure, .op 4 .pure, .op 8 .load, .op 5 .eff, .op 6 .eff, .op 9 .eff, .op 10 .pure]) (.seq .none (.seq (.draw [.op 0 .pure, .op 1 .pure, .op 7 .pure, .op 2 .load, .op 3 .pure, .op 4 .pure, .op 8 .load, .op 5 .eff, .op 6 .eff, .op 9 .eff, .op 10 .pure]) .none))))) .none)))))) (.seq .none .none))))))
theorem T50_ok : chkFn prog Tryz.f50 T50 = true := by kernel_rfl
def B50 (n_p0 : Value) (w : World) (K : Value → World → Prop) : Prop :=
  efv prog (Instr.box 63 n_p0) w fun n_0 w =>
  efv prog (Instr.makeSlice 22 (.int .i64 3) (.int .i64 256)) w fun t_1 w =>
  dr w fun w =>
  pvv prog (Instr.fieldAt 63 n_0 1) w fun t_2 w =>
  pvv prog (Instr.fieldAt 63 n_0 1) w fun t_3 w =>
  pvv prog (Instr.indexAt 22 t_1 (.int .i64 0)) w fun t_4 w =>
  bindS (vN (Instr.loadAt 61 t_2)) fun m_6 => ldv prog (Instr.loadAt 61 t_2) w fun t_5 w =>
  pv prog (oBi .len #[61] 3 #[false] #[t_5]) w fun t_7 w =>
  pvv prog (binOp .shr 3 t_7 (.int .u64 8)) w fun t_8 w =>
  pvv prog (convert 3 5 t_8) w fun t_9 w =>
  bindS (vN (Instr.loadAt 61 t_3)) fun m_11 => ldv prog (Instr.loadAt 61 t_3) w fun t_10 w =>
  pv prog (oBi .len #[61] 3 #[false] #[t_10]) w fun t_12 w =>
  pvv prog (convert 3 5 t_12) w fun t_13 w =>
  efu prog (Instr.storeAt 5 t_4 (.int .u8 73)) w fun u_14 w => stay prog none m_11 t_10 w <| stay prog none m_6 t_5 w <| 
  pvv prog (Instr.indexAt 22 t_1 (.int .i64 1)) w fun t_15 w =>
  efu prog (Instr.storeAt 5 t_15 t_9) w fun u_16 w => stay prog none m_11 t_10 w <| 
  pvv prog (Instr.indexAt 22 t_1 (.int .i64 2)) w fun t_17 w =>
  efu prog (Instr.storeAt 5 t_17 t_13) w fun u_18 w =>
  jn (fun σ w => fin σ <|
    pvv prog (Instr.fieldAt 63 n_0 1) w fun t_19 w =>
    ldv prog (Instr.loadAt 61 t_19) w fun t_20 w =>
    pv prog (oBi .len #[61] 3 #[false] #[t_20]) w fun t_21 w =>
    lp (fun σ w again_24 => pop σ fun b_22 σ => pop σ fun t_23 σ => fin σ <|
      pvv prog (binOp .lss 3 t_23 t_21) w fun t_25 w =>
      cd t_25 (
        jn (fun σ w => pop σ fun b_26 σ => fin σ <|
          pvv prog (binOp .add 3 t_23 (.int .i64 1)) w fun t_27 w =>
          again_24 [b_26, t_27] w) fun k_28 =>
        pvv prog (Instr.indexAt 61 t_20 t_23) w fun t_29 w =>
        ldv prog (Instr.loadAt 67 t_29) w fun t_30 w =>
        efv prog (Instr.alloc 67 true (.tuple #[])) w fun e_31 w =>
        efu prog (Instr.storeAt 67 e_31 t_30) w fun u_32 w =>
        dr w fun w =>
        pvv prog (Instr.fieldAt 67 e_31 0) w fun t_33 w =>
        pvv prog (Instr.fieldAt 67 e_31 0) w fun t_34 w =>
        bindS (vN (Instr.loadAt 22 t_33)) fun m_36 => ldv prog (Instr.loadAt 22 t_33) w fun t_35 w =>
        pv prog (oBi .len #[22] 3 #[false] #[t_35]) w fun t_37 w =>
        pvv prog (convert 3 5 t_37) w fun t_38 w =>
        bindS (vN (Instr.loadAt 22 t_34)) fun m_40 => ldv prog (Instr.loadAt 22 t_34) w fun t_39 w =>
        efv prog (Instr.buildSlice 22 1 #[(0, t_38)]) w fun t_41 w => stay prog none m_40 t_39 w <| stay prog none m_36 t_35 w <| 
        ef prog (oBi .append #[22, 22] 22 #[false, false] #[b_22, t_41]) w fun t_42 w => stay prog none m_40 t_39 w <| stay prog none m_36 t_35 w <| 
        ef prog (oBi .append #[22, 22] 22 #[false, false] #[t_42, t_39]) w fun t_43 w => stay prog none m_36 t_35 w <| 
        pvv prog (Instr.fieldAt 63 n_0 0) w fun t_44 w =>
        ldv prog (Instr.loadAt 4 t_44) w fun t_45 w =>
        cd t_45 (
          dr w fun w =>
          pvv prog (Instr.fieldAt 67 e_31 1) w fun t_46 w =>
          pvv prog (Instr.fieldAt 67 e_31 1) w fun t_47 w =>
          bindS (vN (Instr.loadAt 22 t_46)) fun m_49 => ldv prog (Instr.loadAt 22 t_46) w fun t_48 w =>
          pv prog (oBi .len #[22] 3 #[false] #[t_48]) w fun t_50 w =>
          pvv prog (convert 3 5 t_50) w fun t_51 w =>
          bindS (vN (Instr.loadAt 22 t_47)) fun m_53 => ldv prog (Instr.loadAt 22 t_47) w fun t_52 w =>
          efv prog (Instr.buildSlice 22 1 #[(0, t_51)]) w fun t_54 w => stay prog none m_53 t_52 w <| stay prog none m_49 t_48 w <| 
          ef prog (oBi .append #[22, 22] 22 #[false, false] #[t_43, t_54]) w fun t_55 w => stay prog none m_53 t_52 w <| stay prog none m_49 t_48 w <| 
          ef prog (oBi .append #[22, 22] 22 #[false, false] #[t_55, t_52]) w fun t_56 w => stay prog none m_49 t_48 w <| 
          k_28 [t_56] w) <|
        pvv prog (Instr.fieldAt 67 e_31 2) w fun t_60 w =>
        ldv prog (Instr.loadAt 3 t_60) w fun t_61 w =>
        pvv prog (binOp .shr 3 t_61 (.int .u64 8)) w fun t_62 w =>
        pvv prog (convert 3 5 t_62) w fun t_63 w =>
        pvv prog (Instr.fieldAt 67 e_31 2) w fun t_64 w =>
        ldv prog (Instr.loadAt 3 t_64) w fun t_65 w =>
        pvv prog (convert 3 5 t_65) w fun t_66 w =>
        efv prog (Instr.buildSlice 22 2 #[(0, t_63), (1, t_66)]) w fun t_67 w =>
        ef prog (oBi .append #[22, 22] 22 #[false, false] #[t_43, t_67]) w fun t_68 w =>
        k_28 [t_68] w) <|
      pvv prog (Instr.sliceAt 22 b_22 none (some (.int .i64 256)) (some (.int .i64 256))) w fun t_72 w =>
      K t_72 w) [t_1, (.int .i64 0)] w) fun k_73 =>
  pvv prog (Instr.fieldAt 63 n_0 0) w fun t_74 w =>
  ldv prog (Instr.loadAt 4 t_74) w fun t_75 w =>
  cd t_75 (
    pvv prog (Instr.indexAt 22 t_1 (.int .i64 0)) w fun t_76 w =>
    efu prog (Instr.storeAt 5 t_76 (.int .u8 76)) w fun u_77 w =>
    k_73 [] w) <|
  k_73 [] w
theorem B50_eq (n_p0 : Value) (w : World) (K : Value → World → Prop) : denFn prog Tryz.f50 T50 [n_p0] w K = B50 n_p0 w K := by kernel_rfl
theorem c50 {n_p0 : Value} {w : World} {K : Value → World → Prop} (h : B50 n_p0 w K) : Calls prog 50 #[n_p0] w (Ret K) :=
  denFn_calls Tryz.func50 T50_ok (Eq.mpr (B50_eq n_p0 w K) h)

-- 64 (*holdfast/pager.Pager).use
def T64 : Ann := (.seq .none (.seq .none (.meet 34359607328 [5] (.seq .none (.seq .none (.seq .none .none))) (.seq .none (.seq (.drawT [.op 5 .pure, .op 0 .load, .op 1 .load, .op 2 .pure, .op 3 .pure, .op 4 .load, .op 6 .eff, .op 7 .eff, .op 8 .pure, .op 9 .pure, .op 10 .eff]) (.seq .none (.meet 2417851621214859839930496 [] (.seq (.drawT [.op 0 .load, .op 1 .pure, .op 2 .pure, .op 3 .load, .op 4 .pure, .op 5 .load, .op 6 .pure, .op 7 .pure, .op 8 .load, .op 9 .pure]) (.seq (.seq .none (.seq .none (.seq (.drawT [.op 5 .pure, .op 0 .load, .op 1 .load, .op 2 .pure, .op 3 .pure, .op 4 .load, .op 6 .pure, .op 7 .load, .op 8 .eff]) .none))) .none)) (.seq .none .none))))))))
theorem T64_ok : chkFn prog Tryz.f64 T64 = true := by kernel_rfl
def B64 (p_p0 n_p1 : Value) (w : World) (K : Value → World → Prop) : Prop :=
  efv prog (Instr.box 55 p_p0) w fun p_0 w =>
  ldv prog (Instr.loadAt 55 p_0) w fun t_1 w =>
  pv prog (oNil t_1) w fun t_2 w =>
  pvv prog (Instr.fieldAt 119 t_2 3) w fun t_3 w =>
  ldv prog (Instr.loadAt 117 t_3) w fun t_4 w =>
  ldv prog (Instr.lookup 117 t_4 n_p1 true) w fun t_5 w =>
  pvv prog (Instr.extract t_5 0) w fun t_6 w =>
  pvv prog (Instr.extract t_5 1) w fun t_7 w =>
  jn (fun σ w => pop σ fun b_8 σ => fin σ <|
    ldv prog (Instr.loadAt 55 p_0) w fun t_9 w =>
    Calls prog 100 #[t_9, n_p1] w (Ret fun t_10 w =>
    dr w fun w =>
    bindS (vN (Instr.loadAt 55 p_0)) fun m_12 => ldv prog (Instr.loadAt 55 p_0) w fun t_11 w =>
    bindS (vN (Instr.loadAt 55 p_0)) fun m_14 => ldv prog (Instr.loadAt 55 p_0) w fun t_13 w =>
    pv prog (oNil t_13) w fun t_15 w =>
    pvv prog (Instr.fieldAt 119 t_15 4) w fun t_16 w =>
    bindS (vN (Instr.loadAt 29 t_16)) fun m_18 => ldv prog (Instr.loadAt 29 t_16) w fun t_17 w =>
    efv prog (Instr.buildSlice 29 1 #[(0, n_p1)]) w fun t_19 w => stay prog none m_18 t_17 w <| stay prog none m_14 t_13 w <| stay prog none m_12 t_11 w <| 
    ef prog (oBi .append #[29, 29] 29 #[false, false] #[t_17, t_19]) w fun t_20 w => stay prog none m_12 t_11 w <| 
    pv prog (oNil t_11) w fun t_21 w =>
    pvv prog (Instr.fieldAt 119 t_21 4) w fun t_22 w =>
    efu prog (Instr.storeAt 29 t_22 t_20) w fun u_23 w =>
    ldv prog (Instr.loadAt 55 p_0) w fun t_24 w =>
    pv prog (oNil t_24) w fun t_25 w =>
    pvv prog (Instr.fieldAt 119 t_25 3) w fun t_26 w =>
    ldv prog (Instr.loadAt 117 t_26) w fun t_27 w =>
    efu prog (Instr.mapUpdate 117 t_27 n_p1 b_8) w fun u_28 w =>
    jn (fun σ w => fin σ <|
      Calls prog 35 #[b_8] w (Ret fun t_29 w =>
      K t_29 w)) fun k_30 =>
    dr w fun w =>
    bindS (vN (Instr.loadAt 55 p_0)) fun m_32 => ldv prog (Instr.loadAt 55 p_0) w fun t_31 w =>
    pv prog (oNil t_31) w fun t_33 w =>
    pvv prog (Instr.fieldAt 119 t_33 4) w fun t_34 w =>
    bindS (vN (Instr.loadAt 29 t_34)) fun m_36 => ldv prog (Instr.loadAt 29 t_34) w fun t_35 w =>
    pv prog (oBi .len #[29] 3 #[false] #[t_35]) w fun t_37 w =>
    bindS (vN (Instr.loadAt 55 p_0)) fun m_39 => ldv prog (Instr.loadAt 55 p_0) w fun t_38 w =>
    pv prog (oNil t_38) w fun t_40 w =>
    pvv prog (Instr.fieldAt 119 t_40 1) w fun t_41 w =>
    bindS (vN (Instr.loadAt 3 t_41)) fun m_43 => ldv prog (Instr.loadAt 3 t_41) w fun t_42 w =>
    pvv prog (binOp .gtr 3 t_37 t_42) w fun t_44 w =>
    cd t_44 (
      ldv prog (Instr.loadAt 55 p_0) w fun t_45 w =>
      pv prog (oNil t_45) w fun t_46 w =>
      pvv prog (Instr.fieldAt 119 t_46 4) w fun t_47 w =>
      ldv prog (Instr.loadAt 29 t_47) w fun t_48 w =>
      pvv prog (Instr.makeFunc (.func 102) #[] #[p_0]) w fun t_49 w =>
      Calls prog 101 #[t_48, t_49] w (Ret fun t_50 w =>
      pvv prog (binOp .geq 3 t_50 (.int .i64 0)) w fun t_51 w =>
      cd t_51 (
        dr w fun w =>
        bindS (vN (Instr.loadAt 55 p_0)) fun m_53 => ldv prog (Instr.loadAt 55 p_0) w fun t_52 w =>
        bindS (vN (Instr.loadAt 55 p_0)) fun m_55 => ldv prog (Instr.loadAt 55 p_0) w fun t_54 w =>
        pv prog (oNil t_54) w fun t_56 w =>
        pvv prog (Instr.fieldAt 119 t_56 4) w fun t_57 w =>
        bindS (vN (Instr.loadAt 29 t_57)) fun m_59 => ldv prog (Instr.loadAt 29 t_57) w fun t_58 w =>
        pvv prog (Instr.indexAt 29 t_58 t_50) w fun t_60 w =>
        bindS (vN (Instr.loadAt 3 t_60)) fun m_62 => ldv prog (Instr.loadAt 3 t_60) w fun t_61 w =>
        Calls prog 100 #[t_52, t_61] w (Ret fun t_63 w => stay prog none m_55 t_54 w <| 
        k_30 [] w)) <|
      k_30 [] w)) <|
    k_30 [] w)) fun k_68 =>
  cd t_7 (
    ldv prog (Instr.loadAt 55 p_0) w fun t_69 w =>
    pv prog (oNil t_69) w fun t_70 w =>
    pvv prog (Instr.fieldAt 119 t_70 6) w fun t_71 w =>
    Calls prog 98 #[t_71, (.int .i64 1)] w (Ret fun t_72 w =>
    k_68 [t_6] w)) <|
  ldv prog (Instr.loadAt 55 p_0) w fun t_73 w =>
  pv prog (oNil t_73) w fun t_74 w =>
  pvv prog (Instr.fieldAt 119 t_74 7) w fun t_75 w =>
  Calls prog 98 #[t_75, (.int .i64 1)] w (Ret fun t_76 w =>
  ldv prog (Instr.loadAt 55 p_0) w fun t_77 w =>
  pv prog (oNil t_77) w fun t_78 w =>
  pvv prog (Instr.fieldAt 119 t_78 0) w fun t_79 w =>
  ldv prog (Instr.loadAt 52 t_79) w fun t_80 w =>
  Calls prog 99 #[t_80, n_p1] w (Ret fun t_81 w =>
  pvv prog (Instr.extract t_81 0) w fun t_82 w =>
  pvv prog (Instr.extract t_81 1) w fun t_83 w =>
  k_68 [t_82] w))
theorem B64_eq (p_p0 n_p1 : Value) (w : World) (K : Value → World → Prop) : denFn prog Tryz.f64 T64 [p_p0, n_p1] w K = B64 p_p0 n_p1 w K := by kernel_rfl
theorem c64 {p_p0 n_p1 : Value} {w : World} {K : Value → World → Prop} (h : B64 p_p0 n_p1 w K) : Calls prog 64 #[p_p0, n_p1] w (Ret K) :=
  denFn_calls Tryz.func64 T64_ok (Eq.mpr (B64_eq p_p0 n_p1 w K) h)

-- 68 (*holdfast/tree.Tree).pairs$1
def T94 : Ann := (.seq .none (.seq (.block (.seq .none (.seq (.seq .none .none) (.seq .none (.seq (.seq .none .none) (.seq .none (.seq (.seq .none .none) .none))))))) (.seq (.draw [.op 0 .pure, .op 1 .pure, .op 2 .pure, .op 3 .pure, .op 5 .pure, .op 6 .pure, .op 7 .pure, .op 8 .pure, .op 10 .pure, .op 4 .load, .op 9 .load, .op 11 .pure, .op 12 .load, .op 13 .pure, .op 14 .eff, .op 15 .eff, .op 16 .pure, .op 17 .pure, .op 18 .eff]) (.seq .none (.seq (.draw [.op 0 .pure, .op 1 .pure, .op 2 .pure, .op 4 .pure, .op 5 .pure, .op 3 .load, .op 6 .eff, .op 7 .pure, .op 8 .eff]) (.seq .none .none))))))
theorem T94_ok : chkFn prog Tryz.f94 T94 = true := by kernel_rfl
def B94 (d_p0 n_p1 b_p2 : Value) (w : World) (K : Value → World → Prop) : Prop :=
  pvv prog (oEq .eql 49 (.tmp 8) (.const (.pointer none)) d_p0 (.pointer none)) w fun t_0 w =>
  cd t_0 (
    K (.int .i64 1) w) <|
  pvv prog (binOp .lss 3 n_p1 (.int .i64 0)) w fun t_1 w =>
  gate (some (t_1, false)) (fun K => K n_p1 w) w fun t_2 w =>
  gate (some (t_1, false)) (fun K => K d_p0 w) w fun t_3 w =>
  gate (some (t_1, false)) (fun K => pv prog (oNil t_3) w K) w fun t_4 w =>
  gate (some (t_1, false)) (fun K => pvv prog (Instr.fieldAt 107 t_4 0) w K) w fun t_5 w =>
  gate (some (t_1, false)) (fun K => ldv prog (Instr.loadAt 36 t_5) w K) w fun t_6 w =>
  gate (some (t_1, false)) (fun K => pv prog (oBi .len #[36] 3 #[false] #[t_6]) w K) w fun t_7 w =>
  gate (some (t_1, false)) (fun K => pvv prog (binOp .geq 3 t_2 t_7) w K) w fun t_8 w =>
  pv prog (oPick t_1 (.bool true) t_8) w fun t_9 w =>
  cd t_9 (
    K (.int .i64 2) w) <|
  pv prog (oBi .len #[22] 3 #[false] #[b_p2]) w fun t_10 w =>
  pvv prog (oEq .neq 3 (.tmp 24) (.const (.int .i64 256)) t_10 (.int .i64 256)) w fun t_11 w =>
  cd t_11 (
    K (.int .i64 3) w) <|
  dr w fun w =>
  pv prog (oNil d_p0) w fun t_12 w =>
  pvv prog (Instr.fieldAt 107 t_12 1) w fun t_13 w =>
  pv prog (oNil d_p0) w fun t_14 w =>
  pvv prog (Instr.fieldAt 107 t_14 0) w fun t_15 w =>
  bindS (vN (Instr.loadAt 100 t_13)) fun m_17 => ldv prog (Instr.loadAt 100 t_13) w fun t_16 w =>
  bindS (vN (Instr.loadAt 36 t_15)) fun m_19 => ldv prog (Instr.loadAt 36 t_15) w fun t_18 w =>
  pvv prog (Instr.indexAt 36 t_18 n_p1) w fun t_20 w =>
  bindS (vN (Instr.loadAt 22 t_20)) fun m_22 => ldv prog (Instr.loadAt 22 t_20) w fun t_21 w =>
  pvv prog (Instr.build 190 #[(0, n_p1), (1, t_21)]) w fun t_23 w =>
  efv prog (Instr.buildSlice 100 1 #[(0, t_23)]) w fun t_24 w => stay prog none m_22 t_21 w <| stay prog none m_19 t_18 w <| stay prog none m_17 t_16 w <| 
  ef prog (oBi .append #[100, 100] 100 #[false, false] #[t_16, t_24]) w fun t_25 w => stay prog none m_22 t_21 w <| stay prog none m_19 t_18 w <| 
  pv prog (oNil d_p0) w fun t_26 w =>
  pvv prog (Instr.fieldAt 107 t_26 1) w fun t_27 w =>
  efu prog (Instr.storeAt 100 t_27 t_25) w fun u_28 w =>
  pv prog (oNil d_p0) w fun t_29 w =>
  pvv prog (Instr.fieldAt 107 t_29 2) w fun t_30 w =>
  Calls prog 98 #[t_30, (.int .i64 1)] w (Ret fun t_31 w =>
  dr w fun w =>
  pv prog (oNil d_p0) w fun t_32 w =>
  pvv prog (Instr.fieldAt 107 t_32 0) w fun t_33 w =>
  bindS (vN (Instr.loadAt 36 t_33)) fun m_35 => ldv prog (Instr.loadAt 36 t_33) w fun t_34 w =>
  Calls prog 35 #[b_p2] w (Ret fun t_36 w => stay prog none m_35 t_34 w <| 
  pvv prog (Instr.indexAt 36 t_34 n_p1) w fun t_37 w =>
  efu prog (Instr.storeAt 22 t_37 t_36) w fun u_38 w =>
  K (.int .i64 0) w))
theorem B94_eq (d_p0 n_p1 b_p2 : Value) (w : World) (K : Value → World → Prop) : denFn prog Tryz.f94 T94 [d_p0, n_p1, b_p2] w K = B94 d_p0 n_p1 b_p2 w K := by kernel_rfl
theorem c94 {d_p0 n_p1 b_p2 : Value} {w : World} {K : Value → World → Prop} (h : B94 d_p0 n_p1 b_p2 w K) : Calls prog 94 #[d_p0, n_p1, b_p2] w (Ret K) :=
  denFn_calls Tryz.func94 T94_ok (Eq.mpr (B94_eq d_p0 n_p1 b_p2 w K) h)

-- 51 (*holdfast/tree.change).at
def T51 : Ann := (.seq .none (.seq .none (.seq (.seq .none (.seq (.seq .none .none) .none)) (.seq .none (.seq (.draw [.op 0 .pure, .op 1 .pure, .op 3 .pure, .op 7 .pure, .op 9 .pure, .op 13 .pure, .op 14 .pure, .op 2 .load, .op 4 .pure, .op 5 .pure, .op 6 .load, .op 8 .load, .op 10 .pure, .op 11 .pure, .op 12 .load, .op 15 .eff, .op 16 .pure]) (.seq .none (.seq .none .none)))))))
theorem T51_ok : chkFn prog Tryz.f51 T51 = true := by kernel_rfl
def B51 (c_p0 page_p1 low_p2 key_p3 leaf_p4 : Value) (w : World) (K : Value → World → Prop) : Prop :=
  Calls prog 52 #[c_p0, page_p1] w (Ret fun t_0 w =>
  efv prog (Instr.alloc 63 true (.tuple #[])) w fun n_1 w =>
  efu prog (Instr.storeAt 63 n_1 t_0) w fun u_2 w =>
  pvv prog (Instr.fieldAt 63 n_1 0) w fun t_3 w =>
  ldv prog (Instr.loadAt 4 t_3) w fun t_4 w =>
  cd t_4 (
    ldv prog (Instr.loadAt 63 n_1) w fun t_5 w =>
    ef prog (oCall leaf_p4 #[t_5]) w fun t_6 w =>
    Calls prog 82 #[c_p0, page_p1, low_p2, t_6] w (Ret fun t_7 w =>
    K t_7 w)) <|
  ldv prog (Instr.loadAt 63 n_1) w fun t_8 w =>
  Calls prog 21 #[t_8, key_p3] w (Ret fun t_9 w =>
  pvv prog (Instr.extract t_9 0) w fun t_10 w =>
  pvv prog (Instr.extract t_9 1) w fun t_11 w =>
  dr w fun w =>
  pvv prog (Instr.fieldAt 63 n_1 1) w fun t_12 w =>
  pvv prog (Instr.fieldAt 63 n_1 1) w fun t_13 w =>
  bindS (vN (Instr.loadAt 61 t_12)) fun m_15 => ldv prog (Instr.loadAt 61 t_12) w fun t_14 w =>
  pvv prog (Instr.indexAt 61 t_14 t_10) w fun t_16 w =>
  pvv prog (Instr.fieldAt 67 t_16 2) w fun t_17 w =>
  bindS (vN (Instr.loadAt 3 t_17)) fun m_19 => ldv prog (Instr.loadAt 3 t_17) w fun t_18 w =>
  bindS (vN (Instr.loadAt 61 t_13)) fun m_21 => ldv prog (Instr.loadAt 61 t_13) w fun t_20 w =>
  pvv prog (Instr.indexAt 61 t_20 t_10) w fun t_22 w =>
  pvv prog (Instr.fieldAt 67 t_22 0) w fun t_23 w =>
  bindS (vN (Instr.loadAt 22 t_23)) fun m_25 => ldv prog (Instr.loadAt 22 t_23) w fun t_24 w =>
  Calls prog 51 #[c_p0, t_18, t_24, key_p3, leaf_p4] w (Ret fun t_26 w => stay prog none m_21 t_20 w <| stay prog none m_15 t_14 w <| 
  pvv prog (Instr.fieldAt 63 n_1 1) w fun t_27 w =>
  ldv prog (Instr.loadAt 61 t_27) w fun t_28 w =>
  Calls prog 84 #[t_28] w (Ret fun t_29 w =>
  pvv prog (binOp .add 3 t_10 (.int .i64 1)) w fun t_30 w =>
  Calls prog 83 #[t_29, t_10, t_30, t_26] w (Ret fun t_31 w =>
  pvv prog (Instr.fieldAt 63 n_1 1) w fun t_32 w =>
  efu prog (Instr.storeAt 61 t_32 t_31) w fun u_33 w =>
  ldv prog (Instr.loadAt 63 n_1) w fun t_34 w =>
  Calls prog 85 #[c_p0, t_34, t_10] w (Ret fun t_35 w =>
  Calls prog 82 #[c_p0, page_p1, low_p2, t_35] w (Ret fun t_36 w =>
  K t_36 w)))))))
theorem B51_eq (c_p0 page_p1 low_p2 key_p3 leaf_p4 : Value) (w : World) (K : Value → World → Prop) : denFn prog Tryz.f51 T51 [c_p0, page_p1, low_p2, key_p3, leaf_p4] w K = B51 c_p0 page_p1 low_p2 key_p3 leaf_p4 w K := by kernel_rfl
theorem c51 {c_p0 page_p1 low_p2 key_p3 leaf_p4 : Value} {w : World} {K : Value → World → Prop} (h : B51 c_p0 page_p1 low_p2 key_p3 leaf_p4 w K) : Calls prog 51 #[c_p0, page_p1, low_p2, key_p3, leaf_p4] w (Ret K) :=
  denFn_calls Tryz.func51 T51_ok (Eq.mpr (B51_eq c_p0 page_p1 low_p2 key_p3 leaf_p4 w K) h)

-- 120 slices.Concat[[]holdfast/tree.entry,holdfast/tree.entry]
def T120 : Ann := (.seq .none (.seq .none (.seq (.seq .none (.block (.loop 8386600 [3, 11] (.seq .none (.seq (.seq .none .none) (.meet 4186152 [3] (.block (.seq .none (.seq .none (.seq .none (.seq .none .none))))) .none)))))) (.seq .none (.seq (.seq .none (.block (.loop 34225520960 [6, 27] (.seq .none (.seq (.seq .none .none) (.seq (.block (.seq .none .none)) .none)))))) (.seq .none .none))))))
theorem T120_ok : chkFn prog Tryz.f120 T120 = true := by kernel_rfl
def B120 (slices_p0 : Value) (w : World) (K : Value → World → Prop) : Prop :=
  pv prog (oBi .len #[204] 3 #[false] #[slices_p0]) w fun t_0 w =>
  lp (fun σ w again_3 => pop σ fun size_1 σ => pop σ fun t_2 σ => fin σ <|
    pvv prog (binOp .lss 3 t_2 t_0) w fun t_4 w =>
    cd t_4 (
      jn (fun σ w => pop σ fun size_5 σ => fin σ <|
        pvv prog (binOp .add 3 t_2 (.int .i64 1)) w fun t_6 w =>
        again_3 [size_5, t_6] w) fun k_7 =>
      pvv prog (Instr.indexAt 204 slices_p0 t_2) w fun t_8 w =>
      ldv prog (Instr.loadAt 61 t_8) w fun t_9 w =>
      pv prog (oBi .len #[61] 3 #[false] #[t_9]) w fun t_10 w =>
      pvv prog (binOp .add 3 size_1 t_10) w fun t_11 w =>
      pvv prog (binOp .lss 3 t_11 (.int .i64 0)) w fun t_12 w =>
      cd t_12 (
        pvv prog (Instr.makeInterface 9 (.string ⟨#[108, 101, 110, 32, 111, 117, 116, 32, 111, 102, 32, 114, 97, 110, 103, 101]⟩)) w fun t_13 w =>
        efv prog (Instr.panic t_13) w fun u_14 w =>
        k_7 [t_11] w) <|
      k_7 [t_11] w) <|
    Calls prog 137 #[(.slice none 0 0), size_1] w (Ret fun t_15 w =>
    pv prog (oBi .len #[204] 3 #[false] #[slices_p0]) w fun t_16 w =>
    lp (fun σ w again_19 => pop σ fun newslice_17 σ => pop σ fun t_18 σ => fin σ <|
      pvv prog (binOp .lss 3 t_18 t_16) w fun t_20 w =>
      cd t_20 (
        pvv prog (Instr.indexAt 204 slices_p0 t_18) w fun t_21 w =>
        ldv prog (Instr.loadAt 61 t_21) w fun t_22 w =>
        ef prog (oBi .append #[61, 61] 61 #[false, false] #[newslice_17, t_22]) w fun t_23 w =>
        pvv prog (binOp .add 3 t_18 (.int .i64 1)) w fun t_24 w =>
        again_19 [t_23, t_24] w) <|
      K newslice_17 w) [t_15, (.int .i64 0)] w)) [(.int .i64 0), (.int .i64 0)] w
theorem B120_eq (slices_p0 : Value) (w : World) (K : Value → World → Prop) : denFn prog Tryz.f120 T120 [slices_p0] w K = B120 slices_p0 w K := by kernel_rfl
theorem c120 {slices_p0 : Value} {w : World} {K : Value → World → Prop} (h : B120 slices_p0 w K) : Calls prog 120 #[slices_p0] w (Ret K) :=
  denFn_calls Tryz.func120 T120_ok (Eq.mpr (B120_eq slices_p0 w K) h)

-- 81 (holdfast/tree.head).page
def T81 : Ann := (.seq .none (.seq .none (.seq .none (.seq (.seq .none (.block (.loop 1099511103536 [19] (.seq .none (.seq (.seq .none .none) (.seq (.block (.seq .none .none)) .none)))))) (.seq .none .none)))))
theorem T81_ok : chkFn prog Tryz.f81 T81 = true := by kernel_rfl
def B81 (h_p0 : Value) (w : World) (K : Value → World → Prop) : Prop :=
  efv prog (Instr.box 71 h_p0) w fun h_0 w =>
  efv prog (Instr.makeSlice 22 (.int .i64 256) (.int .i64 256)) w fun t_1 w =>
  pvv prog (Instr.indexAt 22 t_1 (.int .i64 0)) w fun t_2 w =>
  efu prog (Instr.storeAt 5 t_2 (.int .u8 72)) w fun u_3 w =>
  pvv prog (Instr.indexAt 22 t_1 (.int .i64 1)) w fun t_4 w =>
  efu prog (Instr.storeAt 5 t_4 (.int .u8 84)) w fun u_5 w =>
  pvv prog (Instr.fieldAt 71 h_0 0) w fun t_6 w =>
  ldv prog (Instr.loadAt 3 t_6) w fun t_7 w =>
  pvv prog (Instr.fieldAt 71 h_0 1) w fun t_8 w =>
  ldv prog (Instr.loadAt 3 t_8) w fun t_9 w =>
  pvv prog (Instr.fieldAt 71 h_0 2) w fun t_10 w =>
  ldv prog (Instr.loadAt 3 t_10) w fun t_11 w =>
  efv prog (Instr.buildSlice 29 3 #[(0, t_7), (1, t_9), (2, t_11)]) w fun t_12 w =>
  pv prog (oBi .len #[29] 3 #[false] #[t_12]) w fun t_13 w =>
  lp (fun σ w again_15 => pop σ fun t_14 σ => fin σ <|
    pvv prog (binOp .lss 3 t_14 t_13) w fun t_16 w =>
    cd t_16 (
      pvv prog (Instr.indexAt 29 t_12 t_14) w fun t_17 w =>
      ldv prog (Instr.loadAt 3 t_17) w fun t_18 w =>
      pvv prog (binOp .mul 3 (.int .i64 2) t_14) w fun t_19 w =>
      pvv prog (binOp .add 3 (.int .i64 2) t_19) w fun t_20 w =>
      pvv prog (binOp .mul 3 (.int .i64 2) t_14) w fun t_21 w =>
      pvv prog (binOp .add 3 (.int .i64 3) t_21) w fun t_22 w =>
      pvv prog (binOp .shr 3 t_18 (.int .u64 8)) w fun t_23 w =>
      pvv prog (convert 3 5 t_23) w fun t_24 w =>
      pvv prog (convert 3 5 t_18) w fun t_25 w =>
      pvv prog (Instr.indexAt 22 t_1 t_20) w fun t_26 w =>
      efu prog (Instr.storeAt 5 t_26 t_24) w fun u_27 w =>
      pvv prog (Instr.indexAt 22 t_1 t_22) w fun t_28 w =>
      efu prog (Instr.storeAt 5 t_28 t_25) w fun u_29 w =>
      pvv prog (binOp .add 3 t_14 (.int .i64 1)) w fun t_30 w =>
      again_15 [t_30] w) <|
    K t_1 w) [(.int .i64 0)] w
theorem B81_eq (h_p0 : Value) (w : World) (K : Value → World → Prop) : denFn prog Tryz.f81 T81 [h_p0] w K = B81 h_p0 w K := by kernel_rfl
theorem c81 {h_p0 : Value} {w : World} {K : Value → World → Prop} (h : B81 h_p0 w K) : Calls prog 81 #[h_p0] w (Ret K) :=
  denFn_calls Tryz.func81 T81_ok (Eq.mpr (B81_eq h_p0 w K) h)

-- 112 math/bits.Len32
def T128 : Ann := (.seq .none (.seq .none (.seq (.seq .none (.seq (.seq .none .none) .none)) (.seq (.seq .none (.block (.loop 68719411424 [5, 6] (.seq (.seq .none (.seq .none .none)) (.meet 68715282592 [5] (.block (.seq .none (.seq .none (.seq (.seq .none .none) .none)))) .none))))) (.seq .none (.seq .none .none))))))
theorem T128_ok : chkFn prog Tryz.f128 T128 = true := by kernel_rfl
def B128 (s_p0 del_p1 : Value) (w : World) (K : Value → World → Prop) : Prop :=
  Calls prog 101 #[s_p0, del_p1] w (Ret fun t_0 w =>
  pvv prog (oEq .eql 3 (.tmp 11) (.const (.int .i64 (-1))) t_0 (.int .i64 (-1))) w fun t_1 w =>
  cd t_1 (
    K s_p0 w) <|
  pvv prog (binOp .add 3 t_0 (.int .i64 1)) w fun t_2 w =>
  lp (fun σ w again_5 => pop σ fun i_3 σ => pop σ fun j_4 σ => fin σ <|
    pv prog (oBi .len #[29] 3 #[false] #[s_p0]) w fun t_6 w =>
    pvv prog (binOp .lss 3 j_4 t_6) w fun t_7 w =>
    cd t_7 (
      jn (fun σ w => pop σ fun i_8 σ => fin σ <|
        pvv prog (binOp .add 3 j_4 (.int .i64 1)) w fun t_9 w =>
        again_5 [i_8, t_9] w) fun k_10 =>
      pvv prog (Instr.indexAt 29 s_p0 j_4) w fun t_11 w =>
      ldv prog (Instr.loadAt 3 t_11) w fun t_12 w =>
      ef prog (oCall del_p1 #[t_12]) w fun t_13 w =>
      pvv prog (Op.unary .not t_13) w fun t_14 w =>
      cd t_14 (
        pvv prog (Instr.indexAt 29 s_p0 i_3) w fun t_15 w =>
        efu prog (Instr.storeAt 3 t_15 t_12) w fun u_16 w =>
        pvv prog (binOp .add 3 i_3 (.int .i64 1)) w fun t_17 w =>
        k_10 [t_17] w) <|
      k_10 [i_3] w) <|
    pvv prog (Instr.sliceAt 29 s_p0 (some i_3) none none) w fun t_18 w =>
    ef prog (oBi .clear #[29] 0 #[false] #[t_18]) w fun u_19 w =>
    pvv prog (Instr.sliceAt 29 s_p0 none (some i_3) none) w fun t_20 w =>
    K t_20 w) [t_0, t_2] w)
theorem B128_eq (s_p0 del_p1 : Value) (w : World) (K : Value → World → Prop) : denFn prog Tryz.f128 T128 [s_p0, del_p1] w K = B128 s_p0 del_p1 w K := by kernel_rfl
theorem c128 {s_p0 del_p1 : Value} {w : World} {K : Value → World → Prop} (h : B128 s_p0 del_p1 w K) : Calls prog 128 #[s_p0, del_p1] w (Ret K) :=
  denFn_calls Tryz.func128 T128_ok (Eq.mpr (B128_eq s_p0 del_p1 w K) h)

-- 11 (*holdfast/tree.Tree).Get
def T91 : Ann := (.seq .none (.seq (.draw [.op 0 .pure, .op 1 .load, .op 2 .pure, .op 3 .pure, .op 4 .pure, .op 5 .load, .op 6 .load, .op 7 .eff, .op 8 .pure, .op 9 .pure, .op 10 .pure]) .none))
theorem T91_ok : chkFn prog Tryz.f91 T91 = true := by kernel_rfl
def B91 (p_p0 x_p1 : Value) (w : World) (K : Value → World → Prop) : Prop :=
  efv prog (Instr.box 136 p_p0) w fun p_0 w =>
  dr w fun w =>
  pvv prog (Instr.fieldAt 136 p_0 0) w fun t_1 w =>
  bindS (vN (Instr.loadAt 3 t_1)) fun m_3 => ldv prog (Instr.loadAt 3 t_1) w fun t_2 w =>
  pvv prog (binOp .lss 3 t_2 (.int .i64 0)) w fun t_4 w =>
  gate (some (t_4, false)) (fun K => pvv prog (Instr.fieldAt 136 p_0 0) w K) w fun t_5 w =>
  bindS (vN (Instr.loadAt 3 t_5)) fun m_7 => gate (some (t_4, false)) (fun K => ldv prog (Instr.loadAt 3 t_5) w K) w fun t_6 w =>
  bindS (vN (Instr.loadAt 52 x_p1)) fun m_9 => gate (some (t_4, false)) (fun K => ldv prog (Instr.loadAt 52 x_p1) w K) w fun t_8 w =>
  gate (some (t_4, false)) (fun K => Calls prog 28 #[t_8] w (Ret fun s_13 w => stay prog (some (t_4, false)) m_7 t_6 w <| stay prog none m_3 t_2 w <| K s_13 w)) w fun t_10 w =>
  gate (some (t_4, false)) (fun K => pvv prog (binOp .geq 3 t_6 t_10) w K) w fun t_11 w =>
  pv prog (oPick t_4 (.bool true) t_11) w fun t_12 w =>
  K t_12 w
theorem B91_eq (p_p0 x_p1 : Value) (w : World) (K : Value → World → Prop) : denFn prog Tryz.f91 T91 [p_p0, x_p1] w K = B91 p_p0 x_p1 w K := by kernel_rfl
theorem c91 {p_p0 x_p1 : Value} {w : World} {K : Value → World → Prop} (h : B91 p_p0 x_p1 w K) : Calls prog 91 #[p_p0, x_p1] w (Ret K) :=
  denFn_calls Tryz.func91 T91_ok (Eq.mpr (B91_eq p_p0 x_p1 w K) h)

-- 16 holdfast/pager.New
def T16 : Ann := (.seq .none (.seq (.block (.seq .none (.seq (.seq .none .none) (.seq .none (.seq (.seq .none .none) .none))))) (.seq .none .none)))
theorem T16_ok : chkFn prog Tryz.f16 T16 = true := by kernel_rfl
def B16 (l_p0 most_p1 : Value) (w : World) (K : Value → World → Prop) : Prop :=
  pvv prog (oEq .eql 52 (.tmp 7) (.const (.pointer none)) l_p0 (.pointer none)) w fun t_0 w =>
  cd t_0 (
    K (.tuple #[(.pointer none), (.int .i64 1)]) w) <|
  pvv prog (binOp .lss 3 most_p1 (.int .i64 1)) w fun t_1 w =>
  gate (some (t_1, false)) (fun K => K most_p1 w) w fun t_2 w =>
  gate (some (t_1, false)) (fun K => pvv prog (binOp .gtr 3 t_2 (.int .i64 64)) w K) w fun t_3 w =>
  pv prog (oPick t_1 (.bool true) t_3) w fun t_4 w =>
  cd t_4 (
    K (.tuple #[(.pointer none), (.int .i64 2)]) w) <|
  efv prog (Instr.makeMap 117 none) w fun t_5 w =>
  efv prog (Instr.makeMap 117 none) w fun t_6 w =>
  efv prog (Instr.makeMap 76 none) w fun t_7 w =>
  pvv prog (Instr.build 119 #[(0, l_p0), (1, most_p1), (2, t_5), (3, t_6), (5, t_7)]) w fun t_8 w =>
  efv prog (Instr.box 119 t_8) w fun t_9 w =>
  K (.tuple #[t_9, (.int .i64 0)]) w
theorem B16_eq (l_p0 most_p1 : Value) (w : World) (K : Value → World → Prop) : denFn prog Tryz.f16 T16 [l_p0, most_p1] w K = B16 l_p0 most_p1 w K := by kernel_rfl
theorem c16 {l_p0 most_p1 : Value} {w : World} {K : Value → World → Prop} (h : B16 l_p0 most_p1 w K) : Calls prog 16 #[l_p0, most_p1] w (Ret K) :=
  denFn_calls Tryz.func16 T16_ok (Eq.mpr (B16_eq l_p0 most_p1 w K) h)

-- 63 (*holdfast/pager.Pager).look
def T63 : Ann := (.seq .none (.seq (.block (.seq .none (.seq (.seq .none .none) (.seq .none (.seq (.seq .none .none) .none))))) (.seq .none .none)))
theorem T63_ok : chkFn prog Tryz.f63 T63 = true := by kernel_rfl
def B63 (p_p0 n_p1 : Value) (w : World) (K : Value → World → Prop) : Prop :=
  pvv prog (oEq .eql 55 (.tmp 6) (.const (.pointer none)) p_p0 (.pointer none)) w fun t_0 w =>
  cd t_0 (
    K (.int .i64 1) w) <|
  pvv prog (binOp .lss 3 n_p1 (.int .i64 0)) w fun t_1 w =>
  gate (some (t_1, false)) (fun K => K n_p1 w) w fun t_2 w =>
  gate (some (t_1, false)) (fun K => K p_p0 w) w fun t_3 w =>
  gate (some (t_1, false)) (fun K => pv prog (oNil t_3) w K) w fun t_4 w =>
  gate (some (t_1, false)) (fun K => pvv prog (Instr.fieldAt 119 t_4 0) w K) w fun t_5 w =>
  gate (some (t_1, false)) (fun K => ldv prog (Instr.loadAt 52 t_5) w K) w fun t_6 w =>
  gate (some (t_1, false)) (fun K => Calls prog 28 #[t_6] w (Ret K)) w fun t_7 w =>
  gate (some (t_1, false)) (fun K => pvv prog (binOp .geq 3 t_2 t_7) w K) w fun t_8 w =>
  pv prog (oPick t_1 (.bool true) t_8) w fun t_9 w =>
  cd t_9 (
    K (.int .i64 2) w) <|
  K (.int .i64 0) w
theorem B63_eq (p_p0 n_p1 : Value) (w : World) (K : Value → World → Prop) : denFn prog Tryz.f63 T63 [p_p0, n_p1] w K = B63 p_p0 n_p1 w K := by kernel_rfl
theorem c63 {p_p0 n_p1 : Value} {w : World} {K : Value → World → Prop} (h : B63 p_p0 n_p1 w K) : Calls prog 63 #[p_p0, n_p1] w (Ret K) :=
  denFn_calls Tryz.func63 T63_ok (Eq.mpr (B63_eq p_p0 n_p1 w K) h)

-- 100 (*holdfast/pager.Pager).drop
def T100 : Ann := (.seq .none (.seq .none (.draw [.op 0 .pure, .op 1 .pure, .op 2 .pure, .op 3 .load, .op 4 .load, .op 5 .eff])))
theorem T100_ok : chkFn prog Tryz.f100 T100 = true := by kernel_rfl
def B100 (p_p0 n_p1 : Value) (w : World) (K : Value → World → Prop) : Prop :=
  efv prog (Instr.box 3 n_p1) w fun n_0 w =>
  pv prog (oNil p_p0) w fun t_1 w =>
  pvv prog (Instr.fieldAt 119 t_1 4) w fun t_2 w =>
  ldv prog (Instr.loadAt 29 t_2) w fun t_3 w =>
  pvv prog (Instr.makeFunc (.func 129) #[] #[n_0]) w fun t_4 w =>
  Calls prog 128 #[t_3, t_4] w (Ret fun t_5 w =>
  pv prog (oNil p_p0) w fun t_6 w =>
  pvv prog (Instr.fieldAt 119 t_6 4) w fun t_7 w =>
  efu prog (Instr.storeAt 29 t_7 t_5) w fun u_8 w =>
  dr w fun w =>
  pv prog (oNil p_p0) w fun t_9 w =>
  pvv prog (Instr.fieldAt 119 t_9 3) w fun t_10 w =>
  bindS (vN (Instr.loadAt 117 t_10)) fun m_12 => ldv prog (Instr.loadAt 117 t_10) w fun t_11 w =>
  bindS (vN (Instr.loadAt 3 n_0)) fun m_14 => ldv prog (Instr.loadAt 3 n_0) w fun t_13 w =>
  ef prog (oBi .delete #[117, 3] 0 #[false, false] #[t_11, t_13]) w fun u_15 w =>
  K (.tuple #[]) w)
theorem B100_eq (p_p0 n_p1 : Value) (w : World) (K : Value → World → Prop) : denFn prog Tryz.f100 T100 [p_p0, n_p1] w K = B100 p_p0 n_p1 w K := by kernel_rfl
theorem c100 {p_p0 n_p1 : Value} {w : World} {K : Value → World → Prop} (h : B100 p_p0 n_p1 w K) : Calls prog 100 #[p_p0, n_p1] w (Ret K) :=
  denFn_calls Tryz.func100 T100_ok (Eq.mpr (B100_eq p_p0 n_p1 w K) h)

-- 36 (*holdfast/tree.Tree).pairs
def T5 : Ann := (.seq .none (.seq .none (.seq .none (.seq .none (.seq .none .none)))))
theorem T5_ok : chkFn prog Tryz.f5 T5 = true := by kernel_rfl
def B5 (blocks_p0 size_p1 : Value) (w : World) (K : Value → World → Prop) : Prop :=
  Calls prog 14 #[blocks_p0] w (Ret fun t_0 w =>
  pvv prog (Instr.extract t_0 0) w fun t_1 w =>
  pvv prog (Instr.extract t_0 1) w fun t_2 w =>
  Calls prog 15 #[t_1, size_p1] w (Ret fun t_3 w =>
  pvv prog (Instr.extract t_3 0) w fun t_4 w =>
  pvv prog (Instr.extract t_3 1) w fun t_5 w =>
  Calls prog 16 #[t_4, (.int .i64 8)] w (Ret fun t_6 w =>
  pvv prog (Instr.extract t_6 0) w fun t_7 w =>
  pvv prog (Instr.extract t_6 1) w fun t_8 w =>
  Calls prog 17 #[t_7] w (Ret fun t_9 w =>
  pvv prog (Instr.extract t_9 0) w fun t_10 w =>
  pvv prog (Instr.extract t_9 1) w fun t_11 w =>
  K (.tuple #[t_10, t_11]) w))))
theorem B5_eq (blocks_p0 size_p1 : Value) (w : World) (K : Value → World → Prop) : denFn prog Tryz.f5 T5 [blocks_p0, size_p1] w K = B5 blocks_p0 size_p1 w K := by kernel_rfl
theorem c5 {blocks_p0 size_p1 : Value} {w : World} {K : Value → World → Prop} (h : B5 blocks_p0 size_p1 w K) : Calls prog 5 #[blocks_p0, size_p1] w (Ret K) :=
  denFn_calls Tryz.func5 T5_ok (Eq.mpr (B5_eq blocks_p0 size_p1 w K) h)

-- 114 slices.IndexFunc[[][]byte,[]byte]
def T114 : Ann := (.seq .none (.seq (.seq .none (.block (.loop 524080 [8] (.seq .none (.seq (.seq .none .none) (.seq (.block (.seq .none (.seq .none (.seq (.seq .none .none) .none)))) .none)))))) (.seq .none .none)))
theorem T114_ok : chkFn prog Tryz.f114 T114 = true := by kernel_rfl
def B114 (s_p0 f_p1 : Value) (w : World) (K : Value → World → Prop) : Prop :=
  pv prog (oBi .len #[36] 3 #[false] #[s_p0]) w fun t_0 w =>
  lp (fun σ w again_2 => pop σ fun t_1 σ => fin σ <|
    pvv prog (binOp .lss 3 t_1 t_0) w fun t_3 w =>
    cd t_3 (
      pvv prog (Instr.indexAt 36 s_p0 t_1) w fun t_4 w =>
      ldv prog (Instr.loadAt 22 t_4) w fun t_5 w =>
      ef prog (oCall f_p1 #[t_5]) w fun t_6 w =>
      cd t_6 (
        K t_1 w) <|
      pvv prog (binOp .add 3 t_1 (.int .i64 1)) w fun t_7 w =>
      again_2 [t_7] w) <|
    K (.int .i64 (-1)) w) [(.int .i64 0)] w
theorem B114_eq (s_p0 f_p1 : Value) (w : World) (K : Value → World → Prop) : denFn prog Tryz.f114 T114 [s_p0, f_p1] w K = B114 s_p0 f_p1 w K := by kernel_rfl
theorem c114 {s_p0 f_p1 : Value} {w : World} {K : Value → World → Prop} (h : B114 s_p0 f_p1 w K) : Calls prog 114 #[s_p0, f_p1] w (Ret K) :=
  denFn_calls Tryz.func114 T114_ok (Eq.mpr (B114_eq s_p0 f_p1 w K) h)

-- 127 (*holdfast/wal.Log).place
def T127 : Ann := (.seq .none (.seq (.seq .none (.seq .none (.seq (.seq .none .none) .none))) (.seq .none .none)))
theorem T127_ok : chkFn prog Tryz.f127 T127 = true := by kernel_rfl
def B127 (l_p0 n_p1 : Value) (w : World) (K : Value → World → Prop) : Prop :=
  pv prog (oNil l_p0) w fun t_0 w =>
  pvv prog (Instr.fieldAt 114 t_0 4) w fun t_1 w =>
  ldv prog (Instr.loadAt 112 t_1) w fun t_2 w =>
  ldv prog (Instr.lookup 112 t_2 n_p1 true) w fun t_3 w =>
  pvv prog (Instr.extract t_3 0) w fun t_4 w =>
  pvv prog (Instr.extract t_3 1) w fun t_5 w =>
  cd t_5 (
    K t_4 w) <|
  pv prog (oNil l_p0) w fun t_6 w =>
  pvv prog (Instr.fieldAt 114 t_6 1) w fun t_7 w =>
  ldv prog (Instr.loadAt 3 t_7) w fun t_8 w =>
  pvv prog (binOp .add 3 t_8 (.int .i64 1)) w fun t_9 w =>
  pvv prog (binOp .add 3 t_9 n_p1) w fun t_10 w =>
  K t_10 w
theorem B127_eq (l_p0 n_p1 : Value) (w : World) (K : Value → World → Prop) : denFn prog Tryz.f127 T127 [l_p0, n_p1] w K = B127 l_p0 n_p1 w K := by kernel_rfl
theorem c127 {l_p0 n_p1 : Value} {w : World} {K : Value → World → Prop} (h : B127 l_p0 n_p1 w K) : Calls prog 127 #[l_p0, n_p1] w (Ret K) :=
  denFn_calls Tryz.func127 T127_ok (Eq.mpr (B127_eq l_p0 n_p1 w K) h)

-- 38 (*holdfast/block.Disk).Blocks
def T38 : Ann := (.seq .none (.seq (.seq .none (.seq (.seq .none .none) .none)) (.seq .none .none)))
theorem T38_ok : chkFn prog Tryz.f38 T38 = true := by kernel_rfl
def B38 (d_p0 : Value) (w : World) (K : Value → World → Prop) : Prop :=
  pvv prog (oEq .eql 49 (.tmp 3) (.const (.pointer none)) d_p0 (.pointer none)) w fun t_0 w =>
  cd t_0 (
    K (.int .i64 0) w) <|
  pv prog (oNil d_p0) w fun t_1 w =>
  pvv prog (Instr.fieldAt 107 t_1 0) w fun t_2 w =>
  ldv prog (Instr.loadAt 36 t_2) w fun t_3 w =>
  pv prog (oBi .len #[36] 3 #[false] #[t_3]) w fun t_4 w =>
  K t_4 w
theorem B38_eq (d_p0 : Value) (w : World) (K : Value → World → Prop) : denFn prog Tryz.f38 T38 [d_p0] w K = B38 d_p0 w K := by kernel_rfl
theorem c38 {d_p0 : Value} {w : World} {K : Value → World → Prop} (h : B38 d_p0 w K) : Calls prog 38 #[d_p0] w (Ret K) :=
  denFn_calls Tryz.func38 T38_ok (Eq.mpr (B38_eq d_p0 w K) h)

-- 67 math/bits.RotateLeft32
def T35 : Ann := (.seq .none (.seq (.seq .none (.seq (.seq .none .none) .none)) (.seq .none .none)))
theorem T35_ok : chkFn prog Tryz.f35 T35 = true := by kernel_rfl
def B35 (b_p0 : Value) (w : World) (K : Value → World → Prop) : Prop :=
  pvv prog (oEq .eql 22 (.tmp 3) (.const (.slice none 0 0)) b_p0 (.slice none 0 0)) w fun t_0 w =>
  cd t_0 (
    K (.slice none 0 0) w) <|
  efv prog (Instr.buildSlice 22 0 #[]) w fun t_1 w =>
  ef prog (oBi .append #[22, 22] 22 #[false, false] #[t_1, b_p0]) w fun t_2 w =>
  K t_2 w
theorem B35_eq (b_p0 : Value) (w : World) (K : Value → World → Prop) : denFn prog Tryz.f35 T35 [b_p0] w K = B35 b_p0 w K := by kernel_rfl
theorem c35 {b_p0 : Value} {w : World} {K : Value → World → Prop} (h : B35 b_p0 w K) : Calls prog 35 #[b_p0] w (Ret K) :=
  denFn_calls Tryz.func35 T35_ok (Eq.mpr (B35_eq b_p0 w K) h)

-- 29 slices.Sort[[]int,int]
def T90 : Ann := (.seq .none (.seq .none .none))
theorem T90_ok : chkFn prog Tryz.f90 T90 = true := by kernel_rfl
def B90 (s_p0 f_p1 : Value) (w : World) (K : Value → World → Prop) : Prop :=
  Calls prog 124 #[s_p0, f_p1] w (Ret fun t_0 w =>
  pvv prog (binOp .geq 3 t_0 (.int .i64 0)) w fun t_1 w =>
  K t_1 w)
theorem B90_eq (s_p0 f_p1 : Value) (w : World) (K : Value → World → Prop) : denFn prog Tryz.f90 T90 [s_p0, f_p1] w K = B90 s_p0 f_p1 w K := by kernel_rfl
theorem c90 {s_p0 f_p1 : Value} {w : World} {K : Value → World → Prop} (h : B90 s_p0 f_p1 w K) : Calls prog 90 #[s_p0, f_p1] w (Ret K) :=
  denFn_calls Tryz.func90 T90_ok (Eq.mpr (B90_eq s_p0 f_p1 w K) h)

-- 74 slices.ContainsFunc[[]byte,byte]
def T74 : Ann := (.seq .none (.seq .none .none))
theorem T74_ok : chkFn prog Tryz.f74 T74 = true := by kernel_rfl
def B74 (s_p0 f_p1 : Value) (w : World) (K : Value → World → Prop) : Prop :=
  Calls prog 115 #[s_p0, f_p1] w (Ret fun t_0 w =>
  pvv prog (binOp .geq 3 t_0 (.int .i64 0)) w fun t_1 w =>
  K t_1 w)
theorem B74_eq (s_p0 f_p1 : Value) (w : World) (K : Value → World → Prop) : denFn prog Tryz.f74 T74 [s_p0, f_p1] w K = B74 s_p0 f_p1 w K := by kernel_rfl
theorem c74 {s_p0 f_p1 : Value} {w : World} {K : Value → World → Prop} (h : B74 s_p0 f_p1 w K) : Calls prog 74 #[s_p0, f_p1] w (Ret K) :=
  denFn_calls Tryz.func74 T74_ok (Eq.mpr (B74_eq s_p0 f_p1 w K) h)

-- 42 holdfast/wal.zeros
def T42 : Ann := (.seq .none (.seq .none .none))
theorem T42_ok : chkFn prog Tryz.f42 T42 = true := by kernel_rfl
def B42 (b_p0 : Value) (w : World) (K : Value → World → Prop) : Prop :=
  Calls prog 74 #[b_p0, (.func (.func 75) #[] #[])] w (Ret fun t_0 w =>
  pvv prog (Op.unary .not t_0) w fun t_1 w =>
  K t_1 w)
theorem B42_eq (b_p0 : Value) (w : World) (K : Value → World → Prop) : denFn prog Tryz.f42 T42 [b_p0] w K = B42 b_p0 w K := by kernel_rfl
theorem c42 {b_p0 : Value} {w : World} {K : Value → World → Prop} (h : B42 b_p0 w K) : Calls prog 42 #[b_p0] w (Ret K) :=
  denFn_calls Tryz.func42 T42_ok (Eq.mpr (B42_eq b_p0 w K) h)

-- 75 holdfast/wal.zeros$1
def T75 : Ann := (.seq .none (.seq .none .none))
theorem T75_ok : chkFn prog Tryz.f75 T75 = true := by kernel_rfl
def B75 (x_p0 : Value) (w : World) (K : Value → World → Prop) : Prop :=
  pvv prog (oEq .neq 5 (.tmp 3) (.const (.int .u8 0)) x_p0 (.int .u8 0)) w fun t_0 w =>
  K t_0 w
theorem B75_eq (x_p0 : Value) (w : World) (K : Value → World → Prop) : denFn prog Tryz.f75 T75 [x_p0] w K = B75 x_p0 w K := by kernel_rfl
theorem c75 {x_p0 : Value} {w : World} {K : Value → World → Prop} (h : B75 x_p0 w K) : Calls prog 75 #[x_p0] w (Ret K) :=
  denFn_calls Tryz.func75 T75_ok (Eq.mpr (B75_eq x_p0 w K) h)


end Go.Proofs.YtfaeklinhchidaaGreat
