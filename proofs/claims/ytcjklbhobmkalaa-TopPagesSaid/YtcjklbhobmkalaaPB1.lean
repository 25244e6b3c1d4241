import Derived.Test.YtcjklbhobmkalaaPI
set_option linter.all false
set_option maxRecDepth 100000
namespace Go.Proofs.Ytcjklbhobmkalaa
open Go Hold
-- 30 (*holdfast/wal.Log).Commit
def T30 : Ann := (.seq .none (.seq (.block (.seq .none (.seq (.seq .none .none) (.seq .none (.seq (.seq .none .none) (.seq .none (.seq (.seq .none .none) (.seq .none (.seq (.seq .none .none) .none))))))))) (.seq .none (.seq (.seq .none (.block (.loop 18014389919547536 [33] (.seq .none (.seq (.seq .none .none) (.seq (.block (.seq .none (.seq (.seq .none (.seq (.seq .none .none) .none)) .none))) .none)))))) (.seq (.seq (.draw [.op 0 .pure, .op 1 .pure, .op 3 .load, .op 4 .pure, .op 5 .pure, .op 6 .load, .op 7 .load, .op 8 .pure, .op 9 .pure, .op 10 .load, .op 11 .pure, .op 2 .eff, .op 12 .pure]) (.seq (.seq .none .none) .none)) (.seq .none (.seq .none (.seq .none (.seq (.seq .none (.block (.loop 19806738397111180741092314112 [78] (.seq .none (.seq (.seq .none .none) (.seq (.block (.seq .none .none)) .none)))))) (.seq .none (.seq .none (.seq (.seq .none (.block (.loop 174224571214483385976394345438753283137536 [109] (.seq .none (.seq (.seq .none .none) (.seq (.block (.seq .none (.seq (.draw [.op 5 .pure, .op 6 .pure, .op 7 .pure, .op 8 .pure, .op 9 .pure, .op 10 .pure, .op 0 .load, .op 1 .pure, .op 2 .pure, .op 3 .pure, .op 4 .load, .op 11 .load, .op 12 .eff]) .none))) .none)))))) (.seq (.draw [.op 4 .pure, .op 5 .pure, .op 0 .load, .op 1 .pure, .op 2 .pure, .op 3 .load, .op 6 .eff, .op 7 .pure, .op 8 .pure, .op 9 .pure, .op 10 .eff]) (.seq .none (.seq .none (.seq .none .none))))))))))))))))
theorem T30_ok : chkFn prog Try.f30 T30 = true := by kernel_rfl
def B30 (l_p0 pages_p1 : Value) (w : World) (K : Value → World → Prop) : Prop :=
  efv prog (Instr.box 27 l_p0) w fun l_0 w =>
  ldv prog (Instr.loadAt 27 l_0) w fun t_1 w =>
  pvv prog (oEq .eql 27 (.tmp 16) (.const (.pointer none)) t_1 (.pointer none)) w fun t_2 w =>
  cd t_2 (
    K (.int .i64 1) w) <|
  pv prog (oBi .len #[75] 3 #[false] #[pages_p1]) w fun t_3 w =>
  pvv prog (oEq .eql 3 (.tmp 20) (.const (.int .i64 0)) t_3 (.int .i64 0)) w fun t_4 w =>
  cd t_4 (
    K (.int .i64 0) w) <|
  pv prog (oBi .len #[75] 3 #[false] #[pages_p1]) w fun t_5 w =>
  pvv prog (binOp .gtr 3 t_5 (.int .i64 100)) w fun t_6 w =>
  cd t_6 (
    K (.int .i64 6) w) <|
  pvv prog (Instr.makeFunc (.func 50) #[] #[l_0]) w fun t_7 w =>
  Calls prog 49 #[pages_p1, t_7] w (Ret fun t_8 w =>
  cd t_8 (
    K (.int .i64 2) w) <|
  efv prog (Instr.makeMap 62 none) w fun t_9 w =>
  pv prog (oBi .len #[75] 3 #[false] #[pages_p1]) w fun t_10 w =>
  lp (fun σ w again_12 => pop σ fun t_11 σ => fin σ <|
    pvv prog (binOp .lss 3 t_11 t_10) w fun t_13 w =>
    cd t_13 (
      pvv prog (Instr.indexAt 75 pages_p1 t_11) w fun t_14 w =>
      ldv prog (Instr.loadAt 77 t_14) w fun t_15 w =>
      efv prog (Instr.alloc 77 true (.tuple #[])) w fun p_16 w =>
      efu prog (Instr.storeAt 77 p_16 t_15) w fun u_17 w =>
      pvv prog (Instr.fieldAt 77 p_16 0) w fun t_18 w =>
      ldv prog (Instr.loadAt 3 t_18) w fun t_19 w =>
      ldv prog (Instr.lookup 62 t_9 t_19 false) w fun t_20 w =>
      pvv prog (oEq .neq 33 (.tmp 40) (.const (.slice none 0 0)) t_20 (.slice none 0 0)) w fun t_21 w =>
      gate (some (t_21, false)) (fun K => pvv prog (Instr.fieldAt 77 p_16 1) w K) w fun t_22 w =>
      gate (some (t_21, false)) (fun K => ldv prog (Instr.loadAt 33 t_22) w K) w fun t_23 w =>
      gate (some (t_21, false)) (fun K => pv prog (oBi .len #[33] 3 #[false] #[t_23]) w K) w fun t_24 w =>
      gate (some (t_21, false)) (fun K => pvv prog (oEq .neq 3 (.tmp 45) (.const (.int .i64 256)) t_24 (.int .i64 256)) w K) w fun t_25 w =>
      pv prog (oPick t_21 (.bool true) t_25) w fun t_26 w =>
      cd t_26 (
        K (.int .i64 3) w) <|
      pvv prog (Instr.fieldAt 77 p_16 0) w fun t_27 w =>
      ldv prog (Instr.loadAt 3 t_27) w fun t_28 w =>
      pvv prog (Instr.fieldAt 77 p_16 1) w fun t_29 w =>
      ldv prog (Instr.loadAt 33 t_29) w fun t_30 w =>
      efu prog (Instr.mapUpdate 62 t_9 t_28 t_30) w fun u_31 w =>
      pvv prog (binOp .add 3 t_11 (.int .i64 1)) w fun t_32 w =>
      again_12 [t_32] w) <|
    dr w fun w =>
    pv prog (oBi .len #[75] 3 #[false] #[pages_p1]) w fun t_33 w =>
    bindS (vN (Instr.loadAt 27 l_0)) fun m_35 => ldv prog (Instr.loadAt 27 l_0) w fun t_34 w =>
    pv prog (oNil t_34) w fun t_36 w =>
    pvv prog (Instr.fieldAt 58 t_36 1) w fun t_37 w =>
    bindS (vN (Instr.loadAt 3 t_37)) fun m_39 => ldv prog (Instr.loadAt 3 t_37) w fun t_38 w =>
    bindS (vN (Instr.loadAt 27 l_0)) fun m_41 => ldv prog (Instr.loadAt 27 l_0) w fun t_40 w =>
    pv prog (oNil t_40) w fun t_42 w =>
    pvv prog (Instr.fieldAt 58 t_42 3) w fun t_43 w =>
    bindS (vN (Instr.loadAt 3 t_43)) fun m_45 => ldv prog (Instr.loadAt 3 t_43) w fun t_44 w =>
    pvv prog (binOp .sub 3 t_38 t_44) w fun t_46 w =>
    Calls prog 51 #[t_33] w (Ret fun t_47 w => stay prog none m_45 t_44 w <| stay prog none m_41 t_40 w <| stay prog none m_39 t_38 w <| stay prog none m_35 t_34 w <| 
    pvv prog (binOp .gtr 3 t_47 t_46) w fun t_48 w =>
    cd t_48 (
      K (.int .i64 7) w) <|
    efv prog (Instr.makeSlice 33 (.int .i64 256) (.int .i64 256)) w fun t_49 w =>
    pvv prog (Instr.sliceAt 33 t_49 none (some (.int .i64 2)) none) w fun t_50 w =>
    pv prog (oBi .len #[75] 3 #[false] #[pages_p1]) w fun t_51 w =>
    Calls prog 52 #[t_50, t_51] w (Ret fun t_52 w =>
    Calls prog 29 #[t_9] w (Ret fun t_53 w =>
    Calls prog 28 #[t_53] w (Ret fun t_54 w =>
    pv prog (oBi .len #[38] 3 #[false] #[t_54]) w fun t_55 w =>
    lp (fun σ w again_57 => pop σ fun t_56 σ => fin σ <|
      pvv prog (binOp .lss 3 t_56 t_55) w fun t_58 w =>
      cd t_58 (
        pvv prog (Instr.indexAt 38 t_54 t_56) w fun t_59 w =>
        ldv prog (Instr.loadAt 3 t_59) w fun t_60 w =>
        pvv prog (binOp .mul 3 (.int .i64 2) t_56) w fun t_61 w =>
        pvv prog (binOp .add 3 (.int .i64 2) t_61) w fun t_62 w =>
        pvv prog (binOp .mul 3 (.int .i64 2) t_56) w fun t_63 w =>
        pvv prog (binOp .add 3 (.int .i64 4) t_63) w fun t_64 w =>
        pvv prog (Instr.sliceAt 33 t_49 (some t_62) (some t_64) none) w fun t_65 w =>
        Calls prog 52 #[t_65, t_60] w (Ret fun t_66 w =>
        pvv prog (binOp .add 3 t_56 (.int .i64 1)) w fun t_67 w =>
        again_57 [t_67] w)) <|
      ldv prog (Instr.loadAt 27 l_0) w fun t_68 w =>
      pv prog (oNil t_68) w fun t_69 w =>
      pvv prog (Instr.fieldAt 58 t_69 3) w fun t_70 w =>
      ldv prog (Instr.loadAt 3 t_70) w fun t_71 w =>
      pvv prog (binOp .add 3 t_71 (.int .i64 1)) w fun t_72 w =>
      ldv prog (Instr.loadAt 27 l_0) w fun t_73 w =>
      pv prog (oNil t_73) w fun t_74 w =>
      pvv prog (Instr.fieldAt 58 t_74 0) w fun t_75 w =>
      pvv prog (Instr.fieldAt 55 t_75 0) w fun t_76 w =>
      ldv prog (Instr.loadAt 23 t_76) w fun t_77 w =>
      Calls prog 53 #[t_77, t_72, t_49] w (Ret fun t_78 w =>
      pv prog (oBi .len #[38] 3 #[false] #[t_54]) w fun t_79 w =>
      lp (fun σ w again_81 => pop σ fun t_80 σ => fin σ <|
        pvv prog (binOp .lss 3 t_80 t_79) w fun t_82 w =>
        cd t_82 (
          pvv prog (Instr.indexAt 38 t_54 t_80) w fun t_83 w =>
          ldv prog (Instr.loadAt 3 t_83) w fun t_84 w =>
          dr w fun w =>
          pvv prog (binOp .add 3 t_72 (.int .i64 1)) w fun t_85 w =>
          pvv prog (binOp .add 3 t_85 t_80) w fun t_86 w =>
          bindS (vN (Instr.loadAt 27 l_0)) fun m_88 => ldv prog (Instr.loadAt 27 l_0) w fun t_87 w =>
          pv prog (oNil t_87) w fun t_89 w =>
          pvv prog (Instr.fieldAt 58 t_89 0) w fun t_90 w =>
          pvv prog (Instr.fieldAt 55 t_90 0) w fun t_91 w =>
          bindS (vN (Instr.loadAt 23 t_91)) fun m_93 => ldv prog (Instr.loadAt 23 t_91) w fun t_92 w =>
          bindS (vN (Instr.lookup 62 t_9 t_84 false)) fun m_95 => ldv prog (Instr.lookup 62 t_9 t_84 false) w fun t_94 w =>
          Calls prog 53 #[t_92, t_86, t_94] w (Ret fun t_96 w => stay prog none m_88 t_87 w <| 
          ldv prog (Instr.loadAt 27 l_0) w fun t_97 w =>
          pv prog (oNil t_97) w fun t_98 w =>
          pvv prog (Instr.fieldAt 58 t_98 4) w fun t_99 w =>
          ldv prog (Instr.loadAt 56 t_99) w fun t_100 w =>
          pvv prog (binOp .add 3 t_72 (.int .i64 1)) w fun t_101 w =>
          pvv prog (binOp .add 3 t_101 t_80) w fun t_102 w =>
          efu prog (Instr.mapUpdate 56 t_100 t_84 t_102) w fun u_103 w =>
          pvv prog (binOp .add 3 t_80 (.int .i64 1)) w fun t_104 w =>
          again_81 [t_104] w)) <|
        dr w fun w =>
        pv prog (oBi .len #[75] 3 #[false] #[pages_p1]) w fun t_106 w =>
        bindS (vN (Instr.loadAt 27 l_0)) fun m_108 => ldv prog (Instr.loadAt 27 l_0) w fun t_107 w =>
        pv prog (oNil t_107) w fun t_109 w =>
        pvv prog (Instr.fieldAt 58 t_109 3) w fun t_110 w =>
        bindS (vN (Instr.loadAt 3 t_110)) fun m_112 => ldv prog (Instr.loadAt 3 t_110) w fun t_111 w =>
        Calls prog 51 #[t_106] w (Ret fun t_113 w => stay prog none m_112 t_111 w <| stay prog none m_108 t_107 w <| 
        pvv prog (binOp .add 3 t_111 t_113) w fun t_114 w =>
        pv prog (oNil t_107) w fun t_115 w =>
        pvv prog (Instr.fieldAt 58 t_115 3) w fun t_116 w =>
        efu prog (Instr.storeAt 3 t_116 t_114) w fun u_117 w =>
        ldv prog (Instr.loadAt 27 l_0) w fun t_118 w =>
        pv prog (oNil t_118) w fun t_119 w =>
        pvv prog (Instr.fieldAt 58 t_119 2) w fun t_120 w =>
        ldv prog (Instr.loadAt 3 t_120) w fun t_121 w =>
        pvv prog (binOp .add 3 t_121 (.int .i64 1)) w fun t_122 w =>
        pv prog (oNil t_118) w fun t_123 w =>
        pvv prog (Instr.fieldAt 58 t_123 2) w fun t_124 w =>
        efu prog (Instr.storeAt 3 t_124 t_122) w fun u_125 w =>
        ldv prog (Instr.loadAt 27 l_0) w fun t_126 w =>
        Calls prog 54 #[t_126] w (Ret fun t_127 w =>
        K (.int .i64 0) w))) [(.int .i64 0)] w)) [(.int .i64 0)] w))))) [(.int .i64 0)] w)
theorem B30_eq (l_p0 pages_p1 : Value) (w : World) (K : Value → World → Prop) : denFn prog Try.f30 T30 [l_p0, pages_p1] w K = B30 l_p0 pages_p1 w K := by kernel_rfl
theorem c30 {l_p0 pages_p1 : Value} {w : World} {K : Value → World → Prop} (h : B30 l_p0 pages_p1 w K) : Calls prog 30 #[l_p0, pages_p1] w (Ret K) :=
  denFn_calls Try.func30 T30_ok (Eq.mpr (B30_eq l_p0 pages_p1 w K) h)

-- 78 slices.partitionEqualOrdered[int]
def T78 : Ann := (.seq .none (.seq (.draw [.op 0 .pure, .op 1 .pure, .op 2 .pure, .op 3 .pure, .op 4 .pure, .op 5 .pure, .op 6 .pure, .op 8 .pure, .op 9 .pure, .op 10 .pure, .op 7 .load, .op 11 .load, .op 12 .pure, .op 13 .eff, .op 14 .pure, .op 15 .eff]) (.seq .none (.seq (.block (.loop 9671406556917032860780032 [9, 10] (.block (.seq (.block (.loop 70368207307264 [9] (.seq (.seq (.draw [.op 0 .pure, .op 1 .pure, .op 2 .pure, .op 3 .pure, .op 4 .pure, .op 5 .pure, .op 6 .pure, .op 8 .pure, .op 9 .pure, .op 10 .pure, .op 7 .load, .op 11 .load, .op 12 .eff, .op 13 .pure, .op 14 .pure]) (.seq .none .none)) (.block .none)))) (.seq (.block (.loop 4611615649683211264 [10] (.seq (.seq (.draw [.op 0 .pure, .op 1 .pure, .op 2 .pure, .op 3 .pure, .op 4 .pure, .op 5 .pure, .op 6 .pure, .op 8 .pure, .op 9 .pure, .op 10 .pure, .op 7 .load, .op 11 .load, .op 12 .eff, .op 13 .pure]) (.seq .none .none)) (.block .none)))) (.seq (.seq .none (.seq .none .none)) (.seq (.draw [.op 0 .pure, .op 1 .pure, .op 2 .pure, .op 3 .pure, .op 4 .pure, .op 5 .pure, .op 6 .pure, .op 8 .pure, .op 9 .pure, .op 10 .pure, .op 7 .load, .op 11 .load, .op 12 .pure, .op 13 .eff, .op 14 .pure, .op 15 .eff]) (.seq .none .none)))))))) (.seq .none .none)))))
theorem T78_ok : chkFn prog Try.f78 T78 = true := by kernel_rfl
def B78 (data_p0 a_p1 b_p2 pivot_p3 : Value) (w : World) (K : Value → World → Prop) : Prop :=
  dr w fun w =>
  pvv prog (Instr.indexAt 38 data_p0 pivot_p3) w fun t_0 w =>
  pvv prog (Instr.indexAt 38 data_p0 a_p1) w fun t_1 w =>
  bindS (vN (Instr.loadAt 3 t_0)) fun m_3 => ldv prog (Instr.loadAt 3 t_0) w fun t_2 w =>
  bindS (vN (Instr.loadAt 3 t_1)) fun m_5 => ldv prog (Instr.loadAt 3 t_1) w fun t_4 w =>
  pvv prog (Instr.indexAt 38 data_p0 a_p1) w fun t_6 w =>
  efu prog (Instr.storeAt 3 t_6 t_2) w fun u_7 w =>
  pvv prog (Instr.indexAt 38 data_p0 pivot_p3) w fun t_8 w =>
  efu prog (Instr.storeAt 3 t_8 t_4) w fun u_9 w =>
  pvv prog (binOp .add 3 a_p1 (.int .i64 1)) w fun t_10 w =>
  pvv prog (binOp .sub 3 b_p2 (.int .i64 1)) w fun t_11 w =>
  lp (fun σ w again_14 => pop σ fun i_12 σ => pop σ fun j_13 σ => fin σ <|
    lp (fun σ w again_16 => pop σ fun i_15 σ => fin σ <|
      dr w fun w =>
      pvv prog (binOp .leq 3 i_15 j_13) w fun t_17 w =>
      gate (some (t_17, true)) (fun K => K data_p0 w) w fun t_18 w =>
      gate (some (t_17, true)) (fun K => K a_p1 w) w fun t_19 w =>
      gate (some (t_17, true)) (fun K => pvv prog (Instr.indexAt 38 t_18 t_19) w K) w fun t_20 w =>
      gate (some (t_17, true)) (fun K => K data_p0 w) w fun t_21 w =>
      gate (some (t_17, true)) (fun K => K i_15 w) w fun t_22 w =>
      gate (some (t_17, true)) (fun K => pvv prog (Instr.indexAt 38 t_21 t_22) w K) w fun t_23 w =>
      bindS (vN (Instr.loadAt 3 t_20)) fun m_25 => gate (some (t_17, true)) (fun K => ldv prog (Instr.loadAt 3 t_20) w K) w fun t_24 w =>
      bindS (vN (Instr.loadAt 3 t_23)) fun m_27 => gate (some (t_17, true)) (fun K => ldv prog (Instr.loadAt 3 t_23) w K) w fun t_26 w =>
      gate (some (t_17, true)) (fun K => Calls prog 77 #[t_24, t_26] w (Ret fun s_64 w => K s_64 w)) w fun t_28 w =>
      gate (some (t_17, true)) (fun K => pvv prog (Op.unary .not t_28) w K) w fun t_29 w =>
      pv prog (oPick t_17 t_29 (.bool false)) w fun t_30 w =>
      cd t_30 (
        pvv prog (binOp .add 3 i_15 (.int .i64 1)) w fun t_31 w =>
        again_16 [t_31] w) <|
      lp (fun σ w again_33 => pop σ fun j_32 σ => fin σ <|
        dr w fun w =>
        pvv prog (binOp .leq 3 i_15 j_32) w fun t_34 w =>
        gate (some (t_34, true)) (fun K => K data_p0 w) w fun t_35 w =>
        gate (some (t_34, true)) (fun K => K a_p1 w) w fun t_36 w =>
        gate (some (t_34, true)) (fun K => pvv prog (Instr.indexAt 38 t_35 t_36) w K) w fun t_37 w =>
        gate (some (t_34, true)) (fun K => K data_p0 w) w fun t_38 w =>
        gate (some (t_34, true)) (fun K => K j_32 w) w fun t_39 w =>
        gate (some (t_34, true)) (fun K => pvv prog (Instr.indexAt 38 t_38 t_39) w K) w fun t_40 w =>
        bindS (vN (Instr.loadAt 3 t_37)) fun m_42 => gate (some (t_34, true)) (fun K => ldv prog (Instr.loadAt 3 t_37) w K) w fun t_41 w =>
        bindS (vN (Instr.loadAt 3 t_40)) fun m_44 => gate (some (t_34, true)) (fun K => ldv prog (Instr.loadAt 3 t_40) w K) w fun t_43 w =>
        gate (some (t_34, true)) (fun K => Calls prog 77 #[t_41, t_43] w (Ret fun s_63 w => K s_63 w)) w fun t_45 w =>
        pv prog (oPick t_34 t_45 (.bool false)) w fun t_46 w =>
        cd t_46 (
          pvv prog (binOp .sub 3 j_32 (.int .i64 1)) w fun t_47 w =>
          again_33 [t_47] w) <|
        pvv prog (binOp .gtr 3 i_15 j_32) w fun t_48 w =>
        cd t_48 (
          K i_15 w) <|
        dr w fun w =>
        pvv prog (Instr.indexAt 38 data_p0 j_32) w fun t_49 w =>
        pvv prog (Instr.indexAt 38 data_p0 i_15) w fun t_50 w =>
        bindS (vN (Instr.loadAt 3 t_49)) fun m_52 => ldv prog (Instr.loadAt 3 t_49) w fun t_51 w =>
        bindS (vN (Instr.loadAt 3 t_50)) fun m_54 => ldv prog (Instr.loadAt 3 t_50) w fun t_53 w =>
        pvv prog (Instr.indexAt 38 data_p0 i_15) w fun t_55 w =>
        efu prog (Instr.storeAt 3 t_55 t_51) w fun u_56 w =>
        pvv prog (Instr.indexAt 38 data_p0 j_32) w fun t_57 w =>
        efu prog (Instr.storeAt 3 t_57 t_53) w fun u_58 w =>
        pvv prog (binOp .add 3 i_15 (.int .i64 1)) w fun t_59 w =>
        pvv prog (binOp .sub 3 j_32 (.int .i64 1)) w fun t_60 w =>
        again_14 [t_59, t_60] w) [j_13] w) [i_12] w) [t_10, t_11] w
theorem B78_eq (data_p0 a_p1 b_p2 pivot_p3 : Value) (w : World) (K : Value → World → Prop) : denFn prog Try.f78 T78 [data_p0, a_p1, b_p2, pivot_p3] w K = B78 data_p0 a_p1 b_p2 pivot_p3 w K := by kernel_rfl
theorem c78 {data_p0 a_p1 b_p2 pivot_p3 : Value} {w : World} {K : Value → World → Prop} (h : B78 data_p0 a_p1 b_p2 pivot_p3 w K) : Calls prog 78 #[data_p0, a_p1, b_p2, pivot_p3] w (Ret K) :=
  denFn_calls Try.func78 T78_ok (Eq.mpr (B78_eq data_p0 a_p1 b_p2 pivot_p3 w K) h)

-- 31 (*holdfast/wal.Log).Checkpoint
def T31 : Ann := (.seq .none (.seq (.block (.seq .none (.seq (.seq .none .none) (.seq .none (.seq (.seq .none .none) .none))))) (.seq (.seq .none (.block (.loop 9007199254216816 [19] (.seq .none (.seq (.seq .none .none) (.seq (.block (.seq .none (.seq (.draw [.op 0 .pure, .op 1 .pure, .op 2 .pure, .op 3 .pure, .op 5 .pure, .op 6 .pure, .op 7 .pure, .op 9 .pure, .op 4 .load, .op 8 .load, .op 10 .load, .op 11 .eff, .op 12 .pure, .op 13 .pure, .op 14 .pure, .op 15 .pure, .op 16 .pure]) (.draw [.op 0 .pure, .op 1 .pure, .op 2 .pure, .op 3 .pure, .op 5 .pure, .op 6 .pure, .op 7 .pure, .op 10 .pure, .op 12 .pure, .op 4 .load, .op 8 .load, .op 9 .pure, .op 11 .pure, .op 13 .eff])))) .none)))))) (.seq .none (.seq .none (.seq .none (.seq .none .none)))))))
theorem T31_ok : chkFn prog Try.f31 T31 = true := by kernel_rfl
def B31 (l_p0 : Value) (w : World) (K : Value → World → Prop) : Prop :=
  pvv prog (oEq .eql 27 (.tmp 8) (.const (.pointer none)) l_p0 (.pointer none)) w fun t_0 w =>
  cd t_0 (
    K (.int .i64 1) w) <|
  pv prog (oNil l_p0) w fun t_1 w =>
  pvv prog (Instr.fieldAt 58 t_1 3) w fun t_2 w =>
  ldv prog (Instr.loadAt 3 t_2) w fun t_3 w =>
  pvv prog (oEq .eql 3 (.tmp 14) (.const (.int .i64 0)) t_3 (.int .i64 0)) w fun t_4 w =>
  cd t_4 (
    K (.int .i64 0) w) <|
  Calls prog 55 #[l_p0] w (Ret fun t_5 w =>
  pv prog (oBi .len #[38] 3 #[false] #[t_5]) w fun t_6 w =>
  lp (fun σ w again_8 => pop σ fun t_7 σ => fin σ <|
    pvv prog (binOp .lss 3 t_7 t_6) w fun t_9 w =>
    cd t_9 (
      pvv prog (Instr.indexAt 38 t_5 t_7) w fun t_10 w =>
      ldv prog (Instr.loadAt 3 t_10) w fun t_11 w =>
      dr w fun w =>
      pv prog (oNil l_p0) w fun t_12 w =>
      pvv prog (Instr.fieldAt 58 t_12 0) w fun t_13 w =>
      pvv prog (Instr.fieldAt 55 t_13 0) w fun t_14 w =>
      pv prog (oNil l_p0) w fun t_15 w =>
      pvv prog (Instr.fieldAt 58 t_15 4) w fun t_16 w =>
      bindS (vN (Instr.loadAt 23 t_14)) fun m_18 => ldv prog (Instr.loadAt 23 t_14) w fun t_17 w =>
      bindS (vN (Instr.loadAt 56 t_16)) fun m_20 => ldv prog (Instr.loadAt 56 t_16) w fun t_19 w =>
      bindS (vN (Instr.lookup 56 t_19 t_11 false)) fun m_22 => ldv prog (Instr.lookup 56 t_19 t_11 false) w fun t_21 w =>
      Calls prog 18 #[t_17, t_21] w (Ret fun t_23 w => stay prog none m_20 t_19 w <| 
      pvv prog (Instr.extract t_23 0) w fun t_24 w =>
      pvv prog (Instr.extract t_23 1) w fun t_25 w =>
      dr w fun w =>
      pv prog (oNil l_p0) w fun t_26 w =>
      pvv prog (Instr.fieldAt 58 t_26 0) w fun t_27 w =>
      pvv prog (Instr.fieldAt 55 t_27 0) w fun t_28 w =>
      pv prog (oNil l_p0) w fun t_29 w =>
      pvv prog (Instr.fieldAt 58 t_29 1) w fun t_30 w =>
      bindS (vN (Instr.loadAt 23 t_28)) fun m_32 => ldv prog (Instr.loadAt 23 t_28) w fun t_31 w =>
      bindS (vN (Instr.loadAt 3 t_30)) fun m_34 => ldv prog (Instr.loadAt 3 t_30) w fun t_33 w =>
      pvv prog (binOp .add 3 t_33 (.int .i64 1)) w fun t_35 w =>
      pvv prog (binOp .add 3 t_35 t_11) w fun t_36 w =>
      Calls prog 53 #[t_31, t_36, t_24] w (Ret fun t_37 w => stay prog none m_34 t_33 w <| 
      pvv prog (binOp .add 3 t_7 (.int .i64 1)) w fun t_38 w =>
      again_8 [t_38] w))) <|
    pv prog (oNil l_p0) w fun t_41 w =>
    pvv prog (Instr.fieldAt 58 t_41 3) w fun t_42 w =>
    efu prog (Instr.storeAt 3 t_42 (.int .i64 0)) w fun u_43 w =>
    pv prog (oNil l_p0) w fun t_44 w =>
    pvv prog (Instr.fieldAt 58 t_44 4) w fun t_45 w =>
    ldv prog (Instr.loadAt 56 t_45) w fun t_46 w =>
    ef prog (oBi .clear #[56] 0 #[false] #[t_46]) w fun u_47 w =>
    Calls prog 54 #[l_p0] w (Ret fun t_48 w =>
    K (.int .i64 0) w)) [(.int .i64 0)] w)
theorem B31_eq (l_p0 : Value) (w : World) (K : Value → World → Prop) : denFn prog Try.f31 T31 [l_p0] w K = B31 l_p0 w K := by kernel_rfl
theorem c31 {l_p0 : Value} {w : World} {K : Value → World → Prop} (h : B31 l_p0 w K) : Calls prog 31 #[l_p0] w (Ret K) :=
  denFn_calls Try.func31 T31_ok (Eq.mpr (B31_eq l_p0 w K) h)

-- 71 slices.insertionSortOrdered[int]
def T71 : Ann := (.seq .none (.block (.loop 562949953420480 [6] (.seq (.seq .none (.seq .none .none)) (.seq (.block (.seq .none (.block (.loop 562949953355904 [7] (.seq (.seq (.draw [.op 0 .pure, .op 1 .pure, .op 2 .pure, .op 3 .pure, .op 4 .pure, .op 5 .pure, .op 6 .pure, .op 8 .pure, .op 9 .pure, .op 10 .pure, .op 11 .pure, .op 7 .load, .op 12 .load, .op 13 .eff, .op 14 .pure]) (.seq .none .none)) (.seq (.block (.draw [.op 0 .pure, .op 1 .pure, .op 2 .pure, .op 3 .pure, .op 4 .pure, .op 5 .pure, .op 6 .pure, .op 7 .pure, .op 8 .pure, .op 10 .pure, .op 11 .pure, .op 12 .pure, .op 9 .load, .op 13 .load, .op 14 .pure, .op 15 .eff, .op 16 .pure, .op 17 .eff])) .none)))))) .none)))))
theorem T71_ok : chkFn prog Try.f71 T71 = true := by kernel_rfl
def B71 (data_p0 a_p1 b_p2 : Value) (w : World) (K : Value → World → Prop) : Prop :=
  pvv prog (binOp .add 3 a_p1 (.int .i64 1)) w fun t_0 w =>
  lp (fun σ w again_2 => pop σ fun i_1 σ => fin σ <|
    pvv prog (binOp .lss 3 i_1 b_p2) w fun t_3 w =>
    cd t_3 (
      lp (fun σ w again_5 => pop σ fun j_4 σ => fin σ <|
        dr w fun w =>
        pvv prog (binOp .gtr 3 j_4 a_p1) w fun t_6 w =>
        gate (some (t_6, true)) (fun K => K data_p0 w) w fun t_7 w =>
        gate (some (t_6, true)) (fun K => K j_4 w) w fun t_8 w =>
        gate (some (t_6, true)) (fun K => pvv prog (Instr.indexAt 38 t_7 t_8) w K) w fun t_9 w =>
        gate (some (t_6, true)) (fun K => K data_p0 w) w fun t_10 w =>
        gate (some (t_6, true)) (fun K => K j_4 w) w fun t_11 w =>
        gate (some (t_6, true)) (fun K => pvv prog (binOp .sub 3 t_11 (.int .i64 1)) w K) w fun t_12 w =>
        gate (some (t_6, true)) (fun K => pvv prog (Instr.indexAt 38 t_10 t_12) w K) w fun t_13 w =>
        bindS (vN (Instr.loadAt 3 t_9)) fun m_15 => gate (some (t_6, true)) (fun K => ldv prog (Instr.loadAt 3 t_9) w K) w fun t_14 w =>
        bindS (vN (Instr.loadAt 3 t_13)) fun m_17 => gate (some (t_6, true)) (fun K => ldv prog (Instr.loadAt 3 t_13) w K) w fun t_16 w =>
        gate (some (t_6, true)) (fun K => Calls prog 77 #[t_14, t_16] w (Ret fun s_36 w => K s_36 w)) w fun t_18 w =>
        pv prog (oPick t_6 t_18 (.bool false)) w fun t_19 w =>
        cd t_19 (
          dr w fun w =>
          pvv prog (binOp .sub 3 j_4 (.int .i64 1)) w fun t_20 w =>
          pvv prog (binOp .sub 3 j_4 (.int .i64 1)) w fun t_21 w =>
          pvv prog (Instr.indexAt 38 data_p0 t_21) w fun t_22 w =>
          pvv prog (Instr.indexAt 38 data_p0 j_4) w fun t_23 w =>
          bindS (vN (Instr.loadAt 3 t_22)) fun m_25 => ldv prog (Instr.loadAt 3 t_22) w fun t_24 w =>
          bindS (vN (Instr.loadAt 3 t_23)) fun m_27 => ldv prog (Instr.loadAt 3 t_23) w fun t_26 w =>
          pvv prog (Instr.indexAt 38 data_p0 j_4) w fun t_28 w =>
          efu prog (Instr.storeAt 3 t_28 t_24) w fun u_29 w =>
          pvv prog (Instr.indexAt 38 data_p0 t_20) w fun t_30 w =>
          efu prog (Instr.storeAt 3 t_30 t_26) w fun u_31 w =>
          pvv prog (binOp .sub 3 j_4 (.int .i64 1)) w fun t_32 w =>
          again_5 [t_32] w) <|
        pvv prog (binOp .add 3 i_1 (.int .i64 1)) w fun t_35 w =>
        again_2 [t_35] w) [i_1] w) <|
    K (.tuple #[]) w) [t_0] w
theorem B71_eq (data_p0 a_p1 b_p2 : Value) (w : World) (K : Value → World → Prop) : denFn prog Try.f71 T71 [data_p0, a_p1, b_p2] w K = B71 data_p0 a_p1 b_p2 w K := by kernel_rfl
theorem c71 {data_p0 a_p1 b_p2 : Value} {w : World} {K : Value → World → Prop} (h : B71 data_p0 a_p1 b_p2 w K) : Calls prog 71 #[data_p0, a_p1, b_p2] w (Ret K) :=
  denFn_calls Try.func71 T71_ok (Eq.mpr (B71_eq data_p0 a_p1 b_p2 w K) h)

-- 12 (*holdfast/pager.Pager).Commit
def T12 : Ann := (.seq .none (.seq (.seq .none (.seq (.seq .none .none) .none)) (.seq .none (.seq (.seq .none (.block (.loop 33538104 [3] (.seq .none (.seq (.seq .none .none) (.block (.seq .none .none))))))) (.seq .none (.meet 17590038560832 [6] (.seq .none (.seq (.seq .none .none) .none)) (.meet 1108307720798208 [] (.seq .none (.seq .none .none)) (.seq .none .none))))))))
theorem T12_ok : chkFn prog Try.f12 T12 = true := by kernel_rfl
def B12 (p_p0 : Value) (w : World) (K : Value → World → Prop) : Prop :=
  pvv prog (oEq .eql 30 (.tmp 7) (.const (.pointer none)) p_p0 (.pointer none)) w fun t_0 w =>
  cd t_0 (
    K (.int .i64 1) w) <|
  pv prog (oNil p_p0) w fun t_1 w =>
  pvv prog (Instr.fieldAt 65 t_1 2) w fun t_2 w =>
  ldv prog (Instr.loadAt 62 t_2) w fun t_3 w =>
  efv prog (Instr.range 62 t_3) w fun t_4 w =>
  lp (fun σ w again_6 => pop σ fun l_5 σ => fin σ <|
    efv prog (Instr.next t_4 false 0) w fun t_7 w =>
    pvv prog (Instr.extract t_7 0) w fun t_8 w =>
    cd t_8 (
      efv prog (Instr.entry t_4) w fun t_9 w =>
      pvv prog (Instr.extract t_9 0) w fun t_10 w =>
      pvv prog (Instr.extract t_9 1) w fun t_11 w =>
      pvv prog (Instr.build 77 #[(0, t_10), (1, t_11)]) w fun t_12 w =>
      efv prog (Instr.buildSlice 75 1 #[(0, t_12)]) w fun t_13 w =>
      ef prog (oBi .append #[75, 75] 75 #[false, false] #[l_5, t_13]) w fun t_14 w =>
      again_6 [t_14] w) <|
    pv prog (oNil p_p0) w fun t_15 w =>
    pvv prog (Instr.fieldAt 65 t_15 0) w fun t_16 w =>
    ldv prog (Instr.loadAt 27 t_16) w fun t_17 w =>
    Calls prog 30 #[t_17, l_5] w (Ret fun t_18 w =>
    jn (fun σ w => pop σ fun e_19 σ => fin σ <|
      jn (fun σ w => fin σ <|
        K e_19 w) fun k_20 =>
      pvv prog (oEq .eql 24 (.tmp 44) (.const (.int .i64 0)) e_19 (.int .i64 0)) w fun t_21 w =>
      cd t_21 (
        pv prog (oNil p_p0) w fun t_22 w =>
        pvv prog (Instr.fieldAt 65 t_22 2) w fun t_23 w =>
        ldv prog (Instr.loadAt 62 t_23) w fun t_24 w =>
        ef prog (oBi .clear #[62] 0 #[false] #[t_24]) w fun u_25 w =>
        k_20 [] w) <|
      k_20 [] w) fun k_26 =>
    pvv prog (oEq .eql 24 (.tmp 31) (.const (.int .i64 7)) t_18 (.int .i64 7)) w fun t_27 w =>
    cd t_27 (
      pv prog (oNil p_p0) w fun t_28 w =>
      pvv prog (Instr.fieldAt 65 t_28 0) w fun t_29 w =>
      ldv prog (Instr.loadAt 27 t_29) w fun t_30 w =>
      Calls prog 31 #[t_30] w (Ret fun t_31 w =>
      pv prog (oNil p_p0) w fun t_32 w =>
      pvv prog (Instr.fieldAt 65 t_32 0) w fun t_33 w =>
      ldv prog (Instr.loadAt 27 t_33) w fun t_34 w =>
      Calls prog 30 #[t_34, l_5] w (Ret fun t_35 w =>
      k_26 [t_35] w))) <|
    k_26 [t_18] w)) [(.slice none 0 0)] w
theorem B12_eq (p_p0 : Value) (w : World) (K : Value → World → Prop) : denFn prog Try.f12 T12 [p_p0] w K = B12 p_p0 w K := by kernel_rfl
theorem c12 {p_p0 : Value} {w : World} {K : Value → World → Prop} (h : B12 p_p0 w K) : Calls prog 12 #[p_p0] w (Ret K) :=
  denFn_calls Try.func12 T12_ok (Eq.mpr (B12_eq p_p0 w K) h)

-- 4 holdfast/block.New
def T4 : Ann := (.seq .none (.seq (.seq .none (.seq (.seq .none .none) .none)) (.seq .none (.seq (.seq .none (.block (.loop 4292870176 [21] (.seq .none (.seq (.seq .none .none) (.seq (.block (.seq .none (.draw [.op 0 .pure, .op 1 .pure, .op 2 .pure, .op 4 .pure, .op 3 .load, .op 5 .eff, .op 6 .pure, .op 7 .eff]))) .none)))))) (.seq .none .none)))))
theorem T4_ok : chkFn prog Try.f4 T4 = true := by kernel_rfl
def B4 (blocks_p0 : Value) (w : World) (K : Value → World → Prop) : Prop :=
  pvv prog (binOp .lss 3 blocks_p0 (.int .i64 1)) w fun t_0 w =>
  gate (some (t_0, false)) (fun K => K blocks_p0 w) w fun t_1 w =>
  gate (some (t_0, false)) (fun K => pvv prog (binOp .gtr 3 t_1 (.int .i64 1024)) w K) w fun t_2 w =>
  pv prog (oPick t_0 (.bool true) t_2) w fun t_3 w =>
  cd t_3 (
    K (.tuple #[(.pointer none), (.int .i64 2)]) w) <|
  efv prog (Instr.makeSlice 22 blocks_p0 blocks_p0) w fun t_4 w =>
  pvv prog (Instr.build 51 #[(0, t_4)]) w fun t_5 w =>
  efv prog (Instr.box 51 t_5) w fun t_6 w =>
  pv prog (oNil t_6) w fun t_7 w =>
  pvv prog (Instr.fieldAt 51 t_7 0) w fun t_8 w =>
  ldv prog (Instr.loadAt 22 t_8) w fun t_9 w =>
  pv prog (oBi .len #[22] 3 #[false] #[t_9]) w fun t_10 w =>
  lp (fun σ w again_12 => pop σ fun t_11 σ => fin σ <|
    pvv prog (binOp .lss 3 t_11 t_10) w fun t_13 w =>
    cd t_13 (
      dr w fun w =>
      pv prog (oNil t_6) w fun t_14 w =>
      pvv prog (Instr.fieldAt 51 t_14 0) w fun t_15 w =>
      bindS (vN (Instr.loadAt 22 t_15)) fun m_17 => ldv prog (Instr.loadAt 22 t_15) w fun t_16 w =>
      efv prog (Instr.makeSlice 33 (.int .i64 256) (.int .i64 256)) w fun t_18 w => stay prog none m_17 t_16 w <| 
      pvv prog (Instr.indexAt 22 t_16 t_11) w fun t_19 w =>
      efu prog (Instr.storeAt 33 t_19 t_18) w fun u_20 w =>
      pvv prog (binOp .add 3 t_11 (.int .i64 1)) w fun t_21 w =>
      again_12 [t_21] w) <|
    K (.tuple #[t_6, (.int .i64 0)]) w) [(.int .i64 0)] w
theorem B4_eq (blocks_p0 : Value) (w : World) (K : Value → World → Prop) : denFn prog Try.f4 T4 [blocks_p0] w K = B4 blocks_p0 w K := by kernel_rfl
theorem c4 {blocks_p0 : Value} {w : World} {K : Value → World → Prop} (h : B4 blocks_p0 w K) : Calls prog 4 #[blocks_p0] w (Ret K) :=
  denFn_calls Try.func4 T4_ok (Eq.mpr (B4_eq blocks_p0 w K) h)

-- 44 slices.DeleteFunc[[]int,int]
def T44 : Ann := (.seq .none (.seq .none (.seq (.seq .none (.seq (.seq .none .none) .none)) (.seq (.seq .none (.block (.loop 68719411424 [5, 6] (.seq (.seq .none (.seq .none .none)) (.meet 68715282592 [5] (.block (.seq .none (.seq .none (.seq (.seq .none .none) .none)))) .none))))) (.seq .none (.seq .none .none))))))
theorem T44_ok : chkFn prog Try.f44 T44 = true := by kernel_rfl
def B44 (s_p0 del_p1 : Value) (w : World) (K : Value → World → Prop) : Prop :=
  Calls prog 59 #[s_p0, del_p1] w (Ret fun t_0 w =>
  pvv prog (oEq .eql 3 (.tmp 11) (.const (.int .i64 (-1))) t_0 (.int .i64 (-1))) w fun t_1 w =>
  cd t_1 (
    K s_p0 w) <|
  pvv prog (binOp .add 3 t_0 (.int .i64 1)) w fun t_2 w =>
  lp (fun σ w again_5 => pop σ fun i_3 σ => pop σ fun j_4 σ => fin σ <|
    pv prog (oBi .len #[38] 3 #[false] #[s_p0]) w fun t_6 w =>
    pvv prog (binOp .lss 3 j_4 t_6) w fun t_7 w =>
    cd t_7 (
      jn (fun σ w => pop σ fun i_8 σ => fin σ <|
        pvv prog (binOp .add 3 j_4 (.int .i64 1)) w fun t_9 w =>
        again_5 [i_8, t_9] w) fun k_10 =>
      pvv prog (Instr.indexAt 38 s_p0 j_4) w fun t_11 w =>
      ldv prog (Instr.loadAt 3 t_11) w fun t_12 w =>
      ef prog (oCall del_p1 #[t_12]) w fun t_13 w =>
      pvv prog (Op.unary .not t_13) w fun t_14 w =>
      cd t_14 (
        pvv prog (Instr.indexAt 38 s_p0 i_3) w fun t_15 w =>
        efu prog (Instr.storeAt 3 t_15 t_12) w fun u_16 w =>
        pvv prog (binOp .add 3 i_3 (.int .i64 1)) w fun t_17 w =>
        k_10 [t_17] w) <|
      k_10 [i_3] w) <|
    pvv prog (Instr.sliceAt 38 s_p0 (some i_3) none none) w fun t_18 w =>
    ef prog (oBi .clear #[38] 0 #[false] #[t_18]) w fun u_19 w =>
    pvv prog (Instr.sliceAt 38 s_p0 none (some i_3) none) w fun t_20 w =>
    K t_20 w) [t_0, t_2] w)
theorem B44_eq (s_p0 del_p1 : Value) (w : World) (K : Value → World → Prop) : denFn prog Try.f44 T44 [s_p0, del_p1] w K = B44 s_p0 del_p1 w K := by kernel_rfl
theorem c44 {s_p0 del_p1 : Value} {w : World} {K : Value → World → Prop} (h : B44 s_p0 del_p1 w K) : Calls prog 44 #[s_p0, del_p1] w (Ret K) :=
  denFn_calls Try.func44 T44_ok (Eq.mpr (B44_eq s_p0 del_p1 w K) h)

-- 75 slices.reverseRangeOrdered[int]
def T75 : Ann := (.seq .none (.seq .none (.block (.loop 4294965440 [6, 7] (.seq (.seq .none (.seq .none .none)) (.block (.seq (.draw [.op 0 .pure, .op 1 .pure, .op 2 .pure, .op 3 .pure, .op 4 .pure, .op 5 .pure, .op 6 .pure, .op 8 .pure, .op 9 .pure, .op 10 .pure, .op 7 .load, .op 11 .load, .op 12 .pure, .op 13 .eff, .op 14 .pure, .op 15 .eff]) (.seq .none .none))))))))
theorem T75_ok : chkFn prog Try.f75 T75 = true := by kernel_rfl
def B75 (data_p0 a_p1 b_p2 : Value) (w : World) (K : Value → World → Prop) : Prop :=
  pvv prog (binOp .sub 3 b_p2 (.int .i64 1)) w fun t_0 w =>
  lp (fun σ w again_3 => pop σ fun i_1 σ => pop σ fun j_2 σ => fin σ <|
    pvv prog (binOp .lss 3 i_1 j_2) w fun t_4 w =>
    cd t_4 (
      dr w fun w =>
      pvv prog (Instr.indexAt 38 data_p0 j_2) w fun t_5 w =>
      pvv prog (Instr.indexAt 38 data_p0 i_1) w fun t_6 w =>
      bindS (vN (Instr.loadAt 3 t_5)) fun m_8 => ldv prog (Instr.loadAt 3 t_5) w fun t_7 w =>
      bindS (vN (Instr.loadAt 3 t_6)) fun m_10 => ldv prog (Instr.loadAt 3 t_6) w fun t_9 w =>
      pvv prog (Instr.indexAt 38 data_p0 i_1) w fun t_11 w =>
      efu prog (Instr.storeAt 3 t_11 t_7) w fun u_12 w =>
      pvv prog (Instr.indexAt 38 data_p0 j_2) w fun t_13 w =>
      efu prog (Instr.storeAt 3 t_13 t_9) w fun u_14 w =>
      pvv prog (binOp .add 3 i_1 (.int .i64 1)) w fun t_15 w =>
      pvv prog (binOp .sub 3 j_2 (.int .i64 1)) w fun t_16 w =>
      again_3 [t_15, t_16] w) <|
    K (.tuple #[]) w) [a_p1, t_0] w
theorem B75_eq (data_p0 a_p1 b_p2 : Value) (w : World) (K : Value → World → Prop) : denFn prog Try.f75 T75 [data_p0, a_p1, b_p2] w K = B75 data_p0 a_p1 b_p2 w K := by kernel_rfl
theorem c75 {data_p0 a_p1 b_p2 : Value} {w : World} {K : Value → World → Prop} (h : B75 data_p0 a_p1 b_p2 w K) : Calls prog 75 #[data_p0, a_p1, b_p2] w (Ret K) :=
  denFn_calls Try.func75 T75_ok (Eq.mpr (B75_eq data_p0 a_p1 b_p2 w K) h)

-- 39 (*holdfast/wal.Log).Pages
def T39 : Ann := (.seq .none (.seq (.seq .none (.seq (.seq .none .none) .none)) (.seq (.draw [.op 0 .pure, .op 1 .pure, .op 2 .pure, .op 3 .pure, .op 6 .pure, .op 7 .pure, .op 8 .pure, .op 4 .load, .op 9 .load, .op 5 .eff, .op 10 .pure, .op 11 .pure, .op 12 .pure]) .none)))
theorem T39_ok : chkFn prog Try.f39 T39 = true := by kernel_rfl
def B39 (l_p0 : Value) (w : World) (K : Value → World → Prop) : Prop :=
  pvv prog (oEq .eql 27 (.tmp 3) (.const (.pointer none)) l_p0 (.pointer none)) w fun t_0 w =>
  cd t_0 (
    K (.int .i64 0) w) <|
  dr w fun w =>
  pv prog (oNil l_p0) w fun t_1 w =>
  pvv prog (Instr.fieldAt 58 t_1 0) w fun t_2 w =>
  pvv prog (Instr.fieldAt 55 t_2 0) w fun t_3 w =>
  pv prog (oNil l_p0) w fun t_4 w =>
  pvv prog (Instr.fieldAt 58 t_4 1) w fun t_5 w =>
  bindS (vN (Instr.loadAt 23 t_3)) fun m_7 => ldv prog (Instr.loadAt 23 t_3) w fun t_6 w =>
  bindS (vN (Instr.loadAt 3 t_5)) fun m_9 => ldv prog (Instr.loadAt 3 t_5) w fun t_8 w =>
  Calls prog 15 #[t_6] w (Ret fun t_10 w => stay prog none m_9 t_8 w <| 
  pvv prog (binOp .sub 3 t_10 t_8) w fun t_11 w =>
  pvv prog (binOp .sub 3 t_11 (.int .i64 1)) w fun t_12 w =>
  K t_12 w)
theorem B39_eq (l_p0 : Value) (w : World) (K : Value → World → Prop) : denFn prog Try.f39 T39 [l_p0] w K = B39 l_p0 w K := by kernel_rfl
theorem c39 {l_p0 : Value} {w : World} {K : Value → World → Prop} (h : B39 l_p0 w K) : Calls prog 39 #[l_p0] w (Ret K) :=
  denFn_calls Try.func39 T39_ok (Eq.mpr (B39_eq l_p0 w K) h)

-- 52 holdfast/wal.set
def T52 : Ann := (.seq .none (.block (.loop 8388496 [7] (.seq .none (.seq (.seq .none .none) (.seq (.block (.seq .none .none)) .none))))))
theorem T52_ok : chkFn prog Try.f52 T52 = true := by kernel_rfl
def B52 (b_p0 n_p1 : Value) (w : World) (K : Value → World → Prop) : Prop :=
  pv prog (oBi .len #[33] 3 #[false] #[b_p0]) w fun t_0 w =>
  lp (fun σ w again_2 => pop σ fun t_1 σ => fin σ <|
    pvv prog (binOp .lss 3 t_1 t_0) w fun t_3 w =>
    cd t_3 (
      pv prog (oBi .len #[33] 3 #[false] #[b_p0]) w fun t_4 w =>
      pvv prog (binOp .sub 3 t_4 (.int .i64 1)) w fun t_5 w =>
      pvv prog (binOp .sub 3 t_5 t_1) w fun t_6 w =>
      pvv prog (binOp .mul 3 (.int .i64 8) t_1) w fun t_7 w =>
      pvv prog (binOp .shr 3 n_p1 t_7) w fun t_8 w =>
      pvv prog (convert 3 5 t_8) w fun t_9 w =>
      pvv prog (Instr.indexAt 33 b_p0 t_6) w fun t_10 w =>
      efu prog (Instr.storeAt 5 t_10 t_9) w fun u_11 w =>
      pvv prog (binOp .add 3 t_1 (.int .i64 1)) w fun t_12 w =>
      again_2 [t_12] w) <|
    K (.tuple #[]) w) [(.int .i64 0)] w
theorem B52_eq (b_p0 n_p1 : Value) (w : World) (K : Value → World → Prop) : denFn prog Try.f52 T52 [b_p0, n_p1] w K = B52 b_p0 n_p1 w K := by kernel_rfl
theorem c52 {b_p0 n_p1 : Value} {w : World} {K : Value → World → Prop} (h : B52 b_p0 n_p1 w K) : Calls prog 52 #[b_p0, n_p1] w (Ret K) :=
  denFn_calls Try.func52 T52_ok (Eq.mpr (B52_eq b_p0 n_p1 w K) h)

-- 20 holdfast/wal.get
def T20 : Ann := (.seq .none (.seq .none (.seq (.seq .none (.block (.loop 261928 [3, 8] (.seq .none (.seq (.seq .none .none) (.seq (.block (.seq .none .none)) .none)))))) (.seq .none .none))))
theorem T20_ok : chkFn prog Try.f20 T20 = true := by kernel_rfl
def B20 (b_p0 : Value) (w : World) (K : Value → World → Prop) : Prop :=
  pv prog (oBi .len #[33] 3 #[false] #[b_p0]) w fun t_0 w =>
  lp (fun σ w again_3 => pop σ fun n_1 σ => pop σ fun t_2 σ => fin σ <|
    pvv prog (binOp .lss 3 t_2 t_0) w fun t_4 w =>
    cd t_4 (
      pvv prog (Instr.indexAt 33 b_p0 t_2) w fun t_5 w =>
      ldv prog (Instr.loadAt 5 t_5) w fun t_6 w =>
      pvv prog (binOp .shl 3 n_1 (.int .u64 8)) w fun t_7 w =>
      pvv prog (convert 5 3 t_6) w fun t_8 w =>
      pvv prog (binOp .or 3 t_7 t_8) w fun t_9 w =>
      pvv prog (binOp .add 3 t_2 (.int .i64 1)) w fun t_10 w =>
      again_3 [t_9, t_10] w) <|
    K n_1 w) [(.int .i64 0), (.int .i64 0)] w
theorem B20_eq (b_p0 : Value) (w : World) (K : Value → World → Prop) : denFn prog Try.f20 T20 [b_p0] w K = B20 b_p0 w K := by kernel_rfl
theorem c20 {b_p0 : Value} {w : World} {K : Value → World → Prop} (h : B20 b_p0 w K) : Calls prog 20 #[b_p0] w (Ret K) :=
  denFn_calls Try.func20 T20_ok (Eq.mpr (B20_eq b_p0 w K) h)

-- 48 maps.Keys[map[int][]byte,int,[]byte]$1
def T48 : Ann := (.seq .none (.block (.loop 16328 [] (.seq .none (.seq (.seq .none .none) (.block (.seq .none (.seq .none (.seq .none .none)))))))))
theorem T48_ok : chkFn prog Try.f48 T48 = true := by kernel_rfl
def B48 (yield_p0 x_p1 : Value) (w : World) (K : Value → World → Prop) : Prop :=
  ldv prog (Instr.loadAt 62 x_p1) w fun t_0 w =>
  efv prog (Instr.range 62 t_0) w fun t_1 w =>
  lp (fun σ w again_2 => fin σ <|
    efv prog (Instr.next t_1 false 0) w fun t_3 w =>
    pvv prog (Instr.extract t_3 0) w fun t_4 w =>
    cd t_4 (
      efv prog (Instr.entry t_1) w fun t_5 w =>
      pvv prog (Instr.extract t_5 0) w fun t_6 w =>
      ef prog (oCall yield_p0 #[t_6]) w fun t_7 w =>
      pvv prog (Op.unary .not t_7) w fun t_8 w =>
      cd t_8 (
        K (.tuple #[]) w) <|
      again_2 [] w) <|
    K (.tuple #[]) w) [] w
theorem B48_eq (yield_p0 x_p1 : Value) (w : World) (K : Value → World → Prop) : denFn prog Try.f48 T48 [yield_p0, x_p1] w K = B48 yield_p0 x_p1 w K := by kernel_rfl
theorem c48 {yield_p0 x_p1 : Value} {w : World} {K : Value → World → Prop} (h : B48 yield_p0 x_p1 w K) : Calls prog 48 #[yield_p0, x_p1] w (Ret K) :=
  denFn_calls Try.func48 T48_ok (Eq.mpr (B48_eq yield_p0 x_p1 w K) h)

-- 59 slices.IndexFunc[[]int,int]
def T59 : Ann := (.seq .none (.seq (.seq .none (.block (.loop 524080 [8] (.seq .none (.seq (.seq .none .none) (.seq (.block (.seq .none (.seq .none (.seq (.seq .none .none) .none)))) .none)))))) (.seq .none .none)))
theorem T59_ok : chkFn prog Try.f59 T59 = true := by kernel_rfl
def B59 (s_p0 f_p1 : Value) (w : World) (K : Value → World → Prop) : Prop :=
  pv prog (oBi .len #[38] 3 #[false] #[s_p0]) w fun t_0 w =>
  lp (fun σ w again_2 => pop σ fun t_1 σ => fin σ <|
    pvv prog (binOp .lss 3 t_1 t_0) w fun t_3 w =>
    cd t_3 (
      pvv prog (Instr.indexAt 38 s_p0 t_1) w fun t_4 w =>
      ldv prog (Instr.loadAt 3 t_4) w fun t_5 w =>
      ef prog (oCall f_p1 #[t_5]) w fun t_6 w =>
      cd t_6 (
        K t_1 w) <|
      pvv prog (binOp .add 3 t_1 (.int .i64 1)) w fun t_7 w =>
      again_2 [t_7] w) <|
    K (.int .i64 (-1)) w) [(.int .i64 0)] w
theorem B59_eq (s_p0 f_p1 : Value) (w : World) (K : Value → World → Prop) : denFn prog Try.f59 T59 [s_p0, f_p1] w K = B59 s_p0 f_p1 w K := by kernel_rfl
theorem c59 {s_p0 f_p1 : Value} {w : World} {K : Value → World → Prop} (h : B59 s_p0 f_p1 w K) : Calls prog 59 #[s_p0, f_p1] w (Ret K) :=
  denFn_calls Try.func59 T59_ok (Eq.mpr (B59_eq s_p0 f_p1 w K) h)

-- 11 (*holdfast/pager.Pager).Dirty
def T11 : Ann := (.seq .none (.seq (.seq .none (.seq (.seq .none .none) .none)) (.seq .none .none)))
theorem T11_ok : chkFn prog Try.f11 T11 = true := by kernel_rfl
def B11 (p_p0 : Value) (w : World) (K : Value → World → Prop) : Prop :=
  pvv prog (oEq .eql 30 (.tmp 3) (.const (.pointer none)) p_p0 (.pointer none)) w fun t_0 w =>
  cd t_0 (
    K (.slice none 0 0) w) <|
  pv prog (oNil p_p0) w fun t_1 w =>
  pvv prog (Instr.fieldAt 65 t_1 2) w fun t_2 w =>
  ldv prog (Instr.loadAt 62 t_2) w fun t_3 w =>
  Calls prog 29 #[t_3] w (Ret fun t_4 w =>
  Calls prog 28 #[t_4] w (Ret fun t_5 w =>
  K t_5 w))
theorem B11_eq (p_p0 : Value) (w : World) (K : Value → World → Prop) : denFn prog Try.f11 T11 [p_p0] w K = B11 p_p0 w K := by kernel_rfl
theorem c11 {p_p0 : Value} {w : World} {K : Value → World → Prop} (h : B11 p_p0 w K) : Calls prog 11 #[p_p0] w (Ret K) :=
  denFn_calls Try.func11 T11_ok (Eq.mpr (B11_eq p_p0 w K) h)

-- 8 (*holdfast/wal.Log).Disk
def T8 : Ann := (.seq .none (.seq (.seq .none (.seq (.seq .none .none) .none)) (.seq .none .none)))
theorem T8_ok : chkFn prog Try.f8 T8 = true := by kernel_rfl
def B8 (l_p0 : Value) (w : World) (K : Value → World → Prop) : Prop :=
  pvv prog (oEq .eql 27 (.tmp 3) (.const (.pointer none)) l_p0 (.pointer none)) w fun t_0 w =>
  cd t_0 (
    K (.pointer none) w) <|
  pv prog (oNil l_p0) w fun t_1 w =>
  pvv prog (Instr.fieldAt 58 t_1 0) w fun t_2 w =>
  pvv prog (Instr.fieldAt 55 t_2 0) w fun t_3 w =>
  ldv prog (Instr.loadAt 23 t_3) w fun t_4 w =>
  Calls prog 23 #[t_4] w (Ret fun t_5 w =>
  K t_5 w)
theorem B8_eq (l_p0 : Value) (w : World) (K : Value → World → Prop) : denFn prog Try.f8 T8 [l_p0] w K = B8 l_p0 w K := by kernel_rfl
theorem c8 {l_p0 : Value} {w : World} {K : Value → World → Prop} (h : B8 l_p0 w K) : Calls prog 8 #[l_p0] w (Ret K) :=
  denFn_calls Try.func8 T8_ok (Eq.mpr (B8_eq l_p0 w K) h)

-- 86 slices.medianAdjacentOrdered[int]
def T86 : Ann := (.seq .none (.seq .none .none))
theorem T86_ok : chkFn prog Try.f86 T86 = true := by kernel_rfl
def B86 (data_p0 a_p1 swaps_p2 : Value) (w : World) (K : Value → World → Prop) : Prop :=
  pvv prog (binOp .sub 3 a_p1 (.int .i64 1)) w fun t_0 w =>
  pvv prog (binOp .add 3 a_p1 (.int .i64 1)) w fun t_1 w =>
  Calls prog 87 #[data_p0, t_0, a_p1, t_1, swaps_p2] w (Ret fun t_2 w =>
  K t_2 w)
theorem B86_eq (data_p0 a_p1 swaps_p2 : Value) (w : World) (K : Value → World → Prop) : denFn prog Try.f86 T86 [data_p0, a_p1, swaps_p2] w K = B86 data_p0 a_p1 swaps_p2 w K := by kernel_rfl
theorem c86 {data_p0 a_p1 swaps_p2 : Value} {w : World} {K : Value → World → Prop} (h : B86 data_p0 a_p1 swaps_p2 w K) : Calls prog 86 #[data_p0, a_p1, swaps_p2] w (Ret K) :=
  denFn_calls Try.func86 T86_ok (Eq.mpr (B86_eq data_p0 a_p1 swaps_p2 w K) h)

-- 57 (*sync/atomic.Int64).Add
def T57 : Ann := (.seq .none (.seq .none .none))
theorem T57_ok : chkFn prog Try.f57 T57 = true := by kernel_rfl
def B57 (x_p0 delta_p1 : Value) (w : World) (K : Value → World → Prop) : Prop :=
  pv prog (oNil x_p0) w fun t_0 w =>
  pvv prog (Instr.fieldAt 49 t_0 2) w fun t_1 w =>
  ef prog (oCall (.func (.func 69) #[] #[]) #[t_1, delta_p1]) w fun t_2 w =>
  K t_2 w
theorem B57_eq (x_p0 delta_p1 : Value) (w : World) (K : Value → World → Prop) : denFn prog Try.f57 T57 [x_p0, delta_p1] w K = B57 x_p0 delta_p1 w K := by kernel_rfl
theorem c57 {x_p0 delta_p1 : Value} {w : World} {K : Value → World → Prop} (h : B57 x_p0 delta_p1 w K) : Calls prog 57 #[x_p0, delta_p1] w (Ret K) :=
  denFn_calls Try.func57 T57_ok (Eq.mpr (B57_eq x_p0 delta_p1 w K) h)

-- 42 (*sync/atomic.Int64).Store
def T42 : Ann := .none
theorem T42_ok : chkFn prog Try.f42 T42 = true := by kernel_rfl
def B42 (x_p0 val_p1 : Value) (w : World) (K : Value → World → Prop) : Prop :=
  pv prog (oNil x_p0) w fun t_0 w =>
  pvv prog (Instr.fieldAt 49 t_0 2) w fun t_1 w =>
  ef prog (oCall (.func (.func 63) #[] #[]) #[t_1, val_p1]) w fun t_2 w =>
  K (.tuple #[]) w
theorem B42_eq (x_p0 val_p1 : Value) (w : World) (K : Value → World → Prop) : denFn prog Try.f42 T42 [x_p0, val_p1] w K = B42 x_p0 val_p1 w K := by kernel_rfl
theorem c42 {x_p0 val_p1 : Value} {w : World} {K : Value → World → Prop} (h : B42 x_p0 val_p1 w K) : Calls prog 42 #[x_p0, val_p1] w (Ret K) :=
  denFn_calls Try.func42 T42_ok (Eq.mpr (B42_eq x_p0 val_p1 w K) h)

-- 35 slices.ContainsFunc[[][]byte,[]byte]
def T35 : Ann := (.seq .none (.seq .none .none))
theorem T35_ok : chkFn prog Try.f35 T35 = true := by kernel_rfl
def B35 (s_p0 f_p1 : Value) (w : World) (K : Value → World → Prop) : Prop :=
  Calls prog 61 #[s_p0, f_p1] w (Ret fun t_0 w =>
  pvv prog (binOp .geq 3 t_0 (.int .i64 0)) w fun t_1 w =>
  K t_1 w)
theorem B35_eq (s_p0 f_p1 : Value) (w : World) (K : Value → World → Prop) : denFn prog Try.f35 T35 [s_p0, f_p1] w K = B35 s_p0 f_p1 w K := by kernel_rfl
theorem c35 {s_p0 f_p1 : Value} {w : World} {K : Value → World → Prop} (h : B35 s_p0 f_p1 w K) : Calls prog 35 #[s_p0, f_p1] w (Ret K) :=
  denFn_calls Try.func35 T35_ok (Eq.mpr (B35_eq s_p0 f_p1 w K) h)

-- 36 holdfast/block.Load$1
def T36 : Ann := (.seq .none (.seq .none .none))
theorem T36_ok : chkFn prog Try.f36 T36 = true := by kernel_rfl
def B36 (b_p0 : Value) (w : World) (K : Value → World → Prop) : Prop :=
  pv prog (oBi .len #[33] 3 #[false] #[b_p0]) w fun t_0 w =>
  pvv prog (oEq .neq 3 (.tmp 4) (.const (.int .i64 256)) t_0 (.int .i64 256)) w fun t_1 w =>
  K t_1 w
theorem B36_eq (b_p0 : Value) (w : World) (K : Value → World → Prop) : denFn prog Try.f36 T36 [b_p0] w K = B36 b_p0 w K := by kernel_rfl
theorem c36 {b_p0 : Value} {w : World} {K : Value → World → Prop} (h : B36 b_p0 w K) : Calls prog 36 #[b_p0] w (Ret K) :=
  denFn_calls Try.func36 T36_ok (Eq.mpr (B36_eq b_p0 w K) h)

-- 68 maps.Keys[map[int]int,int,int]
def T68 : Ann := (.seq .none (.seq .none .none))
theorem T68_ok : chkFn prog Try.f68 T68 = true := by kernel_rfl
def B68 (m_p0 : Value) (w : World) (K : Value → World → Prop) : Prop :=
  efv prog (Instr.box 56 m_p0) w fun m_0 w =>
  pvv prog (Instr.makeFunc (.func 82) #[] #[m_0]) w fun t_1 w =>
  K t_1 w
theorem B68_eq (m_p0 : Value) (w : World) (K : Value → World → Prop) : denFn prog Try.f68 T68 [m_p0] w K = B68 m_p0 w K := by kernel_rfl
theorem c68 {m_p0 : Value} {w : World} {K : Value → World → Prop} (h : B68 m_p0 w K) : Calls prog 68 #[m_p0] w (Ret K) :=
  denFn_calls Try.func68 T68_ok (Eq.mpr (B68_eq m_p0 w K) h)

-- 88 cmp.isNaN[int]
def T88 : Ann := (.seq .none (.seq .none .none))
theorem T88_ok : chkFn prog Try.f88 T88 = true := by kernel_rfl
def B88 (x_p0 : Value) (w : World) (K : Value → World → Prop) : Prop :=
  pvv prog (oEq .neq 3 (.tmp 3) (.tmp 4) x_p0 x_p0) w fun t_0 w =>
  K t_0 w
theorem B88_eq (x_p0 : Value) (w : World) (K : Value → World → Prop) : denFn prog Try.f88 T88 [x_p0] w K = B88 x_p0 w K := by kernel_rfl
theorem c88 {x_p0 : Value} {w : World} {K : Value → World → Prop} (h : B88 x_p0 w K) : Calls prog 88 #[x_p0] w (Ret K) :=
  denFn_calls Try.func88 T88_ok (Eq.mpr (B88_eq x_p0 w K) h)


end Go.Proofs.Ytcjklbhobmkalaa
