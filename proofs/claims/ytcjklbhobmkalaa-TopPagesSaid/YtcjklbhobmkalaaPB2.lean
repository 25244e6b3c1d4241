import Derived.Test.YtcjklbhobmkalaaPI
set_option linter.all false
set_option maxRecDepth 100000
namespace Go.Proofs.Ytcjklbhobmkalaa
open Go Hold
-- 3 holdfast/holdfasttop.TopPages
def T3 : Ann := (.seq .none (.seq .none (.seq .none (.seq .none (.seq (.seq .none (.seq (.seq .none .none) .none)) (.seq .none (.seq (.seq .none (.block (.loop 1427247692705959881058285969449459952012751760 [9, 12] (.seq (.seq .none (.seq .none .none)) (.seq (.block (.seq .none (.seq .none (.seq (.seq .none (.block (.loop 633825300113538239996048408592 [15] (.seq (.seq .none (.seq .none .none)) (.seq (.block (.seq .none (.seq .none (.seq .none (.seq (.seq .none (.seq (.seq .none .none) .none)) .none))))) .none))))) (.seq .none (.seq (.seq .none (.seq (.seq .none .none) .none)) (.seq (.seq .none (.seq .none (.seq (.seq .none .none) .none))) (.seq .none (.seq .none (.seq (.seq .none (.seq (.seq .none .none) .none)) .none)))))))))) .none))))) (.seq (.seq .none (.block (.loop 191561941180988414588833497335502678502847253904883728 [21] (.seq (.seq .none (.seq .none .none)) (.seq (.block (.seq .none (.seq (.draw [.op 0 .pure, .op 1 .pure, .op 2 .pure, .op 3 .pure, .op 4 .pure, .op 5 .pure, .op 6 .pure, .op 7 .pure, .op 8 .pure, .op 9 .pure, .op 11 .pure, .op 12 .pure, .op 13 .pure, .op 10 .load, .op 14 .load, .op 15 .pure, .op 16 .pure]) (.seq (.seq .none .none) .none)))) .none))))) (.seq .none .none)))))))))
theorem T3_ok : chkFn prog Try.f3 T3 = true := by kernel_rfl
def B3 (l_p0 x_p1 : Value) (w : World) (K : Value → World → Prop) : Prop :=
  Calls prog 4 #[(.int .i64 60)] w (Ret fun t_0 w =>
  pvv prog (Instr.extract t_0 0) w fun t_1 w =>
  pvv prog (Instr.extract t_0 1) w fun t_2 w =>
  Calls prog 5 #[t_1, (.int .i64 20)] w (Ret fun t_3 w =>
  pvv prog (Instr.extract t_3 0) w fun t_4 w =>
  pvv prog (Instr.extract t_3 1) w fun t_5 w =>
  Calls prog 6 #[t_4, (.int .i64 2)] w (Ret fun t_6 w =>
  pvv prog (Instr.extract t_6 0) w fun t_7 w =>
  pvv prog (Instr.extract t_6 1) w fun t_8 w =>
  pvv prog (oEq .neq 24 (.tmp 38) (.const (.int .i64 0)) t_5 (.int .i64 0)) w fun t_9 w =>
  gate (some (t_9, false)) (fun K => K t_8 w) w fun t_10 w =>
  gate (some (t_9, false)) (fun K => pvv prog (oEq .neq 24 (.tmp 41) (.const (.int .i64 0)) t_10 (.int .i64 0)) w K) w fun t_11 w =>
  pv prog (oPick t_9 (.bool true) t_11) w fun t_12 w =>
  cd t_12 (
    K (.bool false) w) <|
  efv prog (Instr.makeSlice 33 (.int .i64 39) (.int .i64 39)) w fun t_13 w =>
  lp (fun σ w again_16 => pop σ fun p_14 σ => pop σ fun i_15 σ => fin σ <|
    pv prog (oBi .len #[22] 3 #[false] #[l_p0]) w fun t_17 w =>
    pvv prog (binOp .lss 3 i_15 t_17) w fun t_18 w =>
    gate (some (t_18, true)) (fun K => K i_15 w) w fun t_19 w =>
    gate (some (t_18, true)) (fun K => pvv prog (binOp .lss 3 t_19 (.int .i64 12)) w K) w fun t_20 w =>
    pv prog (oPick t_18 t_20 (.bool false)) w fun t_21 w =>
    cd t_21 (
      Calls prog 7 #[p_14] w (Ret fun t_22 w =>
      Calls prog 8 #[t_22] w (Ret fun t_23 w =>
      Calls prog 9 #[t_23] w (Ret fun t_24 w =>
      lp (fun σ w again_26 => pop σ fun k_25 σ => fin σ <|
        pvv prog (Instr.indexAt 22 l_p0 i_15) w fun t_27 w =>
        ldv prog (Instr.loadAt 33 t_27) w fun t_28 w =>
        pv prog (oBi .len #[33] 3 #[false] #[t_28]) w fun t_29 w =>
        pvv prog (binOp .lss 3 k_25 t_29) w fun t_30 w =>
        gate (some (t_30, true)) (fun K => K k_25 w) w fun t_31 w =>
        gate (some (t_30, true)) (fun K => pvv prog (binOp .lss 3 t_31 (.int .i64 15)) w K) w fun t_32 w =>
        pv prog (oPick t_30 t_32 (.bool false)) w fun t_33 w =>
        cd t_33 (
          pvv prog (Instr.indexAt 22 l_p0 i_15) w fun t_34 w =>
          ldv prog (Instr.loadAt 33 t_34) w fun t_35 w =>
          pvv prog (Instr.indexAt 33 t_35 k_25) w fun t_36 w =>
          ldv prog (Instr.loadAt 5 t_36) w fun t_37 w =>
          pvv prog (convert 5 3 t_37) w fun t_38 w =>
          pvv prog (binOp .rem 3 t_38 (.int .i64 39)) w fun t_39 w =>
          efv prog (Instr.makeSlice 33 (.int .i64 256) (.int .i64 256)) w fun t_40 w =>
          pvv prog (convert 3 5 k_25) w fun t_41 w =>
          pvv prog (binOp .add 5 x_p1 t_41) w fun t_42 w =>
          pvv prog (Instr.indexAt 33 t_40 (.int .i64 7)) w fun t_43 w =>
          efu prog (Instr.storeAt 5 t_43 t_42) w fun u_44 w =>
          Calls prog 10 #[p_14, t_39, t_40] w (Ret fun t_45 w =>
          pvv prog (oEq .neq 24 (.tmp 91) (.const (.int .i64 0)) t_45 (.int .i64 0)) w fun t_46 w =>
          cd t_46 (
            K (.bool false) w) <|
          pvv prog (Instr.indexAt 33 t_40 (.int .i64 7)) w fun t_47 w =>
          ldv prog (Instr.loadAt 5 t_47) w fun t_48 w =>
          pvv prog (Instr.indexAt 33 t_13 t_39) w fun t_49 w =>
          efu prog (Instr.storeAt 5 t_49 t_48) w fun u_50 w =>
          pvv prog (binOp .add 3 k_25 (.int .i64 1)) w fun t_51 w =>
          again_26 [t_51] w)) <|
        Calls prog 11 #[p_14] w (Ret fun t_52 w =>
        pv prog (oBi .len #[38] 3 #[false] #[t_52]) w fun t_53 w =>
        Calls prog 12 #[p_14] w (Ret fun t_54 w =>
        pvv prog (oEq .neq 24 (.tmp 103) (.const (.int .i64 0)) t_54 (.int .i64 0)) w fun t_55 w =>
        cd t_55 (
          K (.bool false) w) <|
        Calls prog 7 #[p_14] w (Ret fun t_56 w =>
        Calls prog 8 #[t_56] w (Ret fun t_57 w =>
        Calls prog 9 #[t_57] w (Ret fun t_58 w =>
        pvv prog (binOp .sub 3 t_58 t_24) w fun t_59 w =>
        pvv prog (binOp .gtr 3 t_53 (.int .i64 0)) w fun t_60 w =>
        gate (some (t_60, true)) (fun K => K t_59 w) w fun t_61 w =>
        gate (some (t_60, true)) (fun K => K t_53 w) w fun t_62 w =>
        gate (some (t_60, true)) (fun K => pvv prog (binOp .add 3 t_62 (.int .i64 2)) w K) w fun t_63 w =>
        gate (some (t_60, true)) (fun K => pvv prog (binOp .lss 3 t_61 t_63) w K) w fun t_64 w =>
        pv prog (oPick t_60 t_64 (.bool false)) w fun t_65 w =>
        gate (some (t_65, false)) (fun K => K t_53 w) w fun t_66 w =>
        gate (some (t_65, false)) (fun K => pvv prog (oEq .eql 3 (.tmp 120) (.const (.int .i64 0)) t_66 (.int .i64 0)) w K) w fun t_67 w =>
        gate (some (t_65, false)) (fun K => K t_67 w) w fun t_68 w =>
        gate (some (t_68, true)) (fun K => K t_59 w) w fun t_69 w =>
        gate (some (t_68, true)) (fun K => pvv prog (oEq .neq 3 (.tmp 123) (.const (.int .i64 0)) t_69 (.int .i64 0)) w K) w fun t_70 w =>
        gate (some (t_65, false)) (fun K => pv prog (oPick t_68 t_70 (.bool false)) w K) w fun t_71 w =>
        pv prog (oPick t_65 (.bool true) t_71) w fun t_72 w =>
        cd t_72 (
          K (.bool false) w) <|
        Calls prog 7 #[p_14] w (Ret fun t_73 w =>
        Calls prog 8 #[t_73] w (Ret fun t_74 w =>
        Calls prog 7 #[p_14] w (Ret fun t_75 w =>
        Calls prog 8 #[t_75] w (Ret fun t_76 w =>
        Calls prog 9 #[t_76] w (Ret fun t_77 w =>
        Calls prog 13 #[t_74, t_77] w (Ret fun t_78 w =>
        pvv prog (Instr.extract t_78 0) w fun t_79 w =>
        pvv prog (Instr.extract t_78 1) w fun t_80 w =>
        Calls prog 5 #[t_79, (.int .i64 20)] w (Ret fun t_81 w =>
        pvv prog (Instr.extract t_81 0) w fun t_82 w =>
        pvv prog (Instr.extract t_81 1) w fun t_83 w =>
        pvv prog (oEq .neq 24 (.tmp 143) (.const (.int .i64 0)) t_83 (.int .i64 0)) w fun t_84 w =>
        cd t_84 (
          K (.bool false) w) <|
        Calls prog 6 #[t_82, (.int .i64 2)] w (Ret fun t_85 w =>
        pvv prog (Instr.extract t_85 0) w fun t_86 w =>
        pvv prog (Instr.extract t_85 1) w fun t_87 w =>
        pvv prog (binOp .add 3 i_15 (.int .i64 1)) w fun t_88 w =>
        again_16 [t_86, t_88] w)))))))))))))) [(.int .i64 0)] w)))) <|
    lp (fun σ w again_90 => pop σ fun n_89 σ => fin σ <|
      pvv prog (binOp .lss 3 n_89 (.int .i64 39)) w fun t_91 w =>
      cd t_91 (
        Calls prog 14 #[p_14, n_89] w (Ret fun t_92 w =>
        pvv prog (Instr.extract t_92 0) w fun t_93 w =>
        pvv prog (Instr.extract t_92 1) w fun t_94 w =>
        dr w fun w =>
        pvv prog (oEq .neq 24 (.tmp 160) (.const (.int .i64 0)) t_94 (.int .i64 0)) w fun t_95 w =>
        gate (some (t_95, false)) (fun K => K t_93 w) w fun t_96 w =>
        gate (some (t_95, false)) (fun K => pv prog (oBi .len #[33] 3 #[false] #[t_96]) w K) w fun t_97 w =>
        gate (some (t_95, false)) (fun K => pvv prog (oEq .neq 3 (.tmp 164) (.const (.int .i64 256)) t_97 (.int .i64 256)) w K) w fun t_98 w =>
        pv prog (oPick t_95 (.bool true) t_98) w fun t_99 w =>
        gate (some (t_99, false)) (fun K => K t_93 w) w fun t_100 w =>
        gate (some (t_99, false)) (fun K => pvv prog (Instr.indexAt 33 t_100 (.int .i64 7)) w K) w fun t_101 w =>
        gate (some (t_99, false)) (fun K => K t_13 w) w fun t_102 w =>
        gate (some (t_99, false)) (fun K => K n_89 w) w fun t_103 w =>
        gate (some (t_99, false)) (fun K => pvv prog (Instr.indexAt 33 t_102 t_103) w K) w fun t_104 w =>
        bindS (vN (Instr.loadAt 5 t_101)) fun m_106 => gate (some (t_99, false)) (fun K => ldv prog (Instr.loadAt 5 t_101) w K) w fun t_105 w =>
        bindS (vN (Instr.loadAt 5 t_104)) fun m_108 => gate (some (t_99, false)) (fun K => ldv prog (Instr.loadAt 5 t_104) w K) w fun t_107 w =>
        gate (some (t_99, false)) (fun K => pvv prog (oEq .neq 5 (.tmp 170) (.tmp 174) t_105 t_107) w K) w fun t_109 w =>
        pv prog (oPick t_99 (.bool true) t_109) w fun t_110 w =>
        cd t_110 (
          K (.bool false) w) <|
        pvv prog (binOp .add 3 n_89 (.int .i64 1)) w fun t_111 w =>
        again_90 [t_111] w)) <|
      K (.bool true) w) [(.int .i64 0)] w) [t_7, (.int .i64 0)] w)))
theorem B3_eq (l_p0 x_p1 : Value) (w : World) (K : Value → World → Prop) : denFn prog Try.f3 T3 [l_p0, x_p1] w K = B3 l_p0 x_p1 w K := by kernel_rfl
theorem c3 {l_p0 x_p1 : Value} {w : World} {K : Value → World → Prop} (h : B3 l_p0 x_p1 w K) : Calls prog 3 #[l_p0, x_p1] w (Ret K) :=
  denFn_calls Try.func3 T3_ok (Eq.mpr (B3_eq l_p0 x_p1 w K) h)

-- 5 holdfast/wal.Open
def T5 : Ann := (.seq .none (.seq (.block (.seq .none (.seq (.seq .none .none) (.seq .none (.seq (.seq .none .none) .none))))) (.seq .none (.seq .none (.seq .none (.seq (.seq .none (.seq (.seq .none .none) .none)) (.seq (.draw [.op 0 .pure, .op 1 .pure, .op 2 .pure, .op 3 .pure, .op 5 .pure, .op 6 .pure, .op 4 .eff, .op 7 .eff, .op 8 .pure, .op 9 .pure, .op 10 .eff, .op 11 .pure, .op 12 .pure, .op 13 .eff]) (.seq (.seq .none (.seq (.seq .none .none) .none)) (.seq (.seq .none (.block (.loop 20281790633632027733809801730096 [11] (.seq (.seq .none (.seq .none .none)) (.block (.seq .none (.seq (.seq .none (.seq (.seq .none .none) .none)) .none))))))) (.seq .none .none))))))))))
theorem T5_ok : chkFn prog Try.f5 T5 = true := by kernel_rfl
def B5 (d_p0 size_p1 : Value) (w : World) (K : Value → World → Prop) : Prop :=
  pvv prog (oEq .eql 23 (.tmp 14) (.const (.pointer none)) d_p0 (.pointer none)) w fun t_0 w =>
  cd t_0 (
    K (.tuple #[(.pointer none), (.int .i64 1)]) w) <|
  pvv prog (binOp .lss 3 size_p1 (.int .i64 2)) w fun t_1 w =>
  gate (some (t_1, false)) (fun K => K size_p1 w) w fun t_2 w =>
  gate (some (t_1, false)) (fun K => K d_p0 w) w fun t_3 w =>
  gate (some (t_1, false)) (fun K => Calls prog 15 #[t_3] w (Ret K)) w fun t_4 w =>
  gate (some (t_1, false)) (fun K => pvv prog (binOp .sub 3 t_4 (.int .i64 2)) w K) w fun t_5 w =>
  gate (some (t_1, false)) (fun K => pvv prog (binOp .gtr 3 t_2 t_5) w K) w fun t_6 w =>
  pv prog (oPick t_1 (.bool true) t_6) w fun t_7 w =>
  cd t_7 (
    K (.tuple #[(.pointer none), (.int .i64 2)]) w) <|
  Calls prog 17 #[d_p0] w (Ret fun t_8 w =>
  Calls prog 16 #[t_8] w (Ret fun t_9 w =>
  pvv prog (Instr.extract t_9 0) w fun t_10 w =>
  pvv prog (Instr.extract t_9 1) w fun t_11 w =>
  pvv prog (Instr.build 55 #[(0, t_10)]) w fun t_12 w =>
  efv prog (Instr.makeMap 56 none) w fun t_13 w =>
  pvv prog (Instr.build 58 #[(0, t_12), (1, size_p1), (4, t_13)]) w fun t_14 w =>
  efv prog (Instr.box 58 t_14) w fun t_15 w =>
  Calls prog 18 #[t_10, (.int .i64 0)] w (Ret fun t_16 w =>
  pvv prog (Instr.extract t_16 0) w fun t_17 w =>
  pvv prog (Instr.extract t_16 1) w fun t_18 w =>
  Calls prog 19 #[t_17] w (Ret fun t_19 w =>
  cd t_19 (
    K (.tuple #[t_15, (.int .i64 0)]) w) <|
  dr w fun w =>
  pvv prog (Instr.sliceAt 33 t_17 (some (.int .i64 2)) (some (.int .i64 10)) none) w fun t_20 w =>
  pvv prog (Instr.sliceAt 33 t_17 (some (.int .i64 10)) none none) w fun t_21 w =>
  Calls prog 20 #[t_20] w (Ret fun t_22 w =>
  Calls prog 21 #[t_21] w (Ret fun t_23 w =>
  pv prog (oNil t_15) w fun t_24 w =>
  pvv prog (Instr.fieldAt 58 t_24 2) w fun t_25 w =>
  efu prog (Instr.storeAt 3 t_25 t_22) w fun u_26 w =>
  pv prog (oNil t_15) w fun t_27 w =>
  pvv prog (Instr.fieldAt 58 t_27 3) w fun t_28 w =>
  efu prog (Instr.storeAt 3 t_28 t_23) w fun u_29 w =>
  pvv prog (Instr.indexAt 33 t_17 (.int .i64 0)) w fun t_30 w =>
  ldv prog (Instr.loadAt 5 t_30) w fun t_31 w =>
  pvv prog (oEq .neq 5 (.tmp 60) (.const (.int .u8 72)) t_31 (.int .u8 72)) w fun t_32 w =>
  gate (some (t_32, false)) (fun K => K t_17 w) w fun t_33 w =>
  gate (some (t_32, false)) (fun K => pvv prog (Instr.indexAt 33 t_33 (.int .i64 1)) w K) w fun t_34 w =>
  gate (some (t_32, false)) (fun K => ldv prog (Instr.loadAt 5 t_34) w K) w fun t_35 w =>
  gate (some (t_32, false)) (fun K => pvv prog (oEq .neq 5 (.tmp 65) (.const (.int .u8 70)) t_35 (.int .u8 70)) w K) w fun t_36 w =>
  pv prog (oPick t_32 (.bool true) t_36) w fun t_37 w =>
  gate (some (t_37, false)) (fun K => K t_15 w) w fun t_38 w =>
  gate (some (t_37, false)) (fun K => pv prog (oNil t_38) w K) w fun t_39 w =>
  gate (some (t_37, false)) (fun K => pvv prog (Instr.fieldAt 58 t_39 2) w K) w fun t_40 w =>
  gate (some (t_37, false)) (fun K => ldv prog (Instr.loadAt 3 t_40) w K) w fun t_41 w =>
  gate (some (t_37, false)) (fun K => pvv prog (binOp .lss 3 t_41 (.int .i64 0)) w K) w fun t_42 w =>
  pv prog (oPick t_37 (.bool true) t_42) w fun t_43 w =>
  gate (some (t_43, false)) (fun K => K t_17 w) w fun t_44 w =>
  gate (some (t_43, false)) (fun K => pvv prog (Instr.sliceAt 33 t_44 (some (.int .i64 12)) none none) w K) w fun t_45 w =>
  gate (some (t_43, false)) (fun K => Calls prog 19 #[t_45] w (Ret K)) w fun t_46 w =>
  gate (some (t_43, false)) (fun K => pvv prog (Op.unary .not t_46) w K) w fun t_47 w =>
  pv prog (oPick t_43 (.bool true) t_47) w fun t_48 w =>
  gate (some (t_48, false)) (fun K => K t_15 w) w fun t_49 w =>
  gate (some (t_48, false)) (fun K => pv prog (oNil t_49) w K) w fun t_50 w =>
  gate (some (t_48, false)) (fun K => pvv prog (Instr.fieldAt 58 t_50 3) w K) w fun t_51 w =>
  gate (some (t_48, false)) (fun K => ldv prog (Instr.loadAt 3 t_51) w K) w fun t_52 w =>
  gate (some (t_48, false)) (fun K => K size_p1 w) w fun t_53 w =>
  gate (some (t_48, false)) (fun K => pvv prog (binOp .gtr 3 t_52 t_53) w K) w fun t_54 w =>
  pv prog (oPick t_48 (.bool true) t_54) w fun t_55 w =>
  cd t_55 (
    K (.tuple #[(.pointer none), (.int .i64 15)]) w) <|
  lp (fun σ w again_57 => pop σ fun n_56 σ => fin σ <|
    pv prog (oNil t_15) w fun t_58 w =>
    pvv prog (Instr.fieldAt 58 t_58 3) w fun t_59 w =>
    ldv prog (Instr.loadAt 3 t_59) w fun t_60 w =>
    pvv prog (binOp .leq 3 n_56 t_60) w fun t_61 w =>
    cd t_61 (
      Calls prog 22 #[t_15, n_56] w (Ret fun t_62 w =>
      pvv prog (oEq .eql 3 (.tmp 98) (.const (.int .i64 0)) t_62 (.int .i64 0)) w fun t_63 w =>
      cd t_63 (
        K (.tuple #[(.pointer none), (.int .i64 15)]) w) <|
      pvv prog (binOp .add 3 t_62 (.int .i64 1)) w fun t_64 w =>
      pvv prog (binOp .add 3 n_56 t_64) w fun t_65 w =>
      again_57 [t_65] w)) <|
    K (.tuple #[t_15, (.int .i64 0)]) w) [(.int .i64 1)] w))))))
theorem B5_eq (d_p0 size_p1 : Value) (w : World) (K : Value → World → Prop) : denFn prog Try.f5 T5 [d_p0, size_p1] w K = B5 d_p0 size_p1 w K := by kernel_rfl
theorem c5 {d_p0 size_p1 : Value} {w : World} {K : Value → World → Prop} (h : B5 d_p0 size_p1 w K) : Calls prog 5 #[d_p0, size_p1] w (Ret K) :=
  denFn_calls Try.func5 T5_ok (Eq.mpr (B5_eq d_p0 size_p1 w K) h)

-- 83 slices.siftDownOrdered[int]
def T83 : Ann := (.seq .none (.block (.loop 75557863725914323417856 [8] (.block (.seq .none (.seq (.seq .none (.seq .none .none)) (.meet 549755683328 [9] (.seq (.draw [.op 0 .pure, .op 1 .pure, .op 2 .pure, .op 3 .pure, .op 4 .pure, .op 5 .pure, .op 6 .pure, .op 7 .pure, .op 8 .pure, .op 9 .pure, .op 11 .pure, .op 12 .pure, .op 13 .pure, .op 14 .pure, .op 15 .pure, .op 16 .pure, .op 10 .load, .op 17 .load, .op 18 .eff, .op 19 .pure]) (.seq .none .none)) (.seq (.seq (.draw [.op 0 .pure, .op 1 .pure, .op 2 .pure, .op 3 .pure, .op 4 .pure, .op 6 .pure, .op 7 .pure, .op 8 .pure, .op 9 .pure, .op 10 .pure, .op 5 .load, .op 11 .load, .op 12 .eff, .op 13 .pure]) (.seq .none .none)) (.seq (.draw [.op 0 .pure, .op 1 .pure, .op 2 .pure, .op 3 .pure, .op 4 .pure, .op 5 .pure, .op 6 .pure, .op 7 .pure, .op 8 .pure, .op 9 .pure, .op 10 .pure, .op 11 .pure, .op 12 .pure, .op 14 .pure, .op 15 .pure, .op 16 .pure, .op 17 .pure, .op 18 .pure, .op 13 .load, .op 19 .load, .op 20 .pure, .op 21 .eff, .op 22 .pure, .op 23 .eff]) .none)))))))))
theorem T83_ok : chkFn prog Try.f83 T83 = true := by kernel_rfl
def B83 (data_p0 lo_p1 hi_p2 first_p3 : Value) (w : World) (K : Value → World → Prop) : Prop :=
  lp (fun σ w again_1 => pop σ fun root_0 σ => fin σ <|
    pvv prog (binOp .mul 3 (.int .i64 2) root_0) w fun t_2 w =>
    pvv prog (binOp .add 3 t_2 (.int .i64 1)) w fun t_3 w =>
    pvv prog (binOp .geq 3 t_3 hi_p2) w fun t_4 w =>
    cd t_4 (
      K (.tuple #[]) w) <|
    jn (fun σ w => pop σ fun child_5 σ => fin σ <|
      dr w fun w =>
      pvv prog (binOp .add 3 first_p3 root_0) w fun t_6 w =>
      pvv prog (Instr.indexAt 38 data_p0 t_6) w fun t_7 w =>
      pvv prog (binOp .add 3 first_p3 child_5) w fun t_8 w =>
      pvv prog (Instr.indexAt 38 data_p0 t_8) w fun t_9 w =>
      bindS (vN (Instr.loadAt 3 t_7)) fun m_11 => ldv prog (Instr.loadAt 3 t_7) w fun t_10 w =>
      bindS (vN (Instr.loadAt 3 t_9)) fun m_13 => ldv prog (Instr.loadAt 3 t_9) w fun t_12 w =>
      Calls prog 77 #[t_10, t_12] w (Ret fun t_14 w =>
      pvv prog (Op.unary .not t_14) w fun t_15 w =>
      cd t_15 (
        K (.tuple #[]) w) <|
      dr w fun w =>
      pvv prog (binOp .add 3 first_p3 root_0) w fun t_16 w =>
      pvv prog (binOp .add 3 first_p3 child_5) w fun t_17 w =>
      pvv prog (binOp .add 3 first_p3 child_5) w fun t_18 w =>
      pvv prog (Instr.indexAt 38 data_p0 t_18) w fun t_19 w =>
      pvv prog (binOp .add 3 first_p3 root_0) w fun t_20 w =>
      pvv prog (Instr.indexAt 38 data_p0 t_20) w fun t_21 w =>
      bindS (vN (Instr.loadAt 3 t_19)) fun m_23 => ldv prog (Instr.loadAt 3 t_19) w fun t_22 w =>
      bindS (vN (Instr.loadAt 3 t_21)) fun m_25 => ldv prog (Instr.loadAt 3 t_21) w fun t_24 w =>
      pvv prog (Instr.indexAt 38 data_p0 t_16) w fun t_26 w =>
      efu prog (Instr.storeAt 3 t_26 t_22) w fun u_27 w =>
      pvv prog (Instr.indexAt 38 data_p0 t_17) w fun t_28 w =>
      efu prog (Instr.storeAt 3 t_28 t_24) w fun u_29 w =>
      again_1 [child_5] w)) fun k_33 =>
    dr w fun w =>
    pvv prog (binOp .add 3 t_3 (.int .i64 1)) w fun t_34 w =>
    pvv prog (binOp .lss 3 t_34 hi_p2) w fun t_35 w =>
    gate (some (t_35, true)) (fun K => K data_p0 w) w fun t_36 w =>
    gate (some (t_35, true)) (fun K => K first_p3 w) w fun t_37 w =>
    gate (some (t_35, true)) (fun K => K t_3 w) w fun t_38 w =>
    gate (some (t_35, true)) (fun K => pvv prog (binOp .add 3 t_37 t_38) w K) w fun t_39 w =>
    gate (some (t_35, true)) (fun K => pvv prog (Instr.indexAt 38 t_36 t_39) w K) w fun t_40 w =>
    gate (some (t_35, true)) (fun K => K data_p0 w) w fun t_41 w =>
    gate (some (t_35, true)) (fun K => K first_p3 w) w fun t_42 w =>
    gate (some (t_35, true)) (fun K => K t_3 w) w fun t_43 w =>
    gate (some (t_35, true)) (fun K => pvv prog (binOp .add 3 t_42 t_43) w K) w fun t_44 w =>
    gate (some (t_35, true)) (fun K => pvv prog (binOp .add 3 t_44 (.int .i64 1)) w K) w fun t_45 w =>
    gate (some (t_35, true)) (fun K => pvv prog (Instr.indexAt 38 t_41 t_45) w K) w fun t_46 w =>
    bindS (vN (Instr.loadAt 3 t_40)) fun m_48 => gate (some (t_35, true)) (fun K => ldv prog (Instr.loadAt 3 t_40) w K) w fun t_47 w =>
    bindS (vN (Instr.loadAt 3 t_46)) fun m_50 => gate (some (t_35, true)) (fun K => ldv prog (Instr.loadAt 3 t_46) w K) w fun t_49 w =>
    gate (some (t_35, true)) (fun K => Calls prog 77 #[t_47, t_49] w (Ret fun s_54 w => K s_54 w)) w fun t_51 w =>
    pv prog (oPick t_35 t_51 (.bool false)) w fun t_52 w =>
    cd t_52 (
      pvv prog (binOp .add 3 t_3 (.int .i64 1)) w fun t_53 w =>
      k_33 [t_53] w) <|
    k_33 [t_3] w) [lo_p1] w
theorem B83_eq (data_p0 lo_p1 hi_p2 first_p3 : Value) (w : World) (K : Value → World → Prop) : denFn prog Try.f83 T83 [data_p0, lo_p1, hi_p2, first_p3] w K = B83 data_p0 lo_p1 hi_p2 first_p3 w K := by kernel_rfl
theorem c83 {data_p0 lo_p1 hi_p2 first_p3 : Value} {w : World} {K : Value → World → Prop} (h : B83 data_p0 lo_p1 hi_p2 first_p3 w K) : Calls prog 83 #[data_p0, lo_p1, hi_p2, first_p3] w (Ret K) :=
  denFn_calls Try.func83 T83_ok (Eq.mpr (B83_eq data_p0 lo_p1 hi_p2 first_p3 w K) h)

-- 73 slices.breakPatternsOrdered[int]
def T73 : Ann := (.seq .none (.seq .none (.seq (.seq .none (.seq .none (.seq .none (.block (.loop 36893488147351995904 [9] (.seq (.seq .none (.seq .none .none)) (.seq (.block (.seq .none (.meet 138538465100800 [10] (.seq .none (.seq .none .none)) (.draw [.op 0 .pure, .op 1 .pure, .op 2 .pure, .op 3 .pure, .op 4 .pure, .op 5 .pure, .op 6 .pure, .op 7 .pure, .op 8 .pure, .op 9 .pure, .op 10 .pure, .op 12 .pure, .op 13 .pure, .op 14 .pure, .op 11 .load, .op 15 .load, .op 16 .pure, .op 17 .eff, .op 18 .pure, .op 19 .eff])))) .none))))))) .none)))
theorem T73_ok : chkFn prog Try.f73 T73 = true := by kernel_rfl
def B73 (data_p0 a_p1 b_p2 : Value) (w : World) (K : Value → World → Prop) : Prop :=
  pvv prog (binOp .sub 3 b_p2 a_p1) w fun t_0 w =>
  pvv prog (binOp .geq 3 t_0 (.int .i64 8)) w fun t_1 w =>
  cd t_1 (
    pvv prog (convert 3 126 t_0) w fun t_2 w =>
    efv prog (Instr.alloc 126 true (.tuple #[])) w fun random_3 w =>
    efu prog (Instr.storeAt 126 random_3 t_2) w fun u_4 w =>
    Calls prog 84 #[t_0] w (Ret fun t_5 w =>
    pvv prog (binOp .quo 3 t_0 (.int .i64 4)) w fun t_6 w =>
    pvv prog (binOp .mul 3 t_6 (.int .i64 2)) w fun t_7 w =>
    pvv prog (binOp .add 3 a_p1 t_7) w fun t_8 w =>
    pvv prog (binOp .sub 3 t_8 (.int .i64 1)) w fun t_9 w =>
    lp (fun σ w again_11 => pop σ fun idx_10 σ => fin σ <|
      pvv prog (binOp .quo 3 t_0 (.int .i64 4)) w fun t_12 w =>
      pvv prog (binOp .mul 3 t_12 (.int .i64 2)) w fun t_13 w =>
      pvv prog (binOp .add 3 a_p1 t_13) w fun t_14 w =>
      pvv prog (binOp .add 3 t_14 (.int .i64 1)) w fun t_15 w =>
      pvv prog (binOp .leq 3 idx_10 t_15) w fun t_16 w =>
      cd t_16 (
        Calls prog 85 #[random_3] w (Ret fun t_17 w =>
        pvv prog (binOp .sub 89 t_5 (.int .u64 1)) w fun t_18 w =>
        pvv prog (binOp .and 89 t_17 t_18) w fun t_19 w =>
        pvv prog (convert 89 3 t_19) w fun t_20 w =>
        jn (fun σ w => pop σ fun other_21 σ => fin σ <|
          dr w fun w =>
          pvv prog (binOp .add 3 a_p1 other_21) w fun t_22 w =>
          pvv prog (binOp .add 3 a_p1 other_21) w fun t_23 w =>
          pvv prog (Instr.indexAt 38 data_p0 t_23) w fun t_24 w =>
          pvv prog (Instr.indexAt 38 data_p0 idx_10) w fun t_25 w =>
          bindS (vN (Instr.loadAt 3 t_24)) fun m_27 => ldv prog (Instr.loadAt 3 t_24) w fun t_26 w =>
          bindS (vN (Instr.loadAt 3 t_25)) fun m_29 => ldv prog (Instr.loadAt 3 t_25) w fun t_28 w =>
          pvv prog (Instr.indexAt 38 data_p0 idx_10) w fun t_30 w =>
          efu prog (Instr.storeAt 3 t_30 t_26) w fun u_31 w =>
          pvv prog (Instr.indexAt 38 data_p0 t_22) w fun t_32 w =>
          efu prog (Instr.storeAt 3 t_32 t_28) w fun u_33 w =>
          pvv prog (binOp .add 3 idx_10 (.int .i64 1)) w fun t_34 w =>
          again_11 [t_34] w) fun k_37 =>
        pvv prog (binOp .geq 3 t_20 t_0) w fun t_38 w =>
        cd t_38 (
          pvv prog (binOp .sub 3 t_20 t_0) w fun t_39 w =>
          k_37 [t_39] w) <|
        k_37 [t_20] w)) <|
      K (.tuple #[]) w) [t_9] w)) <|
  K (.tuple #[]) w
theorem B73_eq (data_p0 a_p1 b_p2 : Value) (w : World) (K : Value → World → Prop) : denFn prog Try.f73 T73 [data_p0, a_p1, b_p2] w K = B73 data_p0 a_p1 b_p2 w K := by kernel_rfl
theorem c73 {data_p0 a_p1 b_p2 : Value} {w : World} {K : Value → World → Prop} (h : B73 data_p0 a_p1 b_p2 w K) : Calls prog 73 #[data_p0, a_p1, b_p2] w (Ret K) :=
  denFn_calls Try.func73 T73_ok (Eq.mpr (B73_eq data_p0 a_p1 b_p2 w K) h)

-- 81 math/bits.Len64
def T81 : Ann := (.seq .none (.meet 125 [0, 2] (.seq .none (.seq (.seq .none .none) .none)) (.meet 8069 [0, 2] (.seq .none (.seq (.seq .none .none) .none)) (.meet 516101 [0, 2] (.seq .none (.seq (.seq .none .none) .none)) (.seq .none .none)))))
theorem T81_ok : chkFn prog Try.f81 T81 = true := by kernel_rfl
def B81 (x_p0 : Value) (w : World) (K : Value → World → Prop) : Prop :=
  jn (fun σ w => pop σ fun x_0 σ => pop σ fun n_1 σ => fin σ <|
    jn (fun σ w => pop σ fun x_2 σ => pop σ fun n_3 σ => fin σ <|
      jn (fun σ w => pop σ fun x_4 σ => pop σ fun n_5 σ => fin σ <|
        pvv prog (convert 125 5 x_4) w fun t_6 w =>
        pvv prog (Instr.index 9 (.string ⟨#[0, 1, 2, 2, 3, 3, 3, 3, 4, 4, 4, 4, 4, 4, 4, 4, 5, 5, 5, 5, 5, 5, 5, 5, 5, 5, 5, 5, 5, 5, 5, 5, 6, 6, 6, 6, 6, 6, 6, 6, 6, 6, 6, 6, 6, 6, 6, 6, 6, 6, 6, 6, 6, 6, 6, 6, 6, 6, 6, 6, 6, 6, 6, 6, 7, 7, 7, 7, 7, 7, 7, 7, 7, 7, 7, 7, 7, 7, 7, 7, 7, 7, 7, 7, 7, 7, 7, 7, 7, 7, 7, 7, 7, 7, 7, 7, 7, 7, 7, 7, 7, 7, 7, 7, 7, 7, 7, 7, 7, 7, 7, 7, 7, 7, 7, 7, 7, 7, 7, 7, 7, 7, 7, 7, 7, 7, 7, 7, 8, 8, 8, 8, 8, 8, 8, 8, 8, 8, 8, 8, 8, 8, 8, 8, 8, 8, 8, 8, 8, 8, 8, 8, 8, 8, 8, 8, 8, 8, 8, 8, 8, 8, 8, 8, 8, 8, 8, 8, 8, 8, 8, 8, 8, 8, 8, 8, 8, 8, 8, 8, 8, 8, 8, 8, 8, 8, 8, 8, 8, 8, 8, 8, 8, 8, 8, 8, 8, 8, 8, 8, 8, 8, 8, 8, 8, 8, 8, 8, 8, 8, 8, 8, 8, 8, 8, 8, 8, 8, 8, 8, 8, 8, 8, 8, 8, 8, 8, 8, 8, 8, 8, 8, 8, 8, 8, 8, 8, 8, 8, 8, 8, 8, 8, 8, 8, 8, 8, 8, 8, 8, 8, 8, 8, 8, 8, 8]⟩) t_6) w fun t_7 w =>
        pvv prog (convert 5 3 t_7) w fun t_8 w =>
        pvv prog (binOp .add 3 n_5 t_8) w fun t_9 w =>
        K t_9 w) fun k_10 =>
      pvv prog (binOp .geq 125 x_2 (.int .u64 256)) w fun t_11 w =>
      cd t_11 (
        pvv prog (binOp .shr 125 x_2 (.int .u64 8)) w fun t_12 w =>
        pvv prog (binOp .add 3 n_3 (.int .i64 8)) w fun t_13 w =>
        k_10 [t_12, t_13] w) <|
      k_10 [x_2, n_3] w) fun k_14 =>
    pvv prog (binOp .geq 125 x_0 (.int .u64 65536)) w fun t_15 w =>
    cd t_15 (
      pvv prog (binOp .shr 125 x_0 (.int .u64 16)) w fun t_16 w =>
      pvv prog (binOp .add 3 n_1 (.int .i64 16)) w fun t_17 w =>
      k_14 [t_16, t_17] w) <|
    k_14 [x_0, n_1] w) fun k_18 =>
  pvv prog (binOp .geq 125 x_p0 (.int .u64 4294967296)) w fun t_19 w =>
  cd t_19 (
    pvv prog (binOp .shr 125 x_p0 (.int .u64 32)) w fun t_20 w =>
    k_18 [t_20, (.int .i64 32)] w) <|
  k_18 [x_p0, (.int .i64 0)] w
theorem B81_eq (x_p0 : Value) (w : World) (K : Value → World → Prop) : denFn prog Try.f81 T81 [x_p0] w K = B81 x_p0 w K := by kernel_rfl
theorem c81 {x_p0 : Value} {w : World} {K : Value → World → Prop} (h : B81 x_p0 w K) : Calls prog 81 #[x_p0] w (Ret K) :=
  denFn_calls Try.func81 T81_ok (Eq.mpr (B81_eq x_p0 w K) h)

-- 80 math/bits.Len32
def T80 : Ann := (.seq .none (.meet 125 [0, 2] (.seq .none (.seq (.seq .none .none) .none)) (.meet 8069 [0, 2] (.seq .none (.seq (.seq .none .none) .none)) (.seq .none .none))))
theorem T80_ok : chkFn prog Try.f80 T80 = true := by kernel_rfl
def B80 (x_p0 : Value) (w : World) (K : Value → World → Prop) : Prop :=
  jn (fun σ w => pop σ fun x_0 σ => pop σ fun n_1 σ => fin σ <|
    jn (fun σ w => pop σ fun x_2 σ => pop σ fun n_3 σ => fin σ <|
      pvv prog (convert 123 5 x_2) w fun t_4 w =>
      pvv prog (Instr.index 9 (.string ⟨#[0, 1, 2, 2, 3, 3, 3, 3, 4, 4, 4, 4, 4, 4, 4, 4, 5, 5, 5, 5, 5, 5, 5, 5, 5, 5, 5, 5, 5, 5, 5, 5, 6, 6, 6, 6, 6, 6, 6, 6, 6, 6, 6, 6, 6, 6, 6, 6, 6, 6, 6, 6, 6, 6, 6, 6, 6, 6, 6, 6, 6, 6, 6, 6, 7, 7, 7, 7, 7, 7, 7, 7, 7, 7, 7, 7, 7, 7, 7, 7, 7, 7, 7, 7, 7, 7, 7, 7, 7, 7, 7, 7, 7, 7, 7, 7, 7, 7, 7, 7, 7, 7, 7, 7, 7, 7, 7, 7, 7, 7, 7, 7, 7, 7, 7, 7, 7, 7, 7, 7, 7, 7, 7, 7, 7, 7, 7, 7, 8, 8, 8, 8, 8, 8, 8, 8, 8, 8, 8, 8, 8, 8, 8, 8, 8, 8, 8, 8, 8, 8, 8, 8, 8, 8, 8, 8, 8, 8, 8, 8, 8, 8, 8, 8, 8, 8, 8, 8, 8, 8, 8, 8, 8, 8, 8, 8, 8, 8, 8, 8, 8, 8, 8, 8, 8, 8, 8, 8, 8, 8, 8, 8, 8, 8, 8, 8, 8, 8, 8, 8, 8, 8, 8, 8, 8, 8, 8, 8, 8, 8, 8, 8, 8, 8, 8, 8, 8, 8, 8, 8, 8, 8, 8, 8, 8, 8, 8, 8, 8, 8, 8, 8, 8, 8, 8, 8, 8, 8, 8, 8, 8, 8, 8, 8, 8, 8, 8, 8, 8, 8, 8, 8, 8, 8, 8, 8]⟩) t_4) w fun t_5 w =>
      pvv prog (convert 5 3 t_5) w fun t_6 w =>
      pvv prog (binOp .add 3 n_3 t_6) w fun t_7 w =>
      K t_7 w) fun k_8 =>
    pvv prog (binOp .geq 123 x_0 (.int .u32 256)) w fun t_9 w =>
    cd t_9 (
      pvv prog (binOp .shr 123 x_0 (.int .u64 8)) w fun t_10 w =>
      pvv prog (binOp .add 3 n_1 (.int .i64 8)) w fun t_11 w =>
      k_8 [t_10, t_11] w) <|
    k_8 [x_0, n_1] w) fun k_12 =>
  pvv prog (binOp .geq 123 x_p0 (.int .u32 65536)) w fun t_13 w =>
  cd t_13 (
    pvv prog (binOp .shr 123 x_p0 (.int .u64 16)) w fun t_14 w =>
    k_12 [t_14, (.int .i64 16)] w) <|
  k_12 [x_p0, (.int .i64 0)] w
theorem B80_eq (x_p0 : Value) (w : World) (K : Value → World → Prop) : denFn prog Try.f80 T80 [x_p0] w K = B80 x_p0 w K := by kernel_rfl
theorem c80 {x_p0 : Value} {w : World} {K : Value → World → Prop} (h : B80 x_p0 w K) : Calls prog 80 #[x_p0] w (Ret K) :=
  denFn_calls Try.func80 T80_ok (Eq.mpr (B80_eq x_p0 w K) h)

-- 58 (*holdfast/wal.Log).Read
def T58 : Ann := (.seq .none (.seq (.block (.seq .none (.seq (.seq .none .none) (.seq .none (.seq (.seq .none .none) .none))))) (.seq (.draw [.op 0 .pure, .op 1 .pure, .op 2 .pure, .op 3 .pure, .op 5 .pure, .op 6 .pure, .op 4 .load, .op 7 .eff, .op 8 .eff, .op 9 .pure, .op 10 .pure, .op 11 .pure, .op 12 .pure]) .none)))
theorem T58_ok : chkFn prog Try.f58 T58 = true := by kernel_rfl
def B58 (l_p0 n_p1 : Value) (w : World) (K : Value → World → Prop) : Prop :=
  pvv prog (oEq .eql 27 (.tmp 7) (.const (.pointer none)) l_p0 (.pointer none)) w fun t_0 w =>
  cd t_0 (
    K (.tuple #[(.slice none 0 0), (.int .i64 1)]) w) <|
  pvv prog (binOp .lss 3 n_p1 (.int .i64 0)) w fun t_1 w =>
  gate (some (t_1, false)) (fun K => K n_p1 w) w fun t_2 w =>
  gate (some (t_1, false)) (fun K => K l_p0 w) w fun t_3 w =>
  gate (some (t_1, false)) (fun K => Calls prog 39 #[t_3] w (Ret K)) w fun t_4 w =>
  gate (some (t_1, false)) (fun K => pvv prog (binOp .geq 3 t_2 t_4) w K) w fun t_5 w =>
  pv prog (oPick t_1 (.bool true) t_5) w fun t_6 w =>
  cd t_6 (
    K (.tuple #[(.slice none 0 0), (.int .i64 2)]) w) <|
  dr w fun w =>
  pv prog (oNil l_p0) w fun t_7 w =>
  pvv prog (Instr.fieldAt 58 t_7 0) w fun t_8 w =>
  pvv prog (Instr.fieldAt 55 t_8 0) w fun t_9 w =>
  bindS (vN (Instr.loadAt 23 t_9)) fun m_11 => ldv prog (Instr.loadAt 23 t_9) w fun t_10 w =>
  Calls prog 70 #[l_p0, n_p1] w (Ret fun t_12 w => stay prog none m_11 t_10 w <| 
  Calls prog 18 #[t_10, t_12] w (Ret fun t_13 w =>
  pvv prog (Instr.extract t_13 0) w fun t_14 w =>
  pvv prog (Instr.extract t_13 1) w fun t_15 w =>
  K (.tuple #[t_14, t_15]) w))
theorem B58_eq (l_p0 n_p1 : Value) (w : World) (K : Value → World → Prop) : denFn prog Try.f58 T58 [l_p0, n_p1] w K = B58 l_p0 n_p1 w K := by kernel_rfl
theorem c58 {l_p0 n_p1 : Value} {w : World} {K : Value → World → Prop} (h : B58 l_p0 n_p1 w K) : Calls prog 58 #[l_p0, n_p1] w (Ret K) :=
  denFn_calls Try.func58 T58_ok (Eq.mpr (B58_eq l_p0 n_p1 w K) h)

-- 89 slices.order2Ordered[int]
def T89 : Ann := (.seq .none (.seq (.seq (.draw [.op 0 .pure, .op 1 .pure, .op 2 .pure, .op 4 .pure, .op 5 .pure, .op 6 .pure, .op 3 .load, .op 7 .load, .op 8 .eff]) (.seq (.seq .none (.seq .none .none)) .none)) (.seq .none .none)))
theorem T89_ok : chkFn prog Try.f89 T89 = true := by kernel_rfl
def B89 (data_p0 a_p1 b_p2 swaps_p3 : Value) (w : World) (K : Value → World → Prop) : Prop :=
  dr w fun w =>
  pvv prog (Instr.indexAt 38 data_p0 b_p2) w fun t_0 w =>
  pvv prog (Instr.indexAt 38 data_p0 a_p1) w fun t_1 w =>
  bindS (vN (Instr.loadAt 3 t_0)) fun m_3 => ldv prog (Instr.loadAt 3 t_0) w fun t_2 w =>
  bindS (vN (Instr.loadAt 3 t_1)) fun m_5 => ldv prog (Instr.loadAt 3 t_1) w fun t_4 w =>
  Calls prog 77 #[t_2, t_4] w (Ret fun t_6 w =>
  cd t_6 (
    pv prog (oNil swaps_p3) w fun t_7 w =>
    ldv prog (Instr.loadAt 3 t_7) w fun t_8 w =>
    pvv prog (binOp .add 3 t_8 (.int .i64 1)) w fun t_9 w =>
    pv prog (oNil swaps_p3) w fun t_10 w =>
    efu prog (Instr.storeAt 3 t_10 t_9) w fun u_11 w =>
    K (.tuple #[b_p2, a_p1]) w) <|
  K (.tuple #[a_p1, b_p2]) w)
theorem B89_eq (data_p0 a_p1 b_p2 swaps_p3 : Value) (w : World) (K : Value → World → Prop) : denFn prog Try.f89 T89 [data_p0, a_p1, b_p2, swaps_p3] w K = B89 data_p0 a_p1 b_p2 swaps_p3 w K := by kernel_rfl
theorem c89 {data_p0 a_p1 b_p2 swaps_p3 : Value} {w : World} {K : Value → World → Prop} (h : B89 data_p0 a_p1 b_p2 swaps_p3 w K) : Calls prog 89 #[data_p0, a_p1, b_p2, swaps_p3] w (Ret K) :=
  denFn_calls Try.func89 T89_ok (Eq.mpr (B89_eq data_p0 a_p1 b_p2 swaps_p3 w K) h)

-- 25 (*holdfast/pager.Pager).look
def T25 : Ann := (.seq .none (.seq (.block (.seq .none (.seq (.seq .none .none) (.seq .none (.seq (.seq .none .none) .none))))) (.seq .none .none)))
theorem T25_ok : chkFn prog Try.f25 T25 = true := by kernel_rfl
def B25 (p_p0 n_p1 : Value) (w : World) (K : Value → World → Prop) : Prop :=
  pvv prog (oEq .eql 30 (.tmp 6) (.const (.pointer none)) p_p0 (.pointer none)) w fun t_0 w =>
  cd t_0 (
    K (.int .i64 1) w) <|
  pvv prog (binOp .lss 3 n_p1 (.int .i64 0)) w fun t_1 w =>
  gate (some (t_1, false)) (fun K => K n_p1 w) w fun t_2 w =>
  gate (some (t_1, false)) (fun K => K p_p0 w) w fun t_3 w =>
  gate (some (t_1, false)) (fun K => pv prog (oNil t_3) w K) w fun t_4 w =>
  gate (some (t_1, false)) (fun K => pvv prog (Instr.fieldAt 65 t_4 0) w K) w fun t_5 w =>
  gate (some (t_1, false)) (fun K => ldv prog (Instr.loadAt 27 t_5) w K) w fun t_6 w =>
  gate (some (t_1, false)) (fun K => Calls prog 39 #[t_6] w (Ret K)) w fun t_7 w =>
  gate (some (t_1, false)) (fun K => pvv prog (binOp .geq 3 t_2 t_7) w K) w fun t_8 w =>
  pv prog (oPick t_1 (.bool true) t_8) w fun t_9 w =>
  cd t_9 (
    K (.int .i64 2) w) <|
  K (.int .i64 0) w
theorem B25_eq (p_p0 n_p1 : Value) (w : World) (K : Value → World → Prop) : denFn prog Try.f25 T25 [p_p0, n_p1] w K = B25 p_p0 n_p1 w K := by kernel_rfl
theorem c25 {p_p0 n_p1 : Value} {w : World} {K : Value → World → Prop} (h : B25 p_p0 n_p1 w K) : Calls prog 25 #[p_p0, n_p1] w (Ret K) :=
  denFn_calls Try.func25 T25_ok (Eq.mpr (B25_eq p_p0 n_p1 w K) h)

-- 27 (*holdfast/pager.Pager).drop
def T27 : Ann := (.seq .none (.seq .none (.draw [.op 0 .pure, .op 1 .pure, .op 2 .pure, .op 3 .load, .op 4 .load, .op 5 .eff])))
theorem T27_ok : chkFn prog Try.f27 T27 = true := by kernel_rfl
def B27 (p_p0 n_p1 : Value) (w : World) (K : Value → World → Prop) : Prop :=
  efv prog (Instr.box 3 n_p1) w fun n_0 w =>
  pv prog (oNil p_p0) w fun t_1 w =>
  pvv prog (Instr.fieldAt 65 t_1 4) w fun t_2 w =>
  ldv prog (Instr.loadAt 38 t_2) w fun t_3 w =>
  pvv prog (Instr.makeFunc (.func 45) #[] #[n_0]) w fun t_4 w =>
  Calls prog 44 #[t_3, t_4] w (Ret fun t_5 w =>
  pv prog (oNil p_p0) w fun t_6 w =>
  pvv prog (Instr.fieldAt 65 t_6 4) w fun t_7 w =>
  efu prog (Instr.storeAt 38 t_7 t_5) w fun u_8 w =>
  dr w fun w =>
  pv prog (oNil p_p0) w fun t_9 w =>
  pvv prog (Instr.fieldAt 65 t_9 3) w fun t_10 w =>
  bindS (vN (Instr.loadAt 62 t_10)) fun m_12 => ldv prog (Instr.loadAt 62 t_10) w fun t_11 w =>
  bindS (vN (Instr.loadAt 3 n_0)) fun m_14 => ldv prog (Instr.loadAt 3 n_0) w fun t_13 w =>
  ef prog (oBi .delete #[62, 3] 0 #[false, false] #[t_11, t_13]) w fun u_15 w =>
  K (.tuple #[]) w)
theorem B27_eq (p_p0 n_p1 : Value) (w : World) (K : Value → World → Prop) : denFn prog Try.f27 T27 [p_p0, n_p1] w K = B27 p_p0 n_p1 w K := by kernel_rfl
theorem c27 {p_p0 n_p1 : Value} {w : World} {K : Value → World → Prop} (h : B27 p_p0 n_p1 w K) : Calls prog 27 #[p_p0, n_p1] w (Ret K) :=
  denFn_calls Try.func27 T27_ok (Eq.mpr (B27_eq p_p0 n_p1 w K) h)

-- 32 holdfast/block.copied
def T32 : Ann := (.seq .none (.seq .none (.seq (.seq .none (.block (.loop 4192304 [11] (.seq .none (.seq (.seq .none .none) (.seq (.block (.seq .none .none)) .none)))))) (.seq .none .none))))
theorem T32_ok : chkFn prog Try.f32 T32 = true := by kernel_rfl
def B32 (l_p0 : Value) (w : World) (K : Value → World → Prop) : Prop :=
  pv prog (oBi .len #[22] 3 #[false] #[l_p0]) w fun t_0 w =>
  efv prog (Instr.makeSlice 22 t_0 t_0) w fun t_1 w =>
  pv prog (oBi .len #[22] 3 #[false] #[l_p0]) w fun t_2 w =>
  lp (fun σ w again_4 => pop σ fun t_3 σ => fin σ <|
    pvv prog (binOp .lss 3 t_3 t_2) w fun t_5 w =>
    cd t_5 (
      pvv prog (Instr.indexAt 22 l_p0 t_3) w fun t_6 w =>
      ldv prog (Instr.loadAt 33 t_6) w fun t_7 w =>
      Calls prog 26 #[t_7] w (Ret fun t_8 w =>
      pvv prog (Instr.indexAt 22 t_1 t_3) w fun t_9 w =>
      efu prog (Instr.storeAt 33 t_9 t_8) w fun u_10 w =>
      pvv prog (binOp .add 3 t_3 (.int .i64 1)) w fun t_11 w =>
      again_4 [t_11] w)) <|
    K t_1 w) [(.int .i64 0)] w
theorem B32_eq (l_p0 : Value) (w : World) (K : Value → World → Prop) : denFn prog Try.f32 T32 [l_p0] w K = B32 l_p0 w K := by kernel_rfl
theorem c32 {l_p0 : Value} {w : World} {K : Value → World → Prop} (h : B32 l_p0 w K) : Calls prog 32 #[l_p0] w (Ret K) :=
  denFn_calls Try.func32 T32_ok (Eq.mpr (B32_eq l_p0 w K) h)

-- 61 slices.IndexFunc[[][]byte,[]byte]
def T61 : Ann := (.seq .none (.seq (.seq .none (.block (.loop 524080 [8] (.seq .none (.seq (.seq .none .none) (.seq (.block (.seq .none (.seq .none (.seq (.seq .none .none) .none)))) .none)))))) (.seq .none .none)))
theorem T61_ok : chkFn prog Try.f61 T61 = true := by kernel_rfl
def B61 (s_p0 f_p1 : Value) (w : World) (K : Value → World → Prop) : Prop :=
  pv prog (oBi .len #[22] 3 #[false] #[s_p0]) w fun t_0 w =>
  lp (fun σ w again_2 => pop σ fun t_1 σ => fin σ <|
    pvv prog (binOp .lss 3 t_1 t_0) w fun t_3 w =>
    cd t_3 (
      pvv prog (Instr.indexAt 22 s_p0 t_1) w fun t_4 w =>
      ldv prog (Instr.loadAt 33 t_4) w fun t_5 w =>
      ef prog (oCall f_p1 #[t_5]) w fun t_6 w =>
      cd t_6 (
        K t_1 w) <|
      pvv prog (binOp .add 3 t_1 (.int .i64 1)) w fun t_7 w =>
      again_2 [t_7] w) <|
    K (.int .i64 (-1)) w) [(.int .i64 0)] w
theorem B61_eq (s_p0 f_p1 : Value) (w : World) (K : Value → World → Prop) : denFn prog Try.f61 T61 [s_p0, f_p1] w K = B61 s_p0 f_p1 w K := by kernel_rfl
theorem c61 {s_p0 f_p1 : Value} {w : World} {K : Value → World → Prop} (h : B61 s_p0 f_p1 w K) : Calls prog 61 #[s_p0, f_p1] w (Ret K) :=
  denFn_calls Try.func61 T61_ok (Eq.mpr (B61_eq s_p0 f_p1 w K) h)

-- 70 (*holdfast/wal.Log).place
def T70 : Ann := (.seq .none (.seq (.seq .none (.seq .none (.seq (.seq .none .none) .none))) (.seq .none .none)))
theorem T70_ok : chkFn prog Try.f70 T70 = true := by kernel_rfl
def B70 (l_p0 n_p1 : Value) (w : World) (K : Value → World → Prop) : Prop :=
  pv prog (oNil l_p0) w fun t_0 w =>
  pvv prog (Instr.fieldAt 58 t_0 4) w fun t_1 w =>
  ldv prog (Instr.loadAt 56 t_1) w fun t_2 w =>
  ldv prog (Instr.lookup 56 t_2 n_p1 true) w fun t_3 w =>
  pvv prog (Instr.extract t_3 0) w fun t_4 w =>
  pvv prog (Instr.extract t_3 1) w fun t_5 w =>
  cd t_5 (
    K t_4 w) <|
  pv prog (oNil l_p0) w fun t_6 w =>
  pvv prog (Instr.fieldAt 58 t_6 1) w fun t_7 w =>
  ldv prog (Instr.loadAt 3 t_7) w fun t_8 w =>
  pvv prog (binOp .add 3 t_8 (.int .i64 1)) w fun t_9 w =>
  pvv prog (binOp .add 3 t_9 n_p1) w fun t_10 w =>
  K t_10 w
theorem B70_eq (l_p0 n_p1 : Value) (w : World) (K : Value → World → Prop) : denFn prog Try.f70 T70 [l_p0, n_p1] w K = B70 l_p0 n_p1 w K := by kernel_rfl
theorem c70 {l_p0 n_p1 : Value} {w : World} {K : Value → World → Prop} (h : B70 l_p0 n_p1 w K) : Calls prog 70 #[l_p0, n_p1] w (Ret K) :=
  denFn_calls Try.func70 T70_ok (Eq.mpr (B70_eq l_p0 n_p1 w K) h)

-- 77 cmp.Less[int]
def T77 : Ann := (.seq .none (.seq .none .none))
theorem T77_ok : chkFn prog Try.f77 T77 = true := by kernel_rfl
def B77 (x_p0 y_p1 : Value) (w : World) (K : Value → World → Prop) : Prop :=
  Calls prog 88 #[x_p0] w (Ret fun t_0 w =>
  gate (some (t_0, true)) (fun K => K y_p1 w) w fun t_1 w =>
  gate (some (t_0, true)) (fun K => Calls prog 88 #[t_1] w (Ret K)) w fun t_2 w =>
  gate (some (t_0, true)) (fun K => pvv prog (Op.unary .not t_2) w K) w fun t_3 w =>
  pv prog (oPick t_0 t_3 (.bool false)) w fun t_4 w =>
  gate (some (t_4, false)) (fun K => K x_p0 w) w fun t_5 w =>
  gate (some (t_4, false)) (fun K => K y_p1 w) w fun t_6 w =>
  gate (some (t_4, false)) (fun K => pvv prog (binOp .lss 3 t_5 t_6) w K) w fun t_7 w =>
  pv prog (oPick t_4 (.bool true) t_7) w fun t_8 w =>
  K t_8 w)
theorem B77_eq (x_p0 y_p1 : Value) (w : World) (K : Value → World → Prop) : denFn prog Try.f77 T77 [x_p0, y_p1] w K = B77 x_p0 y_p1 w K := by kernel_rfl
theorem c77 {x_p0 y_p1 : Value} {w : World} {K : Value → World → Prop} (h : B77 x_p0 y_p1 w K) : Calls prog 77 #[x_p0, y_p1] w (Ret K) :=
  denFn_calls Try.func77 T77_ok (Eq.mpr (B77_eq x_p0 y_p1 w K) h)

-- 41 slices.Clone[[]holdfast/block.write,holdfast/block.write]
def T41 : Ann := (.seq .none (.seq (.seq .none (.seq (.seq .none .none) .none)) (.seq .none .none)))
theorem T41_ok : chkFn prog Try.f41 T41 = true := by kernel_rfl
def B41 (s_p0 : Value) (w : World) (K : Value → World → Prop) : Prop :=
  pvv prog (oEq .eql 44 (.tmp 3) (.const (.slice none 0 0)) s_p0 (.slice none 0 0)) w fun t_0 w =>
  cd t_0 (
    K (.slice none 0 0) w) <|
  efv prog (Instr.buildSlice 44 0 #[]) w fun t_1 w =>
  ef prog (oBi .append #[44, 44] 44 #[false, false] #[t_1, s_p0]) w fun t_2 w =>
  K t_2 w
theorem B41_eq (s_p0 : Value) (w : World) (K : Value → World → Prop) : denFn prog Try.f41 T41 [s_p0] w K = B41 s_p0 w K := by kernel_rfl
theorem c41 {s_p0 : Value} {w : World} {K : Value → World → Prop} (h : B41 s_p0 w K) : Calls prog 41 #[s_p0] w (Ret K) :=
  denFn_calls Try.func41 T41_ok (Eq.mpr (B41_eq s_p0 w K) h)

-- 26 bytes.Clone
def T26 : Ann := (.seq .none (.seq (.seq .none (.seq (.seq .none .none) .none)) (.seq .none .none)))
theorem T26_ok : chkFn prog Try.f26 T26 = true := by kernel_rfl
def B26 (b_p0 : Value) (w : World) (K : Value → World → Prop) : Prop :=
  pvv prog (oEq .eql 33 (.tmp 3) (.const (.slice none 0 0)) b_p0 (.slice none 0 0)) w fun t_0 w =>
  cd t_0 (
    K (.slice none 0 0) w) <|
  efv prog (Instr.buildSlice 33 0 #[]) w fun t_1 w =>
  ef prog (oBi .append #[33, 33] 33 #[false, false] #[t_1, b_p0]) w fun t_2 w =>
  K t_2 w
theorem B26_eq (b_p0 : Value) (w : World) (K : Value → World → Prop) : denFn prog Try.f26 T26 [b_p0] w K = B26 b_p0 w K := by kernel_rfl
theorem c26 {b_p0 : Value} {w : World} {K : Value → World → Prop} (h : B26 b_p0 w K) : Calls prog 26 #[b_p0] w (Ret K) :=
  denFn_calls Try.func26 T26_ok (Eq.mpr (B26_eq b_p0 w K) h)

-- 47 slices.Sort[[]int,int]
def T47 : Ann := (.seq .none .none)
theorem T47_ok : chkFn prog Try.f47 T47 = true := by kernel_rfl
def B47 (x_p0 : Value) (w : World) (K : Value → World → Prop) : Prop :=
  pv prog (oBi .len #[38] 3 #[false] #[x_p0]) w fun t_0 w =>
  pvv prog (convert 3 89 t_0) w fun t_1 w =>
  Calls prog 66 #[t_1] w (Ret fun t_2 w =>
  Calls prog 65 #[x_p0, (.int .i64 0), t_0, t_2] w (Ret fun t_3 w =>
  K (.tuple #[]) w))
theorem B47_eq (x_p0 : Value) (w : World) (K : Value → World → Prop) : denFn prog Try.f47 T47 [x_p0] w K = B47 x_p0 w K := by kernel_rfl
theorem c47 {x_p0 : Value} {w : World} {K : Value → World → Prop} (h : B47 x_p0 w K) : Calls prog 47 #[x_p0] w (Ret K) :=
  denFn_calls Try.func47 T47_ok (Eq.mpr (B47_eq x_p0 w K) h)

-- 49 slices.ContainsFunc[[]holdfast/api.Page,holdfast/api.Page]
def T49 : Ann := (.seq .none (.seq .none .none))
theorem T49_ok : chkFn prog Try.f49 T49 = true := by kernel_rfl
def B49 (s_p0 f_p1 : Value) (w : World) (K : Value → World → Prop) : Prop :=
  Calls prog 67 #[s_p0, f_p1] w (Ret fun t_0 w =>
  pvv prog (binOp .geq 3 t_0 (.int .i64 0)) w fun t_1 w =>
  K t_1 w)
theorem B49_eq (s_p0 f_p1 : Value) (w : World) (K : Value → World → Prop) : denFn prog Try.f49 T49 [s_p0, f_p1] w K = B49 s_p0 f_p1 w K := by kernel_rfl
theorem c49 {s_p0 f_p1 : Value} {w : World} {K : Value → World → Prop} (h : B49 s_p0 f_p1 w K) : Calls prog 49 #[s_p0, f_p1] w (Ret K) :=
  denFn_calls Try.func49 T49_ok (Eq.mpr (B49_eq s_p0 f_p1 w K) h)

-- 24 (*sync/atomic.Int64).Load
def T24 : Ann := (.seq .none (.seq .none .none))
theorem T24_ok : chkFn prog Try.f24 T24 = true := by kernel_rfl
def B24 (x_p0 : Value) (w : World) (K : Value → World → Prop) : Prop :=
  pv prog (oNil x_p0) w fun t_0 w =>
  pvv prog (Instr.fieldAt 49 t_0 2) w fun t_1 w =>
  ef prog (oCall (.func (.func 43) #[] #[]) #[t_1]) w fun t_2 w =>
  K t_2 w
theorem B24_eq (x_p0 : Value) (w : World) (K : Value → World → Prop) : denFn prog Try.f24 T24 [x_p0] w K = B24 x_p0 w K := by kernel_rfl
theorem c24 {x_p0 : Value} {w : World} {K : Value → World → Prop} (h : B24 x_p0 w K) : Calls prog 24 #[x_p0] w (Ret K) :=
  denFn_calls Try.func24 T24_ok (Eq.mpr (B24_eq x_p0 w K) h)

-- 29 maps.Keys[map[int][]byte,int,[]byte]
def T29 : Ann := (.seq .none (.seq .none .none))
theorem T29_ok : chkFn prog Try.f29 T29 = true := by kernel_rfl
def B29 (m_p0 : Value) (w : World) (K : Value → World → Prop) : Prop :=
  efv prog (Instr.box 62 m_p0) w fun m_0 w =>
  pvv prog (Instr.makeFunc (.func 48) #[] #[m_0]) w fun t_1 w =>
  K t_1 w
theorem B29_eq (m_p0 : Value) (w : World) (K : Value → World → Prop) : denFn prog Try.f29 T29 [m_p0] w K = B29 m_p0 w K := by kernel_rfl
theorem c29 {m_p0 : Value} {w : World} {K : Value → World → Prop} (h : B29 m_p0 w K) : Calls prog 29 #[m_p0] w (Ret K) :=
  denFn_calls Try.func29 T29_ok (Eq.mpr (B29_eq m_p0 w K) h)

-- 46 slices.Collect[int]
def T46 : Ann := (.seq .none (.seq .none .none))
theorem T46_ok : chkFn prog Try.f46 T46 = true := by kernel_rfl
def B46 (seq_p0 : Value) (w : World) (K : Value → World → Prop) : Prop :=
  Calls prog 64 #[(.slice none 0 0), seq_p0] w (Ret fun t_0 w =>
  K t_0 w)
theorem B46_eq (seq_p0 : Value) (w : World) (K : Value → World → Prop) : denFn prog Try.f46 T46 [seq_p0] w K = B46 seq_p0 w K := by kernel_rfl
theorem c46 {seq_p0 : Value} {w : World} {K : Value → World → Prop} (h : B46 seq_p0 w K) : Calls prog 46 #[seq_p0] w (Ret K) :=
  denFn_calls Try.func46 T46_ok (Eq.mpr (B46_eq seq_p0 w K) h)


end Go.Proofs.Ytcjklbhobmkalaa
