import Derived.Test.YtgkeplodfkmnlaaPI
set_option linter.all false
set_option maxRecDepth 100000
namespace Go.Proofs.Ytgkeplodfkmnlaa
open Go Hold
-- 4 holdfast/holdfastlaw03.WalWrites
def T4 : Ann := (.seq .none (.seq .none (.seq .none (.seq (.seq .none (.seq (.seq .none .none) .none)) (.seq (.seq .none (.block (.loop 1329227995784915872903807055985393168 [9] (.seq (.seq .none (.seq .none .none)) (.meet 1329227995784915872903802662233848848 [] (.block (.seq .none (.seq (.seq .none (.seq (.seq (.seq .none (.seq (.seq .none .none) .none)) .none) .none)) (.seq .none (.seq .none (.seq .none (.seq (.seq .none .none) .none))))))) .none))))) (.seq .none .none))))))
theorem T4_ok : chkFn prog Try.f4 T4 = true := by kernel_rfl
def B4 (size_p0 l_p1 : Value) (w : World) (K : Value → World → Prop) : Prop :=
  pvv prog (convert 5 3 size_p0) w fun t_0 w =>
  pvv prog (binOp .rem 3 t_0 (.int .i64 20)) w fun t_1 w =>
  pvv prog (binOp .add 3 t_1 (.int .i64 2)) w fun t_2 w =>
  pvv prog (binOp .add 3 t_2 (.int .i64 10)) w fun t_3 w =>
  Calls prog 7 #[t_3, t_2] w (Ret fun t_4 w =>
  pvv prog (Instr.extract t_4 0) w fun t_5 w =>
  pvv prog (Instr.extract t_4 1) w fun t_6 w =>
  pvv prog (Instr.extract t_4 2) w fun t_7 w =>
  Calls prog 8 #[] w (Ret fun t_8 w =>
  pvv prog (Op.unary .not t_8) w fun t_9 w =>
  gate (some (t_9, false)) (fun K => K t_7 w) w fun t_10 w =>
  gate (some (t_9, false)) (fun K => pvv prog (Op.unary .not t_10) w K) w fun t_11 w =>
  pv prog (oPick t_9 (.bool true) t_11) w fun t_12 w =>
  cd t_12 (
    K (.bool false) w) <|
  lp (fun σ w again_14 => pop σ fun i_13 σ => fin σ <|
    pv prog (oBi .len #[22] 3 #[false] #[l_p1]) w fun t_15 w =>
    pvv prog (binOp .lss 3 i_13 t_15) w fun t_16 w =>
    gate (some (t_16, true)) (fun K => K i_13 w) w fun t_17 w =>
    gate (some (t_16, true)) (fun K => pvv prog (binOp .lss 3 t_17 (.int .i64 20)) w K) w fun t_18 w =>
    pv prog (oPick t_16 t_18 (.bool false)) w fun t_19 w =>
    cd t_19 (
      jn (fun σ w => fin σ <|
        pvv prog (binOp .add 3 i_13 (.int .i64 1)) w fun t_20 w =>
        again_14 [t_20] w) fun k_21 =>
      Calls prog 12 #[t_5] w (Ret fun t_22 w =>
      Calls prog 13 #[t_22] w (Ret fun t_23 w =>
      Calls prog 14 #[t_5] w (Ret fun t_24 w =>
      pv prog (oBi .len #[29] 3 #[false] #[t_24]) w fun t_25 w =>
      pvv prog (Instr.indexAt 22 l_p1 i_13) w fun t_26 w =>
      pvv prog (Instr.fieldAt 31 t_26 0) w fun t_27 w =>
      ldv prog (Instr.loadAt 4 t_27) w fun t_28 w =>
      cd t_28 (
        Calls prog 15 #[t_5] w (Ret fun t_29 w =>
        pvv prog (oEq .neq 36 (.tmp 54) (.const (.int .i64 0)) t_29 (.int .i64 0)) w fun t_30 w =>
        gate (some (t_30, false)) (fun K => K t_5 w) w fun t_31 w =>
        gate (some (t_30, false)) (fun K => Calls prog 12 #[t_31] w (Ret K)) w fun t_32 w =>
        gate (some (t_30, false)) (fun K => Calls prog 13 #[t_32] w (Ret K)) w fun t_33 w =>
        gate (some (t_30, false)) (fun K => K t_23 w) w fun t_34 w =>
        gate (some (t_30, false)) (fun K => pvv prog (binOp .sub 3 t_33 t_34) w K) w fun t_35 w =>
        gate (some (t_30, false)) (fun K => K t_25 w) w fun t_36 w =>
        gate (some (t_30, false)) (fun K => pvv prog (oEq .neq 3 (.tmp 61) (.tmp 62) t_35 t_36) w K) w fun t_37 w =>
        gate (some (t_30, false)) (fun K => K t_37 w) w fun t_38 w =>
        gate (some (t_38, true)) (fun K => K t_25 w) w fun t_39 w =>
        gate (some (t_38, true)) (fun K => pvv prog (oEq .eql 3 (.tmp 65) (.const (.int .i64 0)) t_39 (.int .i64 0)) w K) w fun t_40 w =>
        gate (some (t_30, false)) (fun K => pv prog (oPick t_38 t_40 (.bool false)) w K) w fun t_41 w =>
        pv prog (oPick t_30 (.bool true) t_41) w fun t_42 w =>
        gate (some (t_42, false)) (fun K => K t_25 w) w fun t_43 w =>
        gate (some (t_42, false)) (fun K => pvv prog (binOp .gtr 3 t_43 (.int .i64 0)) w K) w fun t_44 w =>
        gate (some (t_42, false)) (fun K => K t_44 w) w fun t_45 w =>
        gate (some (t_45, true)) (fun K => K t_5 w) w fun t_46 w =>
        gate (some (t_45, true)) (fun K => Calls prog 12 #[t_46] w (Ret K)) w fun t_47 w =>
        gate (some (t_45, true)) (fun K => Calls prog 13 #[t_47] w (Ret K)) w fun t_48 w =>
        gate (some (t_45, true)) (fun K => K t_23 w) w fun t_49 w =>
        gate (some (t_45, true)) (fun K => pvv prog (binOp .sub 3 t_48 t_49) w K) w fun t_50 w =>
        gate (some (t_45, true)) (fun K => K t_25 w) w fun t_51 w =>
        gate (some (t_45, true)) (fun K => pvv prog (binOp .add 3 t_51 (.int .i64 1)) w K) w fun t_52 w =>
        gate (some (t_45, true)) (fun K => pvv prog (oEq .neq 3 (.tmp 77) (.tmp 79) t_50 t_52) w K) w fun t_53 w =>
        gate (some (t_42, false)) (fun K => pv prog (oPick t_45 t_53 (.bool false)) w K) w fun t_54 w =>
        pv prog (oPick t_42 (.bool true) t_54) w fun t_55 w =>
        cd t_55 (
          K (.bool false) w) <|
        k_21 [] w)) <|
      pvv prog (Instr.indexAt 22 l_p1 i_13) w fun t_56 w =>
      ldv prog (Instr.loadAt 31 t_56) w fun t_57 w =>
      Calls prog 9 #[t_57] w (Ret fun t_58 w =>
      Calls prog 10 #[t_5, t_58] w (Ret fun t_59 w =>
      pvv prog (oEq .neq 36 (.tmp 91) (.const (.int .i64 0)) t_59 (.int .i64 0)) w fun t_60 w =>
      gate (some (t_60, true)) (fun K => K t_5 w) w fun t_61 w =>
      gate (some (t_60, true)) (fun K => Calls prog 12 #[t_61] w (Ret K)) w fun t_62 w =>
      gate (some (t_60, true)) (fun K => Calls prog 13 #[t_62] w (Ret K)) w fun t_63 w =>
      gate (some (t_60, true)) (fun K => K t_23 w) w fun t_64 w =>
      gate (some (t_60, true)) (fun K => pvv prog (oEq .neq 3 (.tmp 96) (.tmp 97) t_63 t_64) w K) w fun t_65 w =>
      pv prog (oPick t_60 t_65 (.bool false)) w fun t_66 w =>
      gate (some (t_66, false)) (fun K => K t_59 w) w fun t_67 w =>
      gate (some (t_66, false)) (fun K => pvv prog (oEq .eql 36 (.tmp 101) (.const (.int .i64 0)) t_67 (.int .i64 0)) w K) w fun t_68 w =>
      gate (some (t_66, false)) (fun K => K t_68 w) w fun t_69 w =>
      gate (some (t_69, true)) (fun K => K t_58 w) w fun t_70 w =>
      gate (some (t_69, true)) (fun K => pv prog (oBi .len #[28] 3 #[false] #[t_70]) w K) w fun t_71 w =>
      gate (some (t_69, true)) (fun K => pvv prog (binOp .gtr 3 t_71 (.int .i64 0)) w K) w fun t_72 w =>
      gate (some (t_66, false)) (fun K => pv prog (oPick t_69 t_72 (.bool false)) w K) w fun t_73 w =>
      gate (some (t_66, false)) (fun K => K t_73 w) w fun t_74 w =>
      gate (some (t_74, true)) (fun K => K t_5 w) w fun t_75 w =>
      gate (some (t_74, true)) (fun K => Calls prog 12 #[t_75] w (Ret K)) w fun t_76 w =>
      gate (some (t_74, true)) (fun K => Calls prog 13 #[t_76] w (Ret K)) w fun t_77 w =>
      gate (some (t_74, true)) (fun K => K t_23 w) w fun t_78 w =>
      gate (some (t_74, true)) (fun K => K t_58 w) w fun t_79 w =>
      gate (some (t_74, true)) (fun K => pv prog (oBi .len #[28] 3 #[false] #[t_79]) w K) w fun t_80 w =>
      gate (some (t_74, true)) (fun K => pvv prog (binOp .add 3 t_78 t_80) w K) w fun t_81 w =>
      gate (some (t_74, true)) (fun K => pvv prog (binOp .add 3 t_81 (.int .i64 2)) w K) w fun t_82 w =>
      gate (some (t_74, true)) (fun K => pvv prog (oEq .neq 3 (.tmp 111) (.tmp 116) t_77 t_82) w K) w fun t_83 w =>
      gate (some (t_66, false)) (fun K => pv prog (oPick t_74 t_83 (.bool false)) w K) w fun t_84 w =>
      pv prog (oPick t_66 (.bool true) t_84) w fun t_85 w =>
      cd t_85 (
        K (.bool false) w) <|
      k_21 [] w)))))) <|
    K (.bool true) w) [(.int .i64 0)] w))
theorem B4_eq (size_p0 l_p1 : Value) (w : World) (K : Value → World → Prop) : denFn prog Try.f4 T4 [size_p0, l_p1] w K = B4 size_p0 l_p1 w K := by kernel_rfl
theorem c4 {size_p0 l_p1 : Value} {w : World} {K : Value → World → Prop} (h : B4 size_p0 l_p1 w K) : Calls prog 4 #[size_p0, l_p1] w (Ret K) :=
  denFn_calls Try.func4 T4_ok (Eq.mpr (B4_eq size_p0 l_p1 w K) h)

-- 6 holdfast/holdfasttop.TopWorn
def T6 : Ann := (.seq .none (.seq .none (.seq .none (.seq .none (.seq (.seq .none (.seq (.seq .none .none) .none)) (.seq .none (.seq (.seq .none (.block (.loop 4951760157141520000084884484 [10] (.seq (.seq .none (.seq .none .none)) (.seq (.block (.seq .none (.seq .none (.seq .none (.seq .none (.seq (.seq .none (.seq (.seq .none .none) .none)) .none)))))) .none))))) (.seq .none (.seq (.seq .none (.block (.loop 42535295548204657875864475554795683844 [16] (.seq (.seq .none (.seq .none .none)) (.seq (.block (.seq .none (.seq (.draw [.op 0 .pure, .op 1 .pure, .op 2 .pure, .op 3 .pure, .op 4 .pure, .op 5 .pure, .op 6 .pure, .op 7 .pure, .op 8 .pure, .op 9 .pure, .op 11 .pure, .op 12 .pure, .op 13 .pure, .op 10 .load, .op 14 .load, .op 15 .pure, .op 16 .pure]) (.seq (.seq .none .none) .none)))) .none))))) (.seq .none .none))))))))))
theorem T6_ok : chkFn prog Try.f6 T6 = true := by kernel_rfl
def B6 (l_p0 : Value) (w : World) (K : Value → World → Prop) : Prop :=
  Calls prog 24 #[(.int .i64 20)] w (Ret fun t_0 w =>
  pvv prog (Instr.extract t_0 0) w fun t_1 w =>
  pvv prog (Instr.extract t_0 1) w fun t_2 w =>
  Calls prog 16 #[t_1, (.int .i64 5)] w (Ret fun t_3 w =>
  pvv prog (Instr.extract t_3 0) w fun t_4 w =>
  pvv prog (Instr.extract t_3 1) w fun t_5 w =>
  Calls prog 25 #[t_4, (.int .i64 3)] w (Ret fun t_6 w =>
  pvv prog (Instr.extract t_6 0) w fun t_7 w =>
  pvv prog (Instr.extract t_6 1) w fun t_8 w =>
  pvv prog (oEq .neq 36 (.tmp 33) (.const (.int .i64 0)) t_5 (.int .i64 0)) w fun t_9 w =>
  gate (some (t_9, false)) (fun K => K t_8 w) w fun t_10 w =>
  gate (some (t_9, false)) (fun K => pvv prog (oEq .neq 36 (.tmp 36) (.const (.int .i64 0)) t_10 (.int .i64 0)) w K) w fun t_11 w =>
  pv prog (oPick t_9 (.bool true) t_11) w fun t_12 w =>
  cd t_12 (
    K (.bool false) w) <|
  efv prog (Instr.makeSlice 33 (.int .i64 14) (.int .i64 14)) w fun t_13 w =>
  lp (fun σ w again_15 => pop σ fun i_14 σ => fin σ <|
    pv prog (oBi .len #[33] 3 #[false] #[l_p0]) w fun t_16 w =>
    pvv prog (binOp .lss 3 i_14 t_16) w fun t_17 w =>
    gate (some (t_17, true)) (fun K => K i_14 w) w fun t_18 w =>
    gate (some (t_17, true)) (fun K => pvv prog (binOp .lss 3 t_18 (.int .i64 60)) w K) w fun t_19 w =>
    pv prog (oPick t_17 t_19 (.bool false)) w fun t_20 w =>
    cd t_20 (
      pvv prog (Instr.indexAt 33 l_p0 i_14) w fun t_21 w =>
      ldv prog (Instr.loadAt 5 t_21) w fun t_22 w =>
      pvv prog (convert 5 3 t_22) w fun t_23 w =>
      pvv prog (binOp .rem 3 t_23 (.int .i64 14)) w fun t_24 w =>
      efv prog (Instr.makeSlice 33 (.int .i64 256) (.int .i64 256)) w fun t_25 w =>
      pvv prog (binOp .add 3 i_14 (.int .i64 1)) w fun t_26 w =>
      pvv prog (convert 3 5 t_26) w fun t_27 w =>
      pvv prog (Instr.indexAt 33 t_25 (.int .i64 0)) w fun t_28 w =>
      efu prog (Instr.storeAt 5 t_28 t_27) w fun u_29 w =>
      Calls prog 21 #[t_4] w (Ret fun t_30 w =>
      Calls prog 26 #[t_7, t_24, t_25] w (Ret fun t_31 w =>
      pvv prog (oEq .neq 36 (.tmp 67) (.const (.int .i64 0)) t_31 (.int .i64 0)) w fun t_32 w =>
      gate (some (t_32, false)) (fun K => K t_7 w) w fun t_33 w =>
      gate (some (t_32, false)) (fun K => Calls prog 27 #[t_33] w (Ret K)) w fun t_34 w =>
      gate (some (t_32, false)) (fun K => pvv prog (oEq .neq 36 (.tmp 71) (.const (.int .i64 0)) t_34 (.int .i64 0)) w K) w fun t_35 w =>
      pv prog (oPick t_32 (.bool true) t_35) w fun t_36 w =>
      gate (some (t_36, false)) (fun K => K t_4 w) w fun t_37 w =>
      gate (some (t_36, false)) (fun K => Calls prog 21 #[t_37] w (Ret K)) w fun t_38 w =>
      gate (some (t_36, false)) (fun K => K t_30 w) w fun t_39 w =>
      gate (some (t_36, false)) (fun K => pvv prog (binOp .add 3 t_39 (.int .i64 1)) w K) w fun t_40 w =>
      gate (some (t_36, false)) (fun K => pvv prog (oEq .neq 3 (.tmp 76) (.tmp 78) t_38 t_40) w K) w fun t_41 w =>
      pv prog (oPick t_36 (.bool true) t_41) w fun t_42 w =>
      gate (some (t_42, false)) (fun K => K t_4 w) w fun t_43 w =>
      gate (some (t_42, false)) (fun K => Calls prog 19 #[t_43] w (Ret K)) w fun t_44 w =>
      gate (some (t_42, false)) (fun K => pvv prog (binOp .gtr 3 t_44 (.int .i64 5)) w K) w fun t_45 w =>
      pv prog (oPick t_42 (.bool true) t_45) w fun t_46 w =>
      cd t_46 (
        K (.bool false) w) <|
      pvv prog (binOp .add 3 i_14 (.int .i64 1)) w fun t_47 w =>
      pvv prog (convert 3 5 t_47) w fun t_48 w =>
      pvv prog (Instr.indexAt 33 t_13 t_24) w fun t_49 w =>
      efu prog (Instr.storeAt 5 t_49 t_48) w fun u_50 w =>
      pvv prog (binOp .add 3 i_14 (.int .i64 1)) w fun t_51 w =>
      again_15 [t_51] w))) <|
    Calls prog 12 #[t_4] w (Ret fun t_52 w =>
    Calls prog 16 #[t_52, (.int .i64 5)] w (Ret fun t_53 w =>
    pvv prog (Instr.extract t_53 0) w fun t_54 w =>
    pvv prog (Instr.extract t_53 1) w fun t_55 w =>
    lp (fun σ w again_57 => pop σ fun n_56 σ => fin σ <|
      pvv prog (binOp .lss 3 n_56 (.int .i64 14)) w fun t_58 w =>
      cd t_58 (
        Calls prog 17 #[t_54, n_56] w (Ret fun t_59 w =>
        pvv prog (Instr.extract t_59 0) w fun t_60 w =>
        pvv prog (Instr.extract t_59 1) w fun t_61 w =>
        dr w fun w =>
        pvv prog (oEq .neq 36 (.tmp 108) (.const (.int .i64 0)) t_61 (.int .i64 0)) w fun t_62 w =>
        gate (some (t_62, false)) (fun K => K t_60 w) w fun t_63 w =>
        gate (some (t_62, false)) (fun K => pv prog (oBi .len #[33] 3 #[false] #[t_63]) w K) w fun t_64 w =>
        gate (some (t_62, false)) (fun K => pvv prog (oEq .neq 3 (.tmp 112) (.const (.int .i64 256)) t_64 (.int .i64 256)) w K) w fun t_65 w =>
        pv prog (oPick t_62 (.bool true) t_65) w fun t_66 w =>
        gate (some (t_66, false)) (fun K => K t_60 w) w fun t_67 w =>
        gate (some (t_66, false)) (fun K => pvv prog (Instr.indexAt 33 t_67 (.int .i64 0)) w K) w fun t_68 w =>
        gate (some (t_66, false)) (fun K => K t_13 w) w fun t_69 w =>
        gate (some (t_66, false)) (fun K => K n_56 w) w fun t_70 w =>
        gate (some (t_66, false)) (fun K => pvv prog (Instr.indexAt 33 t_69 t_70) w K) w fun t_71 w =>
        bindS (vN (Instr.loadAt 5 t_68)) fun m_73 => gate (some (t_66, false)) (fun K => ldv prog (Instr.loadAt 5 t_68) w K) w fun t_72 w =>
        bindS (vN (Instr.loadAt 5 t_71)) fun m_75 => gate (some (t_66, false)) (fun K => ldv prog (Instr.loadAt 5 t_71) w K) w fun t_74 w =>
        gate (some (t_66, false)) (fun K => pvv prog (oEq .neq 5 (.tmp 118) (.tmp 122) t_72 t_74) w K) w fun t_76 w =>
        pv prog (oPick t_66 (.bool true) t_76) w fun t_77 w =>
        cd t_77 (
          K (.bool false) w) <|
        pvv prog (binOp .add 3 n_56 (.int .i64 1)) w fun t_78 w =>
        again_57 [t_78] w)) <|
      pvv prog (oEq .eql 36 (.tmp 125) (.const (.int .i64 0)) t_55 (.int .i64 0)) w fun t_79 w =>
      gate (some (t_79, true)) (fun K => K t_54 w) w fun t_80 w =>
      gate (some (t_79, true)) (fun K => Calls prog 21 #[t_80] w (Ret K)) w fun t_81 w =>
      gate (some (t_79, true)) (fun K => K t_4 w) w fun t_82 w =>
      gate (some (t_79, true)) (fun K => Calls prog 21 #[t_82] w (Ret K)) w fun t_83 w =>
      gate (some (t_79, true)) (fun K => pvv prog (oEq .eql 3 (.tmp 129) (.tmp 131) t_81 t_83) w K) w fun t_84 w =>
      pv prog (oPick t_79 t_84 (.bool false)) w fun t_85 w =>
      K t_85 w) [(.int .i64 0)] w))) [(.int .i64 0)] w)))
theorem B6_eq (l_p0 : Value) (w : World) (K : Value → World → Prop) : denFn prog Try.f6 T6 [l_p0] w K = B6 l_p0 w K := by kernel_rfl
theorem c6 {l_p0 : Value} {w : World} {K : Value → World → Prop} (h : B6 l_p0 w K) : Calls prog 6 #[l_p0] w (Ret K) :=
  denFn_calls Try.func6 T6_ok (Eq.mpr (B6_eq l_p0 w K) h)

-- 16 holdfast/wal.Open
def T16 : Ann := (.seq .none (.seq (.block (.seq .none (.seq (.seq .none .none) (.seq .none (.seq (.seq .none .none) .none))))) (.seq .none (.seq .none (.seq .none (.seq (.seq .none (.seq (.seq .none .none) .none)) (.seq (.draw [.op 0 .pure, .op 1 .pure, .op 2 .pure, .op 3 .pure, .op 5 .pure, .op 6 .pure, .op 4 .eff, .op 7 .eff, .op 8 .pure, .op 9 .pure, .op 10 .eff, .op 11 .pure, .op 12 .pure, .op 13 .eff]) (.seq (.seq .none (.seq (.seq .none .none) .none)) (.seq (.seq .none (.block (.loop 20281790633632027733809801730096 [11] (.seq (.seq .none (.seq .none .none)) (.block (.seq .none (.seq (.seq .none (.seq (.seq .none .none) .none)) .none))))))) (.seq .none .none))))))))))
theorem T16_ok : chkFn prog Try.f16 T16 = true := by kernel_rfl
def B16 (d_p0 size_p1 : Value) (w : World) (K : Value → World → Prop) : Prop :=
  pvv prog (oEq .eql 39 (.tmp 14) (.const (.pointer none)) d_p0 (.pointer none)) w fun t_0 w =>
  cd t_0 (
    K (.tuple #[(.pointer none), (.int .i64 1)]) w) <|
  pvv prog (binOp .lss 3 size_p1 (.int .i64 2)) w fun t_1 w =>
  gate (some (t_1, false)) (fun K => K size_p1 w) w fun t_2 w =>
  gate (some (t_1, false)) (fun K => K d_p0 w) w fun t_3 w =>
  gate (some (t_1, false)) (fun K => Calls prog 45 #[t_3] w (Ret K)) w fun t_4 w =>
  gate (some (t_1, false)) (fun K => pvv prog (binOp .sub 3 t_4 (.int .i64 2)) w K) w fun t_5 w =>
  gate (some (t_1, false)) (fun K => pvv prog (binOp .gtr 3 t_2 t_5) w K) w fun t_6 w =>
  pv prog (oPick t_1 (.bool true) t_6) w fun t_7 w =>
  cd t_7 (
    K (.tuple #[(.pointer none), (.int .i64 2)]) w) <|
  Calls prog 47 #[d_p0] w (Ret fun t_8 w =>
  Calls prog 46 #[t_8] w (Ret fun t_9 w =>
  pvv prog (Instr.extract t_9 0) w fun t_10 w =>
  pvv prog (Instr.extract t_9 1) w fun t_11 w =>
  pvv prog (Instr.build 68 #[(0, t_10)]) w fun t_12 w =>
  efv prog (Instr.makeMap 69 none) w fun t_13 w =>
  pvv prog (Instr.build 71 #[(0, t_12), (1, size_p1), (4, t_13)]) w fun t_14 w =>
  efv prog (Instr.box 71 t_14) w fun t_15 w =>
  Calls prog 44 #[t_10, (.int .i64 0)] w (Ret fun t_16 w =>
  pvv prog (Instr.extract t_16 0) w fun t_17 w =>
  pvv prog (Instr.extract t_16 1) w fun t_18 w =>
  Calls prog 48 #[t_17] w (Ret fun t_19 w =>
  cd t_19 (
    K (.tuple #[t_15, (.int .i64 0)]) w) <|
  dr w fun w =>
  pvv prog (Instr.sliceAt 33 t_17 (some (.int .i64 2)) (some (.int .i64 10)) none) w fun t_20 w =>
  pvv prog (Instr.sliceAt 33 t_17 (some (.int .i64 10)) none none) w fun t_21 w =>
  Calls prog 49 #[t_20] w (Ret fun t_22 w =>
  Calls prog 50 #[t_21] w (Ret fun t_23 w =>
  pv prog (oNil t_15) w fun t_24 w =>
  pvv prog (Instr.fieldAt 71 t_24 2) w fun t_25 w =>
  efu prog (Instr.storeAt 3 t_25 t_22) w fun u_26 w =>
  pv prog (oNil t_15) w fun t_27 w =>
  pvv prog (Instr.fieldAt 71 t_27 3) w fun t_28 w =>
  efu prog (Instr.storeAt 3 t_28 t_23) w fun u_29 w =>
  pvv prog (Instr.indexAt 33 t_17 (.int .i64 0)) w fun t_30 w =>
  ldv prog (Instr.loadAt 5 t_30) w fun t_31 w =>
  pvv prog (oEq .neq 5 (.tmp 60) (.const (.int .u8 72)) t_31 (.int .u8 72)) w fun t_32 w =>
  gate (some (t_32, false)) (fun K => K t_17 w) w fun t_33 w =>
  gate (some (t_32, false)) (fun K => pvv prog (Instr.indexAt 33 t_33 (.int .i64 1)) w K) w fun t_34 w =>
  gate (some (t_32, false)) (fun K => ldv prog (Instr.loadAt 5 t_34) w K) w fun t_35 w =>
  gate (some (t_32, false)) (fun K => pvv prog (oEq .neq 5 (.tmp 65) (.const (.int .u8 70)) t_35 (.int .u8 70)) w K) w fun t_36 w =>
  pv prog (oPick t_32 (.bool true) t_36) w fun t_37 w =>
  gate (some (t_37, false)) (fun K => K t_15 w) w fun t_38 w =>
  gate (some (t_37, false)) (fun K => pv prog (oNil t_38) w K) w fun t_39 w =>
  gate (some (t_37, false)) (fun K => pvv prog (Instr.fieldAt 71 t_39 2) w K) w fun t_40 w =>
  gate (some (t_37, false)) (fun K => ldv prog (Instr.loadAt 3 t_40) w K) w fun t_41 w =>
  gate (some (t_37, false)) (fun K => pvv prog (binOp .lss 3 t_41 (.int .i64 0)) w K) w fun t_42 w =>
  pv prog (oPick t_37 (.bool true) t_42) w fun t_43 w =>
  gate (some (t_43, false)) (fun K => K t_17 w) w fun t_44 w =>
  gate (some (t_43, false)) (fun K => pvv prog (Instr.sliceAt 33 t_44 (some (.int .i64 12)) none none) w K) w fun t_45 w =>
  gate (some (t_43, false)) (fun K => Calls prog 48 #[t_45] w (Ret K)) w fun t_46 w =>
  gate (some (t_43, false)) (fun K => pvv prog (Op.unary .not t_46) w K) w fun t_47 w =>
  pv prog (oPick t_43 (.bool true) t_47) w fun t_48 w =>
  gate (some (t_48, false)) (fun K => K t_15 w) w fun t_49 w =>
  gate (some (t_48, false)) (fun K => pv prog (oNil t_49) w K) w fun t_50 w =>
  gate (some (t_48, false)) (fun K => pvv prog (Instr.fieldAt 71 t_50 3) w K) w fun t_51 w =>
  gate (some (t_48, false)) (fun K => ldv prog (Instr.loadAt 3 t_51) w K) w fun t_52 w =>
  gate (some (t_48, false)) (fun K => K size_p1 w) w fun t_53 w =>
  gate (some (t_48, false)) (fun K => pvv prog (binOp .gtr 3 t_52 t_53) w K) w fun t_54 w =>
  pv prog (oPick t_48 (.bool true) t_54) w fun t_55 w =>
  cd t_55 (
    K (.tuple #[(.pointer none), (.int .i64 15)]) w) <|
  lp (fun σ w again_57 => pop σ fun n_56 σ => fin σ <|
    pv prog (oNil t_15) w fun t_58 w =>
    pvv prog (Instr.fieldAt 71 t_58 3) w fun t_59 w =>
    ldv prog (Instr.loadAt 3 t_59) w fun t_60 w =>
    pvv prog (binOp .leq 3 n_56 t_60) w fun t_61 w =>
    cd t_61 (
      Calls prog 51 #[t_15, n_56] w (Ret fun t_62 w =>
      pvv prog (oEq .eql 3 (.tmp 98) (.const (.int .i64 0)) t_62 (.int .i64 0)) w fun t_63 w =>
      cd t_63 (
        K (.tuple #[(.pointer none), (.int .i64 15)]) w) <|
      pvv prog (binOp .add 3 t_62 (.int .i64 1)) w fun t_64 w =>
      pvv prog (binOp .add 3 n_56 t_64) w fun t_65 w =>
      again_57 [t_65] w)) <|
    K (.tuple #[t_15, (.int .i64 0)]) w) [(.int .i64 1)] w))))))
theorem B16_eq (d_p0 size_p1 : Value) (w : World) (K : Value → World → Prop) : denFn prog Try.f16 T16 [d_p0, size_p1] w K = B16 d_p0 size_p1 w K := by kernel_rfl
theorem c16 {d_p0 size_p1 : Value} {w : World} {K : Value → World → Prop} (h : B16 d_p0 size_p1 w K) : Calls prog 16 #[d_p0, size_p1] w (Ret K) :=
  denFn_calls Try.func16 T16_ok (Eq.mpr (B16_eq d_p0 size_p1 w K) h)

-- 62 (*holdfast/holdfastref03.Log).group
def T62 : Ann := (.seq .none (.seq .none (.seq .none (.seq (.seq .none (.seq (.seq .none .none) .none)) (.seq .none (.seq (.seq .none (.block (.loop 1180591620167655496896 [10, 11] (.seq (.seq .none (.seq .none .none)) (.seq (.block (.seq .none (.seq (.seq .none (.seq (.seq .none .none) .none)) .none))) .none))))) (.seq .none .none)))))))
theorem T62_ok : chkFn prog Try.f62 T62 = true := by kernel_rfl
def B62 (l_p0 n_p1 end_p2 : Value) (w : World) (K : Value → World → Prop) : Prop :=
  Calls prog 59 #[l_p0, n_p1] w (Ret fun t_0 w =>
  Calls prog 61 #[t_0, (.int .i64 0)] w (Ret fun t_1 w =>
  pvv prog (binOp .lss 3 t_1 (.int .i64 1)) w fun t_2 w =>
  gate (some (t_2, false)) (fun K => K t_1 w) w fun t_3 w =>
  gate (some (t_2, false)) (fun K => pvv prog (binOp .gtr 3 t_3 (.int .i64 100)) w K) w fun t_4 w =>
  pv prog (oPick t_2 (.bool true) t_4) w fun t_5 w =>
  gate (some (t_5, false)) (fun K => K n_p1 w) w fun t_6 w =>
  gate (some (t_5, false)) (fun K => K t_1 w) w fun t_7 w =>
  gate (some (t_5, false)) (fun K => pvv prog (binOp .add 3 t_6 t_7) w K) w fun t_8 w =>
  gate (some (t_5, false)) (fun K => K end_p2 w) w fun t_9 w =>
  gate (some (t_5, false)) (fun K => pvv prog (binOp .gtr 3 t_8 t_9) w K) w fun t_10 w =>
  pv prog (oPick t_5 (.bool true) t_10) w fun t_11 w =>
  gate (some (t_11, false)) (fun K => K t_0 w) w fun t_12 w =>
  gate (some (t_11, false)) (fun K => K t_1 w) w fun t_13 w =>
  gate (some (t_11, false)) (fun K => pvv prog (binOp .mul 3 (.int .i64 2) t_13) w K) w fun t_14 w =>
  gate (some (t_11, false)) (fun K => pvv prog (binOp .add 3 (.int .i64 2) t_14) w K) w fun t_15 w =>
  gate (some (t_11, false)) (fun K => Calls prog 60 #[t_12, t_15] w (Ret K)) w fun t_16 w =>
  gate (some (t_11, false)) (fun K => pvv prog (Op.unary .not t_16) w K) w fun t_17 w =>
  pv prog (oPick t_11 (.bool true) t_17) w fun t_18 w =>
  cd t_18 (
    K (.tuple #[(.slice none 0 0), (.bool false)]) w) <|
  lp (fun σ w again_21 => pop σ fun out_19 σ => pop σ fun i_20 σ => fin σ <|
    pvv prog (binOp .lss 3 i_20 t_1) w fun t_22 w =>
    cd t_22 (
      pvv prog (binOp .mul 3 (.int .i64 2) i_20) w fun t_23 w =>
      pvv prog (binOp .add 3 (.int .i64 2) t_23) w fun t_24 w =>
      Calls prog 61 #[t_0, t_24] w (Ret fun t_25 w =>
      Calls prog 83 #[l_p0] w (Ret fun t_26 w =>
      pvv prog (binOp .geq 3 t_25 t_26) w fun t_27 w =>
      gate (some (t_27, false)) (fun K => K i_20 w) w fun t_28 w =>
      gate (some (t_27, false)) (fun K => pvv prog (binOp .gtr 3 t_28 (.int .i64 0)) w K) w fun t_29 w =>
      gate (some (t_27, false)) (fun K => K t_29 w) w fun t_30 w =>
      gate (some (t_30, true)) (fun K => K t_25 w) w fun t_31 w =>
      gate (some (t_30, true)) (fun K => K out_19 w) w fun t_32 w =>
      gate (some (t_30, true)) (fun K => K i_20 w) w fun t_33 w =>
      gate (some (t_30, true)) (fun K => pvv prog (binOp .sub 3 t_33 (.int .i64 1)) w K) w fun t_34 w =>
      gate (some (t_30, true)) (fun K => pvv prog (Instr.indexAt 29 t_32 t_34) w K) w fun t_35 w =>
      gate (some (t_30, true)) (fun K => ldv prog (Instr.loadAt 3 t_35) w K) w fun t_36 w =>
      gate (some (t_30, true)) (fun K => pvv prog (binOp .leq 3 t_31 t_36) w K) w fun t_37 w =>
      gate (some (t_27, false)) (fun K => pv prog (oPick t_30 t_37 (.bool false)) w K) w fun t_38 w =>
      pv prog (oPick t_27 (.bool true) t_38) w fun t_39 w =>
      cd t_39 (
        K (.tuple #[(.slice none 0 0), (.bool false)]) w) <|
      efv prog (Instr.buildSlice 29 1 #[(0, t_25)]) w fun t_40 w =>
      ef prog (oBi .append #[29, 29] 29 #[false, false] #[out_19, t_40]) w fun t_41 w =>
      pvv prog (binOp .add 3 i_20 (.int .i64 1)) w fun t_42 w =>
      again_21 [t_41, t_42] w))) <|
    K (.tuple #[out_19, (.bool true)]) w) [(.slice none 0 0), (.int .i64 0)] w))
theorem B62_eq (l_p0 n_p1 end_p2 : Value) (w : World) (K : Value → World → Prop) : denFn prog Try.f62 T62 [l_p0, n_p1, end_p2] w K = B62 l_p0 n_p1 end_p2 w K := by kernel_rfl
theorem c62 {l_p0 n_p1 end_p2 : Value} {w : World} {K : Value → World → Prop} (h : B62 l_p0 n_p1 end_p2 w K) : Calls prog 62 #[l_p0, n_p1, end_p2] w (Ret K) :=
  denFn_calls Try.func62 T62_ok (Eq.mpr (B62_eq l_p0 n_p1 end_p2 w K) h)

-- 37 (*holdfast/block.Disk).Write
def T37 : Ann := (.seq .none (.seq (.block (.seq .none (.seq (.seq .none .none) (.seq .none (.seq (.seq .none .none) (.seq .none (.seq (.seq .none .none) .none))))))) (.seq (.draw [.op 0 .pure, .op 1 .pure, .op 2 .pure, .op 3 .pure, .op 5 .pure, .op 6 .pure, .op 7 .pure, .op 8 .pure, .op 10 .pure, .op 4 .load, .op 9 .load, .op 11 .pure, .op 12 .load, .op 13 .pure, .op 14 .eff, .op 15 .eff, .op 16 .pure, .op 17 .pure, .op 18 .eff]) (.seq .none (.seq (.draw [.op 0 .pure, .op 1 .pure, .op 2 .pure, .op 4 .pure, .op 5 .pure, .op 3 .load, .op 6 .eff, .op 7 .pure, .op 8 .eff]) (.seq .none .none))))))
theorem T37_ok : chkFn prog Try.f37 T37 = true := by kernel_rfl
def B37 (d_p0 n_p1 b_p2 : Value) (w : World) (K : Value → World → Prop) : Prop :=
  pvv prog (oEq .eql 39 (.tmp 8) (.const (.pointer none)) d_p0 (.pointer none)) w fun t_0 w =>
  cd t_0 (
    K (.int .i64 1) w) <|
  pvv prog (binOp .lss 3 n_p1 (.int .i64 0)) w fun t_1 w =>
  gate (some (t_1, false)) (fun K => K n_p1 w) w fun t_2 w =>
  gate (some (t_1, false)) (fun K => K d_p0 w) w fun t_3 w =>
  gate (some (t_1, false)) (fun K => pv prog (oNil t_3) w K) w fun t_4 w =>
  gate (some (t_1, false)) (fun K => pvv prog (Instr.fieldAt 86 t_4 0) w K) w fun t_5 w =>
  gate (some (t_1, false)) (fun K => ldv prog (Instr.loadAt 78 t_5) w K) w fun t_6 w =>
  gate (some (t_1, false)) (fun K => pv prog (oBi .len #[78] 3 #[false] #[t_6]) w K) w fun t_7 w =>
  gate (some (t_1, false)) (fun K => pvv prog (binOp .geq 3 t_2 t_7) w K) w fun t_8 w =>
  pv prog (oPick t_1 (.bool true) t_8) w fun t_9 w =>
  cd t_9 (
    K (.int .i64 2) w) <|
  pv prog (oBi .len #[33] 3 #[false] #[b_p2]) w fun t_10 w =>
  pvv prog (oEq .neq 3 (.tmp 24) (.const (.int .i64 256)) t_10 (.int .i64 256)) w fun t_11 w =>
  cd t_11 (
    K (.int .i64 3) w) <|
  dr w fun w =>
  pv prog (oNil d_p0) w fun t_12 w =>
  pvv prog (Instr.fieldAt 86 t_12 1) w fun t_13 w =>
  pv prog (oNil d_p0) w fun t_14 w =>
  pvv prog (Instr.fieldAt 86 t_14 0) w fun t_15 w =>
  bindS (vN (Instr.loadAt 79 t_13)) fun m_17 => ldv prog (Instr.loadAt 79 t_13) w fun t_16 w =>
  bindS (vN (Instr.loadAt 78 t_15)) fun m_19 => ldv prog (Instr.loadAt 78 t_15) w fun t_18 w =>
  pvv prog (Instr.indexAt 78 t_18 n_p1) w fun t_20 w =>
  bindS (vN (Instr.loadAt 33 t_20)) fun m_22 => ldv prog (Instr.loadAt 33 t_20) w fun t_21 w =>
  pvv prog (Instr.build 113 #[(0, n_p1), (1, t_21)]) w fun t_23 w =>
  efv prog (Instr.buildSlice 79 1 #[(0, t_23)]) w fun t_24 w => stay prog none m_22 t_21 w <| stay prog none m_19 t_18 w <| stay prog none m_17 t_16 w <| 
  ef prog (oBi .append #[79, 79] 79 #[false, false] #[t_16, t_24]) w fun t_25 w => stay prog none m_22 t_21 w <| stay prog none m_19 t_18 w <| 
  pv prog (oNil d_p0) w fun t_26 w =>
  pvv prog (Instr.fieldAt 86 t_26 1) w fun t_27 w =>
  efu prog (Instr.storeAt 79 t_27 t_25) w fun u_28 w =>
  pv prog (oNil d_p0) w fun t_29 w =>
  pvv prog (Instr.fieldAt 86 t_29 2) w fun t_30 w =>
  Calls prog 67 #[t_30, (.int .i64 1)] w (Ret fun t_31 w =>
  dr w fun w =>
  pv prog (oNil d_p0) w fun t_32 w =>
  pvv prog (Instr.fieldAt 86 t_32 0) w fun t_33 w =>
  bindS (vN (Instr.loadAt 78 t_33)) fun m_35 => ldv prog (Instr.loadAt 78 t_33) w fun t_34 w =>
  Calls prog 54 #[b_p2] w (Ret fun t_36 w => stay prog none m_35 t_34 w <| 
  pvv prog (Instr.indexAt 78 t_34 n_p1) w fun t_37 w =>
  efu prog (Instr.storeAt 33 t_37 t_36) w fun u_38 w =>
  K (.int .i64 0) w))
theorem B37_eq (d_p0 n_p1 b_p2 : Value) (w : World) (K : Value → World → Prop) : denFn prog Try.f37 T37 [d_p0, n_p1, b_p2] w K = B37 d_p0 n_p1 b_p2 w K := by kernel_rfl
theorem c37 {d_p0 n_p1 b_p2 : Value} {w : World} {K : Value → World → Prop} (h : B37 d_p0 n_p1 b_p2 w K) : Calls prog 37 #[d_p0, n_p1, b_p2] w (Ret K) :=
  denFn_calls Try.func37 T37_ok (Eq.mpr (B37_eq d_p0 n_p1 b_p2 w K) h)

-- 26 (*holdfast/pager.Pager).Write
def T26 : Ann := (.seq .none (.seq (.seq .none (.seq .none (.seq (.seq .none .none) .none))) (.seq .none (.seq (.block (.seq .none (.seq (.seq .none .none) (.seq .none (.seq (.seq .none .none) .none))))) (.seq (.draw [.op 0 .pure, .op 1 .pure, .op 2 .pure, .op 4 .pure, .op 5 .pure, .op 3 .load, .op 6 .eff, .op 7 .eff]) (.seq .none (.seq .none (.seq .none .none))))))))
theorem T26_ok : chkFn prog Try.f26 T26 = true := by kernel_rfl
def B26 (p_p0 n_p1 b_p2 : Value) (w : World) (K : Value → World → Prop) : Prop :=
  Calls prog 53 #[p_p0, n_p1] w (Ret fun t_0 w =>
  pvv prog (oEq .neq 36 (.tmp 13) (.const (.int .i64 0)) t_0 (.int .i64 0)) w fun t_1 w =>
  cd t_1 (
    K t_0 w) <|
  pv prog (oNil p_p0) w fun t_2 w =>
  pvv prog (Instr.fieldAt 95 t_2 2) w fun t_3 w =>
  ldv prog (Instr.loadAt 66 t_3) w fun t_4 w =>
  ldv prog (Instr.lookup 66 t_4 n_p1 true) w fun t_5 w =>
  pvv prog (Instr.extract t_5 0) w fun t_6 w =>
  pvv prog (Instr.extract t_5 1) w fun t_7 w =>
  pv prog (oBi .len #[33] 3 #[false] #[b_p2]) w fun t_8 w =>
  pvv prog (oEq .neq 3 (.tmp 27) (.const (.int .i64 256)) t_8 (.int .i64 256)) w fun t_9 w =>
  cd t_9 (
    K (.int .i64 3) w) <|
  pvv prog (Op.unary .not t_7) w fun t_10 w =>
  gate (some (t_10, true)) (fun K => K p_p0 w) w fun t_11 w =>
  gate (some (t_10, true)) (fun K => pv prog (oNil t_11) w K) w fun t_12 w =>
  gate (some (t_10, true)) (fun K => pvv prog (Instr.fieldAt 95 t_12 2) w K) w fun t_13 w =>
  gate (some (t_10, true)) (fun K => ldv prog (Instr.loadAt 66 t_13) w K) w fun t_14 w =>
  gate (some (t_10, true)) (fun K => ld prog (oBi .len #[66] 3 #[false] #[t_14]) w K) w fun t_15 w =>
  gate (some (t_10, true)) (fun K => pvv prog (binOp .geq 3 t_15 (.int .i64 100)) w K) w fun t_16 w =>
  pv prog (oPick t_10 t_16 (.bool false)) w fun t_17 w =>
  cd t_17 (
    K (.int .i64 6) w) <|
  dr w fun w =>
  pv prog (oNil p_p0) w fun t_18 w =>
  pvv prog (Instr.fieldAt 95 t_18 2) w fun t_19 w =>
  bindS (vN (Instr.loadAt 66 t_19)) fun m_21 => ldv prog (Instr.loadAt 66 t_19) w fun t_20 w =>
  Calls prog 54 #[b_p2] w (Ret fun t_22 w => stay prog none m_21 t_20 w <| 
  efu prog (Instr.mapUpdate 66 t_20 n_p1 t_22) w fun u_23 w =>
  Calls prog 55 #[p_p0, n_p1] w (Ret fun t_24 w =>
  pv prog (oNil p_p0) w fun t_25 w =>
  pvv prog (Instr.fieldAt 95 t_25 5) w fun t_26 w =>
  ldv prog (Instr.loadAt 93 t_26) w fun t_27 w =>
  ef prog (oBi .delete #[93, 3] 0 #[false, false] #[t_27, n_p1]) w fun u_28 w =>
  K (.int .i64 0) w)))
theorem B26_eq (p_p0 n_p1 b_p2 : Value) (w : World) (K : Value → World → Prop) : denFn prog Try.f26 T26 [p_p0, n_p1, b_p2] w K = B26 p_p0 n_p1 b_p2 w K := by kernel_rfl
theorem c26 {p_p0 n_p1 b_p2 : Value} {w : World} {K : Value → World → Prop} (h : B26 p_p0 n_p1 b_p2 w K) : Calls prog 26 #[p_p0, n_p1, b_p2] w (Ret K) :=
  denFn_calls Try.func26 T26_ok (Eq.mpr (B26_eq p_p0 n_p1 b_p2 w K) h)

-- 94 slices.heapSortOrdered[int]
def T94 : Ann := (.seq .none (.seq .none (.seq .none (.seq (.seq .none (.block (.loop 133956096 [9] (.seq (.seq .none (.seq .none .none)) (.seq (.block .none) .none))))) (.seq .none (.block (.loop 72057593501058048 [10] (.seq (.seq .none (.seq .none .none)) (.seq (.block (.seq (.draw [.op 0 .pure, .op 1 .pure, .op 2 .pure, .op 3 .pure, .op 4 .pure, .op 5 .pure, .op 6 .pure, .op 7 .pure, .op 8 .pure, .op 9 .pure, .op 10 .pure, .op 12 .pure, .op 13 .pure, .op 14 .pure, .op 11 .load, .op 15 .load, .op 16 .pure, .op 17 .eff, .op 18 .pure, .op 19 .eff]) .none)) .none)))))))))
theorem T94_ok : chkFn prog Try.f94 T94 = true := by kernel_rfl
def B94 (data_p0 a_p1 b_p2 : Value) (w : World) (K : Value → World → Prop) : Prop :=
  pvv prog (binOp .sub 3 b_p2 a_p1) w fun t_0 w =>
  pvv prog (binOp .sub 3 t_0 (.int .i64 1)) w fun t_1 w =>
  pvv prog (binOp .quo 3 t_1 (.int .i64 2)) w fun t_2 w =>
  lp (fun σ w again_4 => pop σ fun i_3 σ => fin σ <|
    pvv prog (binOp .geq 3 i_3 (.int .i64 0)) w fun t_5 w =>
    cd t_5 (
      Calls prog 104 #[data_p0, i_3, t_0, a_p1] w (Ret fun t_6 w =>
      pvv prog (binOp .sub 3 i_3 (.int .i64 1)) w fun t_7 w =>
      again_4 [t_7] w)) <|
    pvv prog (binOp .sub 3 t_0 (.int .i64 1)) w fun t_8 w =>
    lp (fun σ w again_10 => pop σ fun i_9 σ => fin σ <|
      pvv prog (binOp .geq 3 i_9 (.int .i64 0)) w fun t_11 w =>
      cd t_11 (
        dr w fun w =>
        pvv prog (binOp .add 3 a_p1 i_9) w fun t_12 w =>
        pvv prog (binOp .add 3 a_p1 i_9) w fun t_13 w =>
        pvv prog (Instr.indexAt 29 data_p0 t_13) w fun t_14 w =>
        pvv prog (Instr.indexAt 29 data_p0 a_p1) w fun t_15 w =>
        bindS (vN (Instr.loadAt 3 t_14)) fun m_17 => ldv prog (Instr.loadAt 3 t_14) w fun t_16 w =>
        bindS (vN (Instr.loadAt 3 t_15)) fun m_19 => ldv prog (Instr.loadAt 3 t_15) w fun t_18 w =>
        pvv prog (Instr.indexAt 29 data_p0 a_p1) w fun t_20 w =>
        efu prog (Instr.storeAt 3 t_20 t_16) w fun u_21 w =>
        pvv prog (Instr.indexAt 29 data_p0 t_12) w fun t_22 w =>
        efu prog (Instr.storeAt 3 t_22 t_18) w fun u_23 w =>
        Calls prog 104 #[data_p0, (.int .i64 0), i_9, a_p1] w (Ret fun t_24 w =>
        pvv prog (binOp .sub 3 i_9 (.int .i64 1)) w fun t_25 w =>
        again_10 [t_25] w)) <|
      K (.tuple #[]) w) [t_8] w) [t_2] w
theorem B94_eq (data_p0 a_p1 b_p2 : Value) (w : World) (K : Value → World → Prop) : denFn prog Try.f94 T94 [data_p0, a_p1, b_p2] w K = B94 data_p0 a_p1 b_p2 w K := by kernel_rfl
theorem c94 {data_p0 a_p1 b_p2 : Value} {w : World} {K : Value → World → Prop} (h : B94 data_p0 a_p1 b_p2 w K) : Calls prog 94 #[data_p0, a_p1, b_p2] w (Ret K) :=
  denFn_calls Try.func94 T94_ok (Eq.mpr (B94_eq data_p0 a_p1 b_p2 w K) h)

-- 81 (*holdfast/holdfastref01.Disk).at
def T81 : Ann := (.seq .none (.seq .none (.seq (.seq .none (.block (.loop 68719472704 [6] (.seq (.seq .none (.seq .none .none)) (.seq (.block (.draw [.op 0 .pure, .op 1 .pure, .op 2 .pure, .op 3 .pure, .op 5 .pure, .op 9 .pure, .op 10 .pure, .op 11 .pure, .op 13 .pure, .op 4 .load, .op 6 .pure, .op 7 .pure, .op 8 .load, .op 12 .load, .op 14 .pure, .op 15 .pure, .op 16 .load, .op 17 .eff, .op 18 .pure, .op 19 .eff])) .none))))) (.seq .none .none))))
theorem T81_ok : chkFn prog Try.f81 T81 = true := by kernel_rfl
def B81 (d_p0 k_p1 : Value) (w : World) (K : Value → World → Prop) : Prop :=
  pv prog (oNil d_p0) w fun t_0 w =>
  pvv prog (Instr.fieldAt 102 t_0 0) w fun t_1 w =>
  ldv prog (Instr.loadAt 78 t_1) w fun t_2 w =>
  Calls prog 80 #[t_2] w (Ret fun t_3 w =>
  lp (fun σ w again_5 => pop σ fun i_4 σ => fin σ <|
    pvv prog (binOp .lss 3 i_4 k_p1) w fun t_6 w =>
    cd t_6 (
      dr w fun w =>
      pv prog (oNil d_p0) w fun t_7 w =>
      pvv prog (Instr.fieldAt 102 t_7 1) w fun t_8 w =>
      pv prog (oNil d_p0) w fun t_9 w =>
      pvv prog (Instr.fieldAt 102 t_9 1) w fun t_10 w =>
      bindS (vN (Instr.loadAt 100 t_8)) fun m_12 => ldv prog (Instr.loadAt 100 t_8) w fun t_11 w =>
      pvv prog (Instr.indexAt 100 t_11 i_4) w fun t_13 w =>
      pvv prog (Instr.fieldAt 138 t_13 0) w fun t_14 w =>
      bindS (vN (Instr.loadAt 3 t_14)) fun m_16 => ldv prog (Instr.loadAt 3 t_14) w fun t_15 w =>
      bindS (vN (Instr.loadAt 100 t_10)) fun m_18 => ldv prog (Instr.loadAt 100 t_10) w fun t_17 w =>
      pvv prog (Instr.indexAt 100 t_17 i_4) w fun t_19 w =>
      pvv prog (Instr.fieldAt 138 t_19 1) w fun t_20 w =>
      bindS (vN (Instr.loadAt 33 t_20)) fun m_22 => ldv prog (Instr.loadAt 33 t_20) w fun t_21 w =>
      Calls prog 92 #[t_21] w (Ret fun t_23 w => stay prog none m_18 t_17 w <| stay prog none m_16 t_15 w <| stay prog none m_12 t_11 w <| 
      pvv prog (Instr.indexAt 78 t_3 t_15) w fun t_24 w =>
      efu prog (Instr.storeAt 33 t_24 t_23) w fun u_25 w =>
      pvv prog (binOp .add 3 i_4 (.int .i64 1)) w fun t_26 w =>
      again_5 [t_26] w)) <|
    K t_3 w) [(.int .i64 0)] w)
theorem B81_eq (d_p0 k_p1 : Value) (w : World) (K : Value → World → Prop) : denFn prog Try.f81 T81 [d_p0, k_p1] w K = B81 d_p0 k_p1 w K := by kernel_rfl
theorem c81 {d_p0 k_p1 : Value} {w : World} {K : Value → World → Prop} (h : B81 d_p0 k_p1 w K) : Calls prog 81 #[d_p0, k_p1] w (Ret K) :=
  denFn_calls Try.func81 T81_ok (Eq.mpr (B81_eq d_p0 k_p1 w K) h)

-- 7 holdfast/holdfastlaw03.open
def T7 : Ann := (.seq .none (.seq .none (.seq .none (.seq (.seq .none (.seq (.seq .none .none) .none)) (.seq .none (.seq .none (.seq .none .none)))))))
theorem T7_ok : chkFn prog Try.f7 T7 = true := by kernel_rfl
def B7 (blocks_p0 size_p1 : Value) (w : World) (K : Value → World → Prop) : Prop :=
  Calls prog 24 #[blocks_p0] w (Ret fun t_0 w =>
  pvv prog (Instr.extract t_0 0) w fun t_1 w =>
  pvv prog (Instr.extract t_0 1) w fun t_2 w =>
  Calls prog 28 #[blocks_p0] w (Ret fun t_3 w =>
  pvv prog (Instr.extract t_3 0) w fun t_4 w =>
  pvv prog (Instr.extract t_3 1) w fun t_5 w =>
  pvv prog (oEq .neq 36 (.tmp 25) (.tmp 26) t_2 t_5) w fun t_6 w =>
  cd t_6 (
    K (.tuple #[(.pointer none), (.pointer none), (.bool false)]) w) <|
  Calls prog 16 #[t_1, size_p1] w (Ret fun t_7 w =>
  pvv prog (Instr.extract t_7 0) w fun t_8 w =>
  pvv prog (Instr.extract t_7 1) w fun t_9 w =>
  Calls prog 29 #[t_4, size_p1] w (Ret fun t_10 w =>
  pvv prog (Instr.extract t_10 0) w fun t_11 w =>
  pvv prog (Instr.extract t_10 1) w fun t_12 w =>
  pvv prog (oEq .eql 36 (.tmp 42) (.tmp 43) t_9 t_12) w fun t_13 w =>
  gate (some (t_13, true)) (fun K => K t_8 w) w fun t_14 w =>
  gate (some (t_13, true)) (fun K => pvv prog (oEq .eql 23 (.tmp 46) (.const (.pointer none)) t_14 (.pointer none)) w K) w fun t_15 w =>
  gate (some (t_13, true)) (fun K => K t_11 w) w fun t_16 w =>
  gate (some (t_13, true)) (fun K => pvv prog (oEq .eql 24 (.tmp 48) (.const (.pointer none)) t_16 (.pointer none)) w K) w fun t_17 w =>
  gate (some (t_13, true)) (fun K => pvv prog (oEq .eql 4 (.tmp 47) (.tmp 49) t_15 t_17) w K) w fun t_18 w =>
  pv prog (oPick t_13 t_18 (.bool false)) w fun t_19 w =>
  K (.tuple #[t_8, t_11, t_19]) w))))
theorem B7_eq (blocks_p0 size_p1 : Value) (w : World) (K : Value → World → Prop) : denFn prog Try.f7 T7 [blocks_p0, size_p1] w K = B7 blocks_p0 size_p1 w K := by kernel_rfl
theorem c7 {blocks_p0 size_p1 : Value} {w : World} {K : Value → World → Prop} (h : B7 blocks_p0 size_p1 w K) : Calls prog 7 #[blocks_p0, size_p1] w (Ret K) :=
  denFn_calls Try.func7 T7_ok (Eq.mpr (B7_eq blocks_p0 size_p1 w K) h)

-- 17 (*holdfast/wal.Log).Read
def T17 : Ann := (.seq .none (.seq (.block (.seq .none (.seq (.seq .none .none) (.seq .none (.seq (.seq .none .none) .none))))) (.seq (.draw [.op 0 .pure, .op 1 .pure, .op 2 .pure, .op 3 .pure, .op 5 .pure, .op 6 .pure, .op 4 .load, .op 7 .eff, .op 8 .eff, .op 9 .pure, .op 10 .pure, .op 11 .pure, .op 12 .pure]) .none)))
theorem T17_ok : chkFn prog Try.f17 T17 = true := by kernel_rfl
def B17 (l_p0 n_p1 : Value) (w : World) (K : Value → World → Prop) : Prop :=
  pvv prog (oEq .eql 23 (.tmp 7) (.const (.pointer none)) l_p0 (.pointer none)) w fun t_0 w =>
  cd t_0 (
    K (.tuple #[(.slice none 0 0), (.int .i64 1)]) w) <|
  pvv prog (binOp .lss 3 n_p1 (.int .i64 0)) w fun t_1 w =>
  gate (some (t_1, false)) (fun K => K n_p1 w) w fun t_2 w =>
  gate (some (t_1, false)) (fun K => K l_p0 w) w fun t_3 w =>
  gate (some (t_1, false)) (fun K => Calls prog 18 #[t_3] w (Ret K)) w fun t_4 w =>
  gate (some (t_1, false)) (fun K => pvv prog (binOp .geq 3 t_2 t_4) w K) w fun t_5 w =>
  pv prog (oPick t_1 (.bool true) t_5) w fun t_6 w =>
  cd t_6 (
    K (.tuple #[(.slice none 0 0), (.int .i64 2)]) w) <|
  dr w fun w =>
  pv prog (oNil l_p0) w fun t_7 w =>
  pvv prog (Instr.fieldAt 71 t_7 0) w fun t_8 w =>
  pvv prog (Instr.fieldAt 68 t_8 0) w fun t_9 w =>
  bindS (vN (Instr.loadAt 39 t_9)) fun m_11 => ldv prog (Instr.loadAt 39 t_9) w fun t_10 w =>
  Calls prog 52 #[l_p0, n_p1] w (Ret fun t_12 w => stay prog none m_11 t_10 w <| 
  Calls prog 44 #[t_10, t_12] w (Ret fun t_13 w =>
  pvv prog (Instr.extract t_13 0) w fun t_14 w =>
  pvv prog (Instr.extract t_13 1) w fun t_15 w =>
  K (.tuple #[t_14, t_15]) w))
theorem B17_eq (l_p0 n_p1 : Value) (w : World) (K : Value → World → Prop) : denFn prog Try.f17 T17 [l_p0, n_p1] w K = B17 l_p0 n_p1 w K := by kernel_rfl
theorem c17 {l_p0 n_p1 : Value} {w : World} {K : Value → World → Prop} (h : B17 l_p0 n_p1 w K) : Calls prog 17 #[l_p0, n_p1] w (Ret K) :=
  denFn_calls Try.func17 T17_ok (Eq.mpr (B17_eq l_p0 n_p1 w K) h)

-- 33 (*holdfast/wal.Log).Commit$1
def T33 : Ann := (.seq .none (.seq (.draw [.op 0 .pure, .op 1 .load, .op 2 .pure, .op 3 .pure, .op 4 .pure, .op 5 .load, .op 6 .load, .op 7 .eff, .op 8 .pure, .op 9 .pure, .op 10 .pure]) .none))
theorem T33_ok : chkFn prog Try.f33 T33 = true := by kernel_rfl
def B33 (p_p0 x_p1 : Value) (w : World) (K : Value → World → Prop) : Prop :=
  efv prog (Instr.box 35 p_p0) w fun p_0 w =>
  dr w fun w =>
  pvv prog (Instr.fieldAt 35 p_0 0) w fun t_1 w =>
  bindS (vN (Instr.loadAt 3 t_1)) fun m_3 => ldv prog (Instr.loadAt 3 t_1) w fun t_2 w =>
  pvv prog (binOp .lss 3 t_2 (.int .i64 0)) w fun t_4 w =>
  gate (some (t_4, false)) (fun K => pvv prog (Instr.fieldAt 35 p_0 0) w K) w fun t_5 w =>
  bindS (vN (Instr.loadAt 3 t_5)) fun m_7 => gate (some (t_4, false)) (fun K => ldv prog (Instr.loadAt 3 t_5) w K) w fun t_6 w =>
  bindS (vN (Instr.loadAt 23 x_p1)) fun m_9 => gate (some (t_4, false)) (fun K => ldv prog (Instr.loadAt 23 x_p1) w K) w fun t_8 w =>
  gate (some (t_4, false)) (fun K => Calls prog 18 #[t_8] w (Ret fun s_13 w => stay prog (some (t_4, false)) m_7 t_6 w <| stay prog none m_3 t_2 w <| K s_13 w)) w fun t_10 w =>
  gate (some (t_4, false)) (fun K => pvv prog (binOp .geq 3 t_6 t_10) w K) w fun t_11 w =>
  pv prog (oPick t_4 (.bool true) t_11) w fun t_12 w =>
  K t_12 w
theorem B33_eq (p_p0 x_p1 : Value) (w : World) (K : Value → World → Prop) : denFn prog Try.f33 T33 [p_p0, x_p1] w K = B33 p_p0 x_p1 w K := by kernel_rfl
theorem c33 {p_p0 x_p1 : Value} {w : World} {K : Value → World → Prop} (h : B33 p_p0 x_p1 w K) : Calls prog 33 #[p_p0, x_p1] w (Ret K) :=
  denFn_calls Try.func33 T33_ok (Eq.mpr (B33_eq p_p0 x_p1 w K) h)

-- 11 holdfast/block.Same
def T11 : Ann := (.seq .none (.seq (.seq .none (.seq (.seq .none .none) .none)) (.seq (.draw [.op 0 .pure, .op 1 .pure, .op 2 .pure, .op 4 .pure, .op 5 .pure, .op 6 .pure, .op 3 .load, .op 7 .load, .op 8 .eff, .op 9 .pure]) .none)))
theorem T11_ok : chkFn prog Try.f11 T11 = true := by kernel_rfl
def B11 (a_p0 b_p1 : Value) (w : World) (K : Value → World → Prop) : Prop :=
  pvv prog (oEq .eql 39 (.tmp 5) (.const (.pointer none)) a_p0 (.pointer none)) w fun t_0 w =>
  gate (some (t_0, false)) (fun K => K b_p1 w) w fun t_1 w =>
  gate (some (t_0, false)) (fun K => pvv prog (oEq .eql 39 (.tmp 8) (.const (.pointer none)) t_1 (.pointer none)) w K) w fun t_2 w =>
  pv prog (oPick t_0 (.bool true) t_2) w fun t_3 w =>
  cd t_3 (
    pvv prog (oEq .eql 39 (.tmp 11) (.tmp 12) a_p0 b_p1) w fun t_4 w =>
    K t_4 w) <|
  dr w fun w =>
  pv prog (oNil a_p0) w fun t_5 w =>
  pvv prog (Instr.fieldAt 86 t_5 0) w fun t_6 w =>
  pv prog (oNil b_p1) w fun t_7 w =>
  pvv prog (Instr.fieldAt 86 t_7 0) w fun t_8 w =>
  bindS (vN (Instr.loadAt 78 t_6)) fun m_10 => ldv prog (Instr.loadAt 78 t_6) w fun t_9 w =>
  bindS (vN (Instr.loadAt 78 t_8)) fun m_12 => ldv prog (Instr.loadAt 78 t_8) w fun t_11 w =>
  Calls prog 39 #[t_9, t_11, (.func (.func 40) #[] #[])] w (Ret fun t_13 w =>
  K t_13 w)
theorem B11_eq (a_p0 b_p1 : Value) (w : World) (K : Value → World → Prop) : denFn prog Try.f11 T11 [a_p0, b_p1] w K = B11 a_p0 b_p1 w K := by kernel_rfl
theorem c11 {a_p0 b_p1 : Value} {w : World} {K : Value → World → Prop} (h : B11 a_p0 b_p1 w K) : Calls prog 11 #[a_p0, b_p1] w (Ret K) :=
  denFn_calls Try.func11 T11_ok (Eq.mpr (B11_eq a_p0 b_p1 w K) h)

-- 18 (*holdfast/wal.Log).Pages
def T18 : Ann := (.seq .none (.seq (.seq .none (.seq (.seq .none .none) .none)) (.seq (.draw [.op 0 .pure, .op 1 .pure, .op 2 .pure, .op 3 .pure, .op 6 .pure, .op 7 .pure, .op 8 .pure, .op 4 .load, .op 9 .load, .op 5 .eff, .op 10 .pure, .op 11 .pure, .op 12 .pure]) .none)))
theorem T18_ok : chkFn prog Try.f18 T18 = true := by kernel_rfl
def B18 (l_p0 : Value) (w : World) (K : Value → World → Prop) : Prop :=
  pvv prog (oEq .eql 23 (.tmp 3) (.const (.pointer none)) l_p0 (.pointer none)) w fun t_0 w =>
  cd t_0 (
    K (.int .i64 0) w) <|
  dr w fun w =>
  pv prog (oNil l_p0) w fun t_1 w =>
  pvv prog (Instr.fieldAt 71 t_1 0) w fun t_2 w =>
  pvv prog (Instr.fieldAt 68 t_2 0) w fun t_3 w =>
  pv prog (oNil l_p0) w fun t_4 w =>
  pvv prog (Instr.fieldAt 71 t_4 1) w fun t_5 w =>
  bindS (vN (Instr.loadAt 39 t_3)) fun m_7 => ldv prog (Instr.loadAt 39 t_3) w fun t_6 w =>
  bindS (vN (Instr.loadAt 3 t_5)) fun m_9 => ldv prog (Instr.loadAt 3 t_5) w fun t_8 w =>
  Calls prog 45 #[t_6] w (Ret fun t_10 w => stay prog none m_9 t_8 w <| 
  pvv prog (binOp .sub 3 t_10 t_8) w fun t_11 w =>
  pvv prog (binOp .sub 3 t_11 (.int .i64 1)) w fun t_12 w =>
  K t_12 w)
theorem B18_eq (l_p0 : Value) (w : World) (K : Value → World → Prop) : denFn prog Try.f18 T18 [l_p0] w K = B18 l_p0 w K := by kernel_rfl
theorem c18 {l_p0 : Value} {w : World} {K : Value → World → Prop} (h : B18 l_p0 w K) : Calls prog 18 #[l_p0] w (Ret K) :=
  denFn_calls Try.func18 T18_ok (Eq.mpr (B18_eq l_p0 w K) h)

-- 34 holdfast/wal.set
def T34 : Ann := (.seq .none (.block (.loop 8388496 [7] (.seq .none (.seq (.seq .none .none) (.seq (.block (.seq .none .none)) .none))))))
theorem T34_ok : chkFn prog Try.f34 T34 = true := by kernel_rfl
def B34 (b_p0 n_p1 : Value) (w : World) (K : Value → World → Prop) : Prop :=
  pv prog (oBi .len #[33] 3 #[false] #[b_p0]) w fun t_0 w =>
  lp (fun σ w again_2 => pop σ fun t_1 σ => fin σ <|
    pvv prog (binOp .lss 3 t_1 t_0) w fun t_3 w =>
    cd t_3 (
      pv prog (oBi .len #[33] 3 #[false] #[b_p0]) w fun t_4 w =>
      pvv prog (binOp .sub 3 t_4 (.int .i64 1)) w fun t_5 w =>
      pvv prog (binOp .sub 3 t_5 t_1) w fun t_6 w =>
      pvv prog (binOp .mul 3 (.int .i64 8) t_1) w fun t_7 w =>
      pvv prog (binOp .shr 3 n_p1 t_7) w fun t_8 w =>
      pvv prog (convert 3 5 t_8) w fun t_9 w =>
      pvv prog (Instr.indexAt 33 b_p0 t_6) w fun t_10 w =>
      efu prog (Instr.storeAt 5 t_10 t_9) w fun u_11 w =>
      pvv prog (binOp .add 3 t_1 (.int .i64 1)) w fun t_12 w =>
      again_2 [t_12] w) <|
    K (.tuple #[]) w) [(.int .i64 0)] w
theorem B34_eq (b_p0 n_p1 : Value) (w : World) (K : Value → World → Prop) : denFn prog Try.f34 T34 [b_p0, n_p1] w K = B34 b_p0 n_p1 w K := by kernel_rfl
theorem c34 {b_p0 n_p1 : Value} {w : World} {K : Value → World → Prop} (h : B34 b_p0 n_p1 w K) : Calls prog 34 #[b_p0, n_p1] w (Ret K) :=
  denFn_calls Try.func34 T34_ok (Eq.mpr (B34_eq b_p0 n_p1 w K) h)

-- 49 holdfast/wal.get
def T49 : Ann := (.seq .none (.seq .none (.seq (.seq .none (.block (.loop 261928 [3, 8] (.seq .none (.seq (.seq .none .none) (.seq (.block (.seq .none .none)) .none)))))) (.seq .none .none))))
theorem T49_ok : chkFn prog Try.f49 T49 = true := by kernel_rfl
def B49 (b_p0 : Value) (w : World) (K : Value → World → Prop) : Prop :=
  pv prog (oBi .len #[33] 3 #[false] #[b_p0]) w fun t_0 w =>
  lp (fun σ w again_3 => pop σ fun n_1 σ => pop σ fun t_2 σ => fin σ <|
    pvv prog (binOp .lss 3 t_2 t_0) w fun t_4 w =>
    cd t_4 (
      pvv prog (Instr.indexAt 33 b_p0 t_2) w fun t_5 w =>
      ldv prog (Instr.loadAt 5 t_5) w fun t_6 w =>
      pvv prog (binOp .shl 3 n_1 (.int .u64 8)) w fun t_7 w =>
      pvv prog (convert 5 3 t_6) w fun t_8 w =>
      pvv prog (binOp .or 3 t_7 t_8) w fun t_9 w =>
      pvv prog (binOp .add 3 t_2 (.int .i64 1)) w fun t_10 w =>
      again_3 [t_9, t_10] w) <|
    K n_1 w) [(.int .i64 0), (.int .i64 0)] w
theorem B49_eq (b_p0 : Value) (w : World) (K : Value → World → Prop) : denFn prog Try.f49 T49 [b_p0] w K = B49 b_p0 w K := by kernel_rfl
theorem c49 {b_p0 : Value} {w : World} {K : Value → World → Prop} (h : B49 b_p0 w K) : Calls prog 49 #[b_p0] w (Ret K) :=
  denFn_calls Try.func49 T49_ok (Eq.mpr (B49_eq b_p0 w K) h)

-- 89 slices.IndexFunc[[][]byte,[]byte]
def T89 : Ann := (.seq .none (.seq (.seq .none (.block (.loop 524080 [8] (.seq .none (.seq (.seq .none .none) (.seq (.block (.seq .none (.seq .none (.seq (.seq .none .none) .none)))) .none)))))) (.seq .none .none)))
theorem T89_ok : chkFn prog Try.f89 T89 = true := by kernel_rfl
def B89 (s_p0 f_p1 : Value) (w : World) (K : Value → World → Prop) : Prop :=
  pv prog (oBi .len #[78] 3 #[false] #[s_p0]) w fun t_0 w =>
  lp (fun σ w again_2 => pop σ fun t_1 σ => fin σ <|
    pvv prog (binOp .lss 3 t_1 t_0) w fun t_3 w =>
    cd t_3 (
      pvv prog (Instr.indexAt 78 s_p0 t_1) w fun t_4 w =>
      ldv prog (Instr.loadAt 33 t_4) w fun t_5 w =>
      ef prog (oCall f_p1 #[t_5]) w fun t_6 w =>
      cd t_6 (
        K t_1 w) <|
      pvv prog (binOp .add 3 t_1 (.int .i64 1)) w fun t_7 w =>
      again_2 [t_7] w) <|
    K (.int .i64 (-1)) w) [(.int .i64 0)] w
theorem B89_eq (s_p0 f_p1 : Value) (w : World) (K : Value → World → Prop) : denFn prog Try.f89 T89 [s_p0, f_p1] w K = B89 s_p0 f_p1 w K := by kernel_rfl
theorem c89 {s_p0 f_p1 : Value} {w : World} {K : Value → World → Prop} (h : B89 s_p0 f_p1 w K) : Calls prog 89 #[s_p0, f_p1] w (Ret K) :=
  denFn_calls Try.func89 T89_ok (Eq.mpr (B89_eq s_p0 f_p1 w K) h)

-- 52 (*holdfast/wal.Log).place
def T52 : Ann := (.seq .none (.seq (.seq .none (.seq .none (.seq (.seq .none .none) .none))) (.seq .none .none)))
theorem T52_ok : chkFn prog Try.f52 T52 = true := by kernel_rfl
def B52 (l_p0 n_p1 : Value) (w : World) (K : Value → World → Prop) : Prop :=
  pv prog (oNil l_p0) w fun t_0 w =>
  pvv prog (Instr.fieldAt 71 t_0 4) w fun t_1 w =>
  ldv prog (Instr.loadAt 69 t_1) w fun t_2 w =>
  ldv prog (Instr.lookup 69 t_2 n_p1 true) w fun t_3 w =>
  pvv prog (Instr.extract t_3 0) w fun t_4 w =>
  pvv prog (Instr.extract t_3 1) w fun t_5 w =>
  cd t_5 (
    K t_4 w) <|
  pv prog (oNil l_p0) w fun t_6 w =>
  pvv prog (Instr.fieldAt 71 t_6 1) w fun t_7 w =>
  ldv prog (Instr.loadAt 3 t_7) w fun t_8 w =>
  pvv prog (binOp .add 3 t_8 (.int .i64 1)) w fun t_9 w =>
  pvv prog (binOp .add 3 t_9 n_p1) w fun t_10 w =>
  K t_10 w
theorem B52_eq (l_p0 n_p1 : Value) (w : World) (K : Value → World → Prop) : denFn prog Try.f52 T52 [l_p0, n_p1] w K = B52 l_p0 n_p1 w K := by kernel_rfl
theorem c52 {l_p0 n_p1 : Value} {w : World} {K : Value → World → Prop} (h : B52 l_p0 n_p1 w K) : Calls prog 52 #[l_p0, n_p1] w (Ret K) :=
  denFn_calls Try.func52 T52_ok (Eq.mpr (B52_eq l_p0 n_p1 w K) h)

-- 50 holdfast/wal.two
def T50 : Ann := (.seq .none (.seq (.draw [.op 0 .pure, .op 1 .pure, .op 5 .pure, .op 6 .pure, .op 2 .load, .op 3 .pure, .op 4 .pure, .op 7 .load, .op 8 .pure, .op 9 .pure, .op 10 .pure]) .none))
theorem T50_ok : chkFn prog Try.f50 T50 = true := by kernel_rfl
def B50 (b_p0 : Value) (w : World) (K : Value → World → Prop) : Prop :=
  dr w fun w =>
  pvv prog (Instr.indexAt 33 b_p0 (.int .i64 0)) w fun t_0 w =>
  pvv prog (Instr.indexAt 33 b_p0 (.int .i64 1)) w fun t_1 w =>
  bindS (vN (Instr.loadAt 5 t_0)) fun m_3 => ldv prog (Instr.loadAt 5 t_0) w fun t_2 w =>
  pvv prog (convert 5 3 t_2) w fun t_4 w =>
  pvv prog (binOp .shl 3 t_4 (.int .u64 8)) w fun t_5 w =>
  bindS (vN (Instr.loadAt 5 t_1)) fun m_7 => ldv prog (Instr.loadAt 5 t_1) w fun t_6 w =>
  pvv prog (convert 5 3 t_6) w fun t_8 w =>
  pvv prog (binOp .or 3 t_5 t_8) w fun t_9 w =>
  K t_9 w
theorem B50_eq (b_p0 : Value) (w : World) (K : Value → World → Prop) : denFn prog Try.f50 T50 [b_p0] w K = B50 b_p0 w K := by kernel_rfl
theorem c50 {b_p0 : Value} {w : World} {K : Value → World → Prop} (h : B50 b_p0 w K) : Calls prog 50 #[b_p0] w (Ret K) :=
  denFn_calls Try.func50 T50_ok (Eq.mpr (B50_eq b_p0 w K) h)

-- 56 (*holdfast/holdfastref01.Disk).Blocks
def T56 : Ann := (.seq .none (.seq (.seq .none (.seq (.seq .none .none) .none)) (.seq .none .none)))
theorem T56_ok : chkFn prog Try.f56 T56 = true := by kernel_rfl
def B56 (d_p0 : Value) (w : World) (K : Value → World → Prop) : Prop :=
  pvv prog (oEq .eql 58 (.tmp 3) (.const (.pointer none)) d_p0 (.pointer none)) w fun t_0 w =>
  cd t_0 (
    K (.int .i64 0) w) <|
  pv prog (oNil d_p0) w fun t_1 w =>
  pvv prog (Instr.fieldAt 102 t_1 0) w fun t_2 w =>
  ldv prog (Instr.loadAt 78 t_2) w fun t_3 w =>
  pv prog (oBi .len #[78] 3 #[false] #[t_3]) w fun t_4 w =>
  K t_4 w
theorem B56_eq (d_p0 : Value) (w : World) (K : Value → World → Prop) : denFn prog Try.f56 T56 [d_p0] w K = B56 d_p0 w K := by kernel_rfl
theorem c56 {d_p0 : Value} {w : World} {K : Value → World → Prop} (h : B56 d_p0 w K) : Calls prog 56 #[d_p0] w (Ret K) :=
  denFn_calls Try.func56 T56_ok (Eq.mpr (B56_eq d_p0 w K) h)

-- 107 slices.medianAdjacentOrdered[int]
def T107 : Ann := (.seq .none (.seq .none .none))
theorem T107_ok : chkFn prog Try.f107 T107 = true := by kernel_rfl
def B107 (data_p0 a_p1 swaps_p2 : Value) (w : World) (K : Value → World → Prop) : Prop :=
  pvv prog (binOp .sub 3 a_p1 (.int .i64 1)) w fun t_0 w =>
  pvv prog (binOp .add 3 a_p1 (.int .i64 1)) w fun t_1 w =>
  Calls prog 108 #[data_p0, t_0, a_p1, t_1, swaps_p2] w (Ret fun t_2 w =>
  K t_2 w)
theorem B107_eq (data_p0 a_p1 swaps_p2 : Value) (w : World) (K : Value → World → Prop) : denFn prog Try.f107 T107 [data_p0, a_p1, swaps_p2] w K = B107 data_p0 a_p1 swaps_p2 w K := by kernel_rfl
theorem c107 {data_p0 a_p1 swaps_p2 : Value} {w : World} {K : Value → World → Prop} (h : B107 data_p0 a_p1 swaps_p2 w K) : Calls prog 107 #[data_p0, a_p1, swaps_p2] w (Ret K) :=
  denFn_calls Try.func107 T107_ok (Eq.mpr (B107_eq data_p0 a_p1 swaps_p2 w K) h)

-- 13 (*holdfast/block.Disk).Count
def T13 : Ann := (.seq .none (.seq (.seq .none (.seq (.seq .none .none) .none)) (.seq .none .none)))
theorem T13_ok : chkFn prog Try.f13 T13 = true := by kernel_rfl
def B13 (d_p0 : Value) (w : World) (K : Value → World → Prop) : Prop :=
  pvv prog (oEq .eql 39 (.tmp 3) (.const (.pointer none)) d_p0 (.pointer none)) w fun t_0 w =>
  cd t_0 (
    K (.int .i64 0) w) <|
  pv prog (oNil d_p0) w fun t_1 w =>
  pvv prog (Instr.fieldAt 86 t_1 2) w fun t_2 w =>
  Calls prog 42 #[t_2] w (Ret fun t_3 w =>
  K t_3 w)
theorem B13_eq (d_p0 : Value) (w : World) (K : Value → World → Prop) : denFn prog Try.f13 T13 [d_p0] w K = B13 d_p0 w K := by kernel_rfl
theorem c13 {d_p0 : Value} {w : World} {K : Value → World → Prop} (h : B13 d_p0 w K) : Calls prog 13 #[d_p0] w (Ret K) :=
  denFn_calls Try.func13 T13_ok (Eq.mpr (B13_eq d_p0 w K) h)

-- 65 slices.Sort[[]int,int]
def T65 : Ann := (.seq .none .none)
theorem T65_ok : chkFn prog Try.f65 T65 = true := by kernel_rfl
def B65 (x_p0 : Value) (w : World) (K : Value → World → Prop) : Prop :=
  pv prog (oBi .len #[29] 3 #[false] #[x_p0]) w fun t_0 w =>
  pvv prog (convert 3 108 t_0) w fun t_1 w =>
  Calls prog 86 #[t_1] w (Ret fun t_2 w =>
  Calls prog 85 #[x_p0, (.int .i64 0), t_0, t_2] w (Ret fun t_3 w =>
  K (.tuple #[]) w))
theorem B65_eq (x_p0 : Value) (w : World) (K : Value → World → Prop) : denFn prog Try.f65 T65 [x_p0] w K = B65 x_p0 w K := by kernel_rfl
theorem c65 {x_p0 : Value} {w : World} {K : Value → World → Prop} (h : B65 x_p0 w K) : Calls prog 65 #[x_p0] w (Ret K) :=
  denFn_calls Try.func65 T65_ok (Eq.mpr (B65_eq x_p0 w K) h)

-- 70 (*sync/atomic.Int64).Store
def T70 : Ann := .none
theorem T70_ok : chkFn prog Try.f70 T70 = true := by kernel_rfl
def B70 (x_p0 val_p1 : Value) (w : World) (K : Value → World → Prop) : Prop :=
  pv prog (oNil x_p0) w fun t_0 w =>
  pvv prog (Instr.fieldAt 84 t_0 2) w fun t_1 w =>
  ef prog (oCall (.func (.func 88) #[] #[]) #[t_1, val_p1]) w fun t_2 w =>
  K (.tuple #[]) w
theorem B70_eq (x_p0 val_p1 : Value) (w : World) (K : Value → World → Prop) : denFn prog Try.f70 T70 [x_p0, val_p1] w K = B70 x_p0 val_p1 w K := by kernel_rfl
theorem c70 {x_p0 val_p1 : Value} {w : World} {K : Value → World → Prop} (h : B70 x_p0 val_p1 w K) : Calls prog 70 #[x_p0, val_p1] w (Ret K) :=
  denFn_calls Try.func70 T70_ok (Eq.mpr (B70_eq x_p0 val_p1 w K) h)

-- 76 slices.ContainsFunc[[]byte,byte]
def T76 : Ann := (.seq .none (.seq .none .none))
theorem T76_ok : chkFn prog Try.f76 T76 = true := by kernel_rfl
def B76 (s_p0 f_p1 : Value) (w : World) (K : Value → World → Prop) : Prop :=
  Calls prog 90 #[s_p0, f_p1] w (Ret fun t_0 w =>
  pvv prog (binOp .geq 3 t_0 (.int .i64 0)) w fun t_1 w =>
  K t_1 w)
theorem B76_eq (s_p0 f_p1 : Value) (w : World) (K : Value → World → Prop) : denFn prog Try.f76 T76 [s_p0, f_p1] w K = B76 s_p0 f_p1 w K := by kernel_rfl
theorem c76 {s_p0 f_p1 : Value} {w : World} {K : Value → World → Prop} (h : B76 s_p0 f_p1 w K) : Calls prog 76 #[s_p0, f_p1] w (Ret K) :=
  denFn_calls Try.func76 T76_ok (Eq.mpr (B76_eq s_p0 f_p1 w K) h)

-- 35 slices.Sorted[int]
def T35 : Ann := (.seq .none (.seq .none (.seq .none (.seq .none .none))))
theorem T35_ok : chkFn prog Try.f35 T35 = true := by kernel_rfl
def B35 (seq_p0 : Value) (w : World) (K : Value → World → Prop) : Prop :=
  Calls prog 64 #[seq_p0] w (Ret fun t_0 w =>
  Calls prog 65 #[t_0] w (Ret fun t_1 w =>
  K t_0 w))
theorem B35_eq (seq_p0 : Value) (w : World) (K : Value → World → Prop) : denFn prog Try.f35 T35 [seq_p0] w K = B35 seq_p0 w K := by kernel_rfl
theorem c35 {seq_p0 : Value} {w : World} {K : Value → World → Prop} (h : B35 seq_p0 w K) : Calls prog 35 #[seq_p0] w (Ret K) :=
  denFn_calls Try.func35 T35_ok (Eq.mpr (B35_eq seq_p0 w K) h)

-- 48 holdfast/wal.zeros
def T48 : Ann := (.seq .none (.seq .none .none))
theorem T48_ok : chkFn prog Try.f48 T48 = true := by kernel_rfl
def B48 (b_p0 : Value) (w : World) (K : Value → World → Prop) : Prop :=
  Calls prog 76 #[b_p0, (.func (.func 77) #[] #[])] w (Ret fun t_0 w =>
  pvv prog (Op.unary .not t_0) w fun t_1 w =>
  K t_1 w)
theorem B48_eq (b_p0 : Value) (w : World) (K : Value → World → Prop) : denFn prog Try.f48 T48 [b_p0] w K = B48 b_p0 w K := by kernel_rfl
theorem c48 {b_p0 : Value} {w : World} {K : Value → World → Prop} (h : B48 b_p0 w K) : Calls prog 48 #[b_p0] w (Ret K) :=
  denFn_calls Try.func48 T48_ok (Eq.mpr (B48_eq b_p0 w K) h)

-- 109 cmp.isNaN[int]
def T109 : Ann := (.seq .none (.seq .none .none))
theorem T109_ok : chkFn prog Try.f109 T109 = true := by kernel_rfl
def B109 (x_p0 : Value) (w : World) (K : Value → World → Prop) : Prop :=
  pvv prog (oEq .neq 3 (.tmp 3) (.tmp 4) x_p0 x_p0) w fun t_0 w =>
  K t_0 w
theorem B109_eq (x_p0 : Value) (w : World) (K : Value → World → Prop) : denFn prog Try.f109 T109 [x_p0] w K = B109 x_p0 w K := by kernel_rfl
theorem c109 {x_p0 : Value} {w : World} {K : Value → World → Prop} (h : B109 x_p0 w K) : Calls prog 109 #[x_p0] w (Ret K) :=
  denFn_calls Try.func109 T109_ok (Eq.mpr (B109_eq x_p0 w K) h)


end Go.Proofs.Ytgkeplodfkmnlaa
