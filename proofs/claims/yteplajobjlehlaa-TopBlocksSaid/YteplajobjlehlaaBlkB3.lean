import Derived.Test.YteplajobjlehlaaBlkI
set_option linter.all false
set_option maxRecDepth 100000
namespace Go.Proofs.Yteplajobjlehlaa
open Go Hold
-- 7 holdfast/holdfastlaw01.BlockLoads
def T7 : Ann := (.seq .none (.seq .none (.seq (.seq .none (.block (.loop 17179852896 [5, 6] (.seq (.seq .none (.seq .none .none)) (.seq (.block .none) .none))))) (.seq .none (.seq .none (.seq (.seq .none (.seq (.seq .none .none) .none)) (.seq .none (.seq (.seq .none (.block (.loop 9671405403995528790814720 [12] (.seq (.seq .none (.seq .none .none)) (.seq (.block (.seq .none (.block (.loop 9671332769940738559451136 [13] (.seq (.seq .none (.seq .none .none)) (.seq (.block .none) .none)))))) .none))))) (.seq .none .none)))))))))
theorem T7_ok : chkFn prog Try.f7 T7 = true := by kernel_rfl
def B7 (sizes_p0 x_p1 : Value) (w : World) (K : Value → World → Prop) : Prop :=
  lp (fun σ w again_2 => pop σ fun image_0 σ => pop σ fun i_1 σ => fin σ <|
    pv prog (oBi .len #[42] 3 #[false] #[sizes_p0]) w fun t_3 w =>
    pvv prog (binOp .lss 3 i_1 t_3) w fun t_4 w =>
    gate (some (t_4, true)) (fun K => K i_1 w) w fun t_5 w =>
    gate (some (t_4, true)) (fun K => pvv prog (binOp .lss 3 t_5 (.int .i64 30)) w K) w fun t_6 w =>
    pv prog (oPick t_4 t_6 (.bool false)) w fun t_7 w =>
    cd t_7 (
      pvv prog (Instr.indexAt 42 sizes_p0 i_1) w fun t_8 w =>
      ldv prog (Instr.loadAt 3 t_8) w fun t_9 w =>
      pvv prog (Instr.build 24 #[(0, (.int .i64 0)), (1, t_9), (2, x_p1)]) w fun t_10 w =>
      Calls prog 15 #[t_10] w (Ret fun t_11 w =>
      efv prog (Instr.buildSlice 30 1 #[(0, t_11)]) w fun t_12 w =>
      ef prog (oBi .append #[30, 30] 30 #[false, false] #[image_0, t_12]) w fun t_13 w =>
      pvv prog (binOp .add 3 i_1 (.int .i64 1)) w fun t_14 w =>
      again_2 [t_13, t_14] w)) <|
    Calls prog 32 #[image_0] w (Ret fun t_15 w =>
    pvv prog (Instr.extract t_15 0) w fun t_16 w =>
    pvv prog (Instr.extract t_15 1) w fun t_17 w =>
    Calls prog 33 #[image_0] w (Ret fun t_18 w =>
    pvv prog (Instr.extract t_18 0) w fun t_19 w =>
    pvv prog (Instr.extract t_18 1) w fun t_20 w =>
    Calls prog 13 #[] w (Ret fun t_21 w =>
    pvv prog (Op.unary .not t_21) w fun t_22 w =>
    gate (some (t_22, false)) (fun K => K t_17 w) w fun t_23 w =>
    gate (some (t_22, false)) (fun K => K t_20 w) w fun t_24 w =>
    gate (some (t_22, false)) (fun K => pvv prog (oEq .neq 34 (.tmp 47) (.tmp 48) t_23 t_24) w K) w fun t_25 w =>
    pv prog (oPick t_22 (.bool true) t_25) w fun t_26 w =>
    gate (some (t_26, false)) (fun K => K t_16 w) w fun t_27 w =>
    gate (some (t_26, false)) (fun K => pvv prog (oEq .eql 25 (.tmp 52) (.const (.pointer none)) t_27 (.pointer none)) w K) w fun t_28 w =>
    gate (some (t_26, false)) (fun K => K t_19 w) w fun t_29 w =>
    gate (some (t_26, false)) (fun K => pvv prog (oEq .eql 26 (.tmp 54) (.const (.pointer none)) t_29 (.pointer none)) w K) w fun t_30 w =>
    gate (some (t_26, false)) (fun K => pvv prog (oEq .neq 4 (.tmp 53) (.tmp 55) t_28 t_30) w K) w fun t_31 w =>
    pv prog (oPick t_26 (.bool true) t_31) w fun t_32 w =>
    cd t_32 (
      K (.bool false) w) <|
    Calls prog 28 #[t_19] w (Ret fun t_33 w =>
    lp (fun σ w again_35 => pop σ fun i_34 σ => fin σ <|
      pv prog (oBi .len #[30] 3 #[false] #[image_0]) w fun t_36 w =>
      pvv prog (binOp .lss 3 i_34 t_36) w fun t_37 w =>
      cd t_37 (
        lp (fun σ w again_39 => pop σ fun k_38 σ => fin σ <|
          pvv prog (Instr.indexAt 30 image_0 i_34) w fun t_40 w =>
          ldv prog (Instr.loadAt 32 t_40) w fun t_41 w =>
          pv prog (oBi .len #[32] 3 #[false] #[t_41]) w fun t_42 w =>
          pvv prog (binOp .lss 3 k_38 t_42) w fun t_43 w =>
          cd t_43 (
            pvv prog (Instr.indexAt 30 image_0 i_34) w fun t_44 w =>
            ldv prog (Instr.loadAt 32 t_44) w fun t_45 w =>
            pvv prog (binOp .add 5 x_p1 (.int .u8 1)) w fun t_46 w =>
            pvv prog (Instr.indexAt 32 t_45 k_38) w fun t_47 w =>
            efu prog (Instr.storeAt 5 t_47 t_46) w fun u_48 w =>
            pvv prog (binOp .add 3 k_38 (.int .i64 1)) w fun t_49 w =>
            again_39 [t_49] w) <|
          pvv prog (binOp .add 3 i_34 (.int .i64 1)) w fun t_50 w =>
          again_35 [t_50] w) [(.int .i64 0)] w) <|
      Calls prog 14 #[t_16] w (Ret fun t_51 w =>
      Calls prog 27 #[t_51, t_33] w (Ret fun t_52 w =>
      gate (some (t_52, true)) (fun K => K t_16 w) w fun t_53 w =>
      gate (some (t_52, true)) (fun K => Calls prog 22 #[t_53] w (Ret K)) w fun t_54 w =>
      gate (some (t_52, true)) (fun K => pvv prog (oEq .eql 3 (.tmp 89) (.const (.int .i64 0)) t_54 (.int .i64 0)) w K) w fun t_55 w =>
      pv prog (oPick t_52 t_55 (.bool false)) w fun t_56 w =>
      K t_56 w))) [(.int .i64 0)] w))))) [(.slice none 0 0), (.int .i64 0)] w
theorem B7_eq (sizes_p0 x_p1 : Value) (w : World) (K : Value → World → Prop) : denFn prog Try.f7 T7 [sizes_p0, x_p1] w K = B7 sizes_p0 x_p1 w K := by kernel_rfl
theorem c7 {sizes_p0 x_p1 : Value} {w : World} {K : Value → World → Prop} (h : B7 sizes_p0 x_p1 w K) : Calls prog 7 #[sizes_p0, x_p1] w (Ret K) :=
  denFn_calls Try.func7 T7_ok (Eq.mpr (B7_eq sizes_p0 x_p1 w K) h)

-- 10 holdfast/holdfastlaw01.BlockNone
def T10 : Ann := (.seq .none (.seq .none (.seq .none (.seq .none (.seq .none (.seq .none .none))))))
theorem T10_ok : chkFn prog Try.f10 T10 = true := by kernel_rfl
def B10 (n_p0 : Value) (w : World) (K : Value → World → Prop) : Prop :=
  Calls prog 18 #[(.pointer none), n_p0] w (Ret fun t_0 w =>
  pvv prog (Instr.extract t_0 0) w fun t_1 w =>
  pvv prog (Instr.extract t_0 1) w fun t_2 w =>
  Calls prog 29 #[(.pointer none), n_p0] w (Ret fun t_3 w =>
  pvv prog (Instr.extract t_3 0) w fun t_4 w =>
  pvv prog (Instr.extract t_3 1) w fun t_5 w =>
  Calls prog 31 #[(.int .i64 1)] w (Ret fun t_6 w =>
  pvv prog (Instr.extract t_6 0) w fun t_7 w =>
  pvv prog (Instr.extract t_6 1) w fun t_8 w =>
  Calls prog 13 #[] w (Ret fun t_9 w =>
  gate (some (t_9, true)) (fun K => K t_2 w) w fun t_10 w =>
  gate (some (t_9, true)) (fun K => pvv prog (oEq .eql 34 (.tmp 28) (.const (.int .i64 1)) t_10 (.int .i64 1)) w K) w fun t_11 w =>
  pv prog (oPick t_9 t_11 (.bool false)) w fun t_12 w =>
  gate (some (t_12, true)) (fun K => K t_5 w) w fun t_13 w =>
  gate (some (t_12, true)) (fun K => pvv prog (oEq .eql 34 (.tmp 32) (.const (.int .i64 1)) t_13 (.int .i64 1)) w K) w fun t_14 w =>
  pv prog (oPick t_12 t_14 (.bool false)) w fun t_15 w =>
  gate (some (t_15, true)) (fun K => K (.pointer none) w) w fun t_16 w =>
  gate (some (t_15, true)) (fun K => K n_p0 w) w fun t_17 w =>
  gate (some (t_15, true)) (fun K => Calls prog 16 #[t_16, t_17, (.slice none 0 0)] w (Ret K)) w fun t_18 w =>
  gate (some (t_15, true)) (fun K => pvv prog (oEq .eql 34 (.tmp 38) (.const (.int .i64 1)) t_18 (.int .i64 1)) w K) w fun t_19 w =>
  pv prog (oPick t_15 t_19 (.bool false)) w fun t_20 w =>
  gate (some (t_20, true)) (fun K => K (.pointer none) w) w fun t_21 w =>
  gate (some (t_20, true)) (fun K => Calls prog 20 #[t_21] w (Ret K)) w fun t_22 w =>
  gate (some (t_20, true)) (fun K => pvv prog (oEq .eql 3 (.tmp 43) (.const (.int .i64 0)) t_22 (.int .i64 0)) w K) w fun t_23 w =>
  pv prog (oPick t_20 t_23 (.bool false)) w fun t_24 w =>
  gate (some (t_24, true)) (fun K => K (.pointer none) w) w fun t_25 w =>
  gate (some (t_24, true)) (fun K => Calls prog 22 #[t_25] w (Ret K)) w fun t_26 w =>
  gate (some (t_24, true)) (fun K => pvv prog (oEq .eql 3 (.tmp 48) (.const (.int .i64 0)) t_26 (.int .i64 0)) w K) w fun t_27 w =>
  pv prog (oPick t_24 t_27 (.bool false)) w fun t_28 w =>
  gate (some (t_28, true)) (fun K => K (.pointer none) w) w fun t_29 w =>
  gate (some (t_28, true)) (fun K => Calls prog 25 #[t_29] w (Ret K)) w fun t_30 w =>
  gate (some (t_28, true)) (fun K => pv prog (oBi .len #[42] 3 #[false] #[t_30]) w K) w fun t_31 w =>
  gate (some (t_28, true)) (fun K => pvv prog (oEq .eql 3 (.tmp 54) (.const (.int .i64 0)) t_31 (.int .i64 0)) w K) w fun t_32 w =>
  pv prog (oPick t_28 t_32 (.bool false)) w fun t_33 w =>
  gate (some (t_33, true)) (fun K => K (.pointer none) w) w fun t_34 w =>
  gate (some (t_33, true)) (fun K => Calls prog 14 #[t_34] w (Ret K)) w fun t_35 w =>
  gate (some (t_33, true)) (fun K => pv prog (oBi .len #[30] 3 #[false] #[t_35]) w K) w fun t_36 w =>
  gate (some (t_33, true)) (fun K => pvv prog (oEq .eql 3 (.tmp 60) (.const (.int .i64 0)) t_36 (.int .i64 0)) w K) w fun t_37 w =>
  pv prog (oPick t_33 t_37 (.bool false)) w fun t_38 w =>
  gate (some (t_38, true)) (fun K => K (.pointer none) w) w fun t_39 w =>
  gate (some (t_38, true)) (fun K => Calls prog 35 #[t_39] w (Ret K)) w fun t_40 w =>
  gate (some (t_38, true)) (fun K => pvv prog (oEq .eql 25 (.tmp 65) (.const (.pointer none)) t_40 (.pointer none)) w K) w fun t_41 w =>
  pv prog (oPick t_38 t_41 (.bool false)) w fun t_42 w =>
  gate (some (t_42, true)) (fun K => Calls prog 30 #[(.pointer none), (.pointer none)] w (Ret K)) w fun t_43 w =>
  pv prog (oPick t_42 t_43 (.bool false)) w fun t_44 w =>
  gate (some (t_44, true)) (fun K => K t_7 w) w fun t_45 w =>
  gate (some (t_44, true)) (fun K => Calls prog 30 #[(.pointer none), t_45] w (Ret K)) w fun t_46 w =>
  gate (some (t_44, true)) (fun K => pvv prog (Op.unary .not t_46) w K) w fun t_47 w =>
  pv prog (oPick t_44 t_47 (.bool false)) w fun t_48 w =>
  gate (some (t_48, true)) (fun K => K t_7 w) w fun t_49 w =>
  gate (some (t_48, true)) (fun K => Calls prog 30 #[t_49, (.pointer none)] w (Ret K)) w fun t_50 w =>
  gate (some (t_48, true)) (fun K => pvv prog (Op.unary .not t_50) w K) w fun t_51 w =>
  pv prog (oPick t_48 t_51 (.bool false)) w fun t_52 w =>
  K t_52 w))))
theorem B10_eq (n_p0 : Value) (w : World) (K : Value → World → Prop) : denFn prog Try.f10 T10 [n_p0] w K = B10 n_p0 w K := by kernel_rfl
theorem c10 {n_p0 : Value} {w : World} {K : Value → World → Prop} (h : B10 n_p0 w K) : Calls prog 10 #[n_p0] w (Ret K) :=
  denFn_calls Try.func10 T10_ok (Eq.mpr (B10_eq n_p0 w K) h)

-- 3 holdfast/holdfastlaw01.BlockLast
def T3 : Ann := (.seq .none (.seq .none (.seq (.seq .none (.seq (.seq .none .none) .none)) (.seq .none (.seq .none (.seq .none (.seq .none (.seq (.seq .none (.block (.loop 2305842871774752784 [12] (.seq (.seq .none (.seq .none .none)) (.seq (.block (.seq .none (.meet 17979214137401344 [13] (.seq .none (.seq .none .none)) (.seq .none (.seq (.seq .none .none) .none))))) .none))))) (.seq .none .none)))))))))
theorem T3_ok : chkFn prog Try.f3 T3 = true := by kernel_rfl
def B3 (l_p0 x_p1 : Value) (w : World) (K : Value → World → Prop) : Prop :=
  efv prog (Instr.box 24 x_p1) w fun x_0 w =>
  Calls prog 12 #[(.int .i64 5), l_p0] w (Ret fun t_1 w =>
  pvv prog (Instr.extract t_1 0) w fun t_2 w =>
  pvv prog (Instr.extract t_1 1) w fun t_3 w =>
  pvv prog (Instr.extract t_1 2) w fun t_4 w =>
  Calls prog 13 #[] w (Ret fun t_5 w =>
  pvv prog (Op.unary .not t_5) w fun t_6 w =>
  gate (some (t_6, false)) (fun K => K t_4 w) w fun t_7 w =>
  gate (some (t_6, false)) (fun K => pvv prog (Op.unary .not t_7) w K) w fun t_8 w =>
  pv prog (oPick t_6 (.bool true) t_8) w fun t_9 w =>
  cd t_9 (
    K (.bool false) w) <|
  Calls prog 14 #[t_2] w (Ret fun t_10 w =>
  ldv prog (Instr.loadAt 24 x_0) w fun t_11 w =>
  Calls prog 15 #[t_11] w (Ret fun t_12 w =>
  pvv prog (Instr.fieldAt 24 x_0 0) w fun t_13 w =>
  ldv prog (Instr.loadAt 3 t_13) w fun t_14 w =>
  Calls prog 16 #[t_2, t_14, t_12] w (Ret fun t_15 w =>
  Calls prog 14 #[t_2] w (Ret fun t_16 w =>
  lp (fun σ w again_18 => pop σ fun i_17 σ => fin σ <|
    pvv prog (binOp .lss 3 i_17 (.int .i64 5)) w fun t_19 w =>
    cd t_19 (
      pvv prog (Instr.indexAt 30 t_10 i_17) w fun t_20 w =>
      ldv prog (Instr.loadAt 32 t_20) w fun t_21 w =>
      jn (fun σ w => pop σ fun want_22 σ => fin σ <|
        pvv prog (Instr.indexAt 30 t_16 i_17) w fun t_23 w =>
        ldv prog (Instr.loadAt 32 t_23) w fun t_24 w =>
        Calls prog 17 #[t_24, want_22] w (Ret fun t_25 w =>
        pvv prog (Op.unary .not t_25) w fun t_26 w =>
        cd t_26 (
          K (.bool false) w) <|
        pvv prog (binOp .add 3 i_17 (.int .i64 1)) w fun t_27 w =>
        again_18 [t_27] w)) fun k_28 =>
      pvv prog (oEq .eql 34 (.tmp 45) (.const (.int .i64 0)) t_15 (.int .i64 0)) w fun t_29 w =>
      gate (some (t_29, true)) (fun K => K i_17 w) w fun t_30 w =>
      gate (some (t_29, true)) (fun K => pvv prog (Instr.fieldAt 24 x_0 0) w K) w fun t_31 w =>
      gate (some (t_29, true)) (fun K => ldv prog (Instr.loadAt 3 t_31) w K) w fun t_32 w =>
      gate (some (t_29, true)) (fun K => pvv prog (oEq .eql 3 (.tmp 48) (.tmp 50) t_30 t_32) w K) w fun t_33 w =>
      pv prog (oPick t_29 t_33 (.bool false)) w fun t_34 w =>
      cd t_34 (
        k_28 [t_12] w) <|
      k_28 [t_21] w) <|
    pvv prog (oEq .eql 34 (.tmp 61) (.const (.int .i64 0)) t_15 (.int .i64 0)) w fun t_35 w =>
    pvv prog (Instr.fieldAt 24 x_0 0) w fun t_36 w =>
    ldv prog (Instr.loadAt 3 t_36) w fun t_37 w =>
    pvv prog (binOp .geq 3 t_37 (.int .i64 0)) w fun t_38 w =>
    gate (some (t_38, true)) (fun K => pvv prog (Instr.fieldAt 24 x_0 0) w K) w fun t_39 w =>
    gate (some (t_38, true)) (fun K => ldv prog (Instr.loadAt 3 t_39) w K) w fun t_40 w =>
    gate (some (t_38, true)) (fun K => pvv prog (binOp .lss 3 t_40 (.int .i64 5)) w K) w fun t_41 w =>
    pv prog (oPick t_38 t_41 (.bool false)) w fun t_42 w =>
    gate (some (t_42, true)) (fun K => K t_12 w) w fun t_43 w =>
    gate (some (t_42, true)) (fun K => pv prog (oBi .len #[32] 3 #[false] #[t_43]) w K) w fun t_44 w =>
    gate (some (t_42, true)) (fun K => pvv prog (oEq .eql 3 (.tmp 73) (.const (.int .i64 256)) t_44 (.int .i64 256)) w K) w fun t_45 w =>
    pv prog (oPick t_42 t_45 (.bool false)) w fun t_46 w =>
    pvv prog (oEq .eql 4 (.tmp 62) (.tmp 75) t_35 t_46) w fun t_47 w =>
    K t_47 w) [(.int .i64 0)] w))))))
theorem B3_eq (l_p0 x_p1 : Value) (w : World) (K : Value → World → Prop) : denFn prog Try.f3 T3 [l_p0, x_p1] w K = B3 l_p0 x_p1 w K := by kernel_rfl
theorem c3 {l_p0 x_p1 : Value} {w : World} {K : Value → World → Prop} (h : B3 l_p0 x_p1 w K) : Calls prog 3 #[l_p0, x_p1] w (Ret K) :=
  denFn_calls Try.func3 T3_ok (Eq.mpr (B3_eq l_p0 x_p1 w K) h)

-- 13 holdfast/holdfastlaw01.live
def T13 : Ann := (.seq .none (.seq .none (.seq .none (.seq .none (.seq .none (.seq .none (.seq .none (.seq .none .none))))))))
theorem T13_ok : chkFn prog Try.f13 T13 = true := by kernel_rfl
def B13 (w : World) (K : Value → World → Prop) : Prop :=
  Calls prog 31 #[(.int .i64 2)] w (Ret fun t_0 w =>
  pvv prog (Instr.extract t_0 0) w fun t_1 w =>
  pvv prog (Instr.extract t_0 1) w fun t_2 w =>
  pvv prog (Instr.build 24 #[(0, (.int .i64 1)), (1, (.int .i64 256)), (2, (.int .u8 7))]) w fun t_3 w =>
  Calls prog 15 #[t_3] w (Ret fun t_4 w =>
  Calls prog 16 #[t_1, (.int .i64 1), t_4] w (Ret fun t_5 w =>
  Calls prog 29 #[t_1, (.int .i64 0)] w (Ret fun t_6 w =>
  pvv prog (Instr.extract t_6 0) w fun t_7 w =>
  pvv prog (Instr.extract t_6 1) w fun t_8 w =>
  Calls prog 18 #[t_1, (.int .i64 1)] w (Ret fun t_9 w =>
  pvv prog (Instr.extract t_9 0) w fun t_10 w =>
  pvv prog (Instr.extract t_9 1) w fun t_11 w =>
  Calls prog 18 #[t_7, (.int .i64 1)] w (Ret fun t_12 w =>
  pvv prog (Instr.extract t_12 0) w fun t_13 w =>
  pvv prog (Instr.extract t_12 1) w fun t_14 w =>
  pvv prog (oEq .eql 34 (.tmp 35) (.const (.int .i64 0)) t_2 (.int .i64 0)) w fun t_15 w =>
  gate (some (t_15, true)) (fun K => K t_5 w) w fun t_16 w =>
  gate (some (t_15, true)) (fun K => pvv prog (oEq .eql 34 (.tmp 38) (.const (.int .i64 0)) t_16 (.int .i64 0)) w K) w fun t_17 w =>
  pv prog (oPick t_15 t_17 (.bool false)) w fun t_18 w =>
  gate (some (t_18, true)) (fun K => K t_8 w) w fun t_19 w =>
  gate (some (t_18, true)) (fun K => pvv prog (oEq .eql 34 (.tmp 42) (.const (.int .i64 0)) t_19 (.int .i64 0)) w K) w fun t_20 w =>
  pv prog (oPick t_18 t_20 (.bool false)) w fun t_21 w =>
  gate (some (t_21, true)) (fun K => K t_11 w) w fun t_22 w =>
  gate (some (t_21, true)) (fun K => pvv prog (oEq .eql 34 (.tmp 46) (.const (.int .i64 0)) t_22 (.int .i64 0)) w K) w fun t_23 w =>
  pv prog (oPick t_21 t_23 (.bool false)) w fun t_24 w =>
  gate (some (t_24, true)) (fun K => K t_14 w) w fun t_25 w =>
  gate (some (t_24, true)) (fun K => pvv prog (oEq .eql 34 (.tmp 50) (.const (.int .i64 0)) t_25 (.int .i64 0)) w K) w fun t_26 w =>
  pv prog (oPick t_24 t_26 (.bool false)) w fun t_27 w =>
  gate (some (t_27, true)) (fun K => K t_1 w) w fun t_28 w =>
  gate (some (t_27, true)) (fun K => Calls prog 22 #[t_28] w (Ret K)) w fun t_29 w =>
  gate (some (t_27, true)) (fun K => pvv prog (oEq .eql 3 (.tmp 55) (.const (.int .i64 1)) t_29 (.int .i64 1)) w K) w fun t_30 w =>
  pv prog (oPick t_27 t_30 (.bool false)) w fun t_31 w =>
  gate (some (t_31, true)) (fun K => K t_10 w) w fun t_32 w =>
  gate (some (t_31, true)) (fun K => K t_4 w) w fun t_33 w =>
  gate (some (t_31, true)) (fun K => Calls prog 17 #[t_32, t_33] w (Ret K)) w fun t_34 w =>
  pv prog (oPick t_31 t_34 (.bool false)) w fun t_35 w =>
  gate (some (t_35, true)) (fun K => K t_13 w) w fun t_36 w =>
  gate (some (t_35, true)) (fun K => pv prog (oBi .len #[32] 3 #[false] #[t_36]) w K) w fun t_37 w =>
  gate (some (t_35, true)) (fun K => pvv prog (oEq .eql 3 (.tmp 65) (.const (.int .i64 256)) t_37 (.int .i64 256)) w K) w fun t_38 w =>
  pv prog (oPick t_35 t_38 (.bool false)) w fun t_39 w =>
  gate (some (t_39, true)) (fun K => K t_13 w) w fun t_40 w =>
  gate (some (t_39, true)) (fun K => pvv prog (Instr.indexAt 32 t_40 (.int .i64 0)) w K) w fun t_41 w =>
  gate (some (t_39, true)) (fun K => ldv prog (Instr.loadAt 5 t_41) w K) w fun t_42 w =>
  gate (some (t_39, true)) (fun K => pvv prog (oEq .eql 5 (.tmp 71) (.const (.int .u8 0)) t_42 (.int .u8 0)) w K) w fun t_43 w =>
  pv prog (oPick t_39 t_43 (.bool false)) w fun t_44 w =>
  K t_44 w))))))
theorem B13_eq (w : World) (K : Value → World → Prop) : denFn prog Try.f13 T13 [] w K = B13  w K := by kernel_rfl
theorem c13 {w : World} {K : Value → World → Prop} (h : B13  w K) : Calls prog 13 #[] w (Ret K) :=
  denFn_calls Try.func13 T13_ok (Eq.mpr (B13_eq  w K) h)

-- 36 holdfast/codec.Row
def T36 : Ann := (.seq .none (.seq (.seq .none (.seq (.seq .none .none) .none)) (.seq .none (.seq (.seq .none (.block (.loop 4294901852 [4, 16] (.seq .none (.seq (.seq .none .none) (.seq (.block (.seq .none (.seq (.seq .none (.seq (.seq .none .none) .none)) .none))) .none)))))) (.seq (.seq .none (.seq (.seq .none .none) .none)) (.seq .none .none))))))
theorem T36_ok : chkFn prog Try.f36 T36 = true := by kernel_rfl
def B36 (columns_p0 : Value) (w : World) (K : Value → World → Prop) : Prop :=
  pv prog (oBi .len #[65] 3 #[false] #[columns_p0]) w fun t_0 w =>
  pvv prog (binOp .gtr 3 t_0 (.int .i64 8)) w fun t_1 w =>
  cd t_1 (
    K (.tuple #[(.slice none 0 0), (.int .i64 2)]) w) <|
  pv prog (oBi .len #[65] 3 #[false] #[columns_p0]) w fun t_2 w =>
  pvv prog (convert 3 5 t_2) w fun t_3 w =>
  efv prog (Instr.buildSlice 32 1 #[(0, t_3)]) w fun t_4 w =>
  pv prog (oBi .len #[65] 3 #[false] #[columns_p0]) w fun t_5 w =>
  lp (fun σ w again_8 => pop σ fun out_6 σ => pop σ fun t_7 σ => fin σ <|
    pvv prog (binOp .lss 3 t_7 t_5) w fun t_9 w =>
    cd t_9 (
      pvv prog (Instr.indexAt 65 columns_p0 t_7) w fun t_10 w =>
      ldv prog (Instr.loadAt 9 t_10) w fun t_11 w =>
      pv prog (oBi .len #[9] 3 #[false] #[t_11]) w fun t_12 w =>
      pvv prog (binOp .gtr 3 t_12 (.int .i64 70)) w fun t_13 w =>
      cd t_13 (
        K (.tuple #[(.slice none 0 0), (.int .i64 6)]) w) <|
      pv prog (oBi .len #[9] 3 #[false] #[t_11]) w fun t_14 w =>
      pvv prog (convert 3 5 t_14) w fun t_15 w =>
      efv prog (Instr.buildSlice 32 1 #[(0, t_15)]) w fun t_16 w =>
      ef prog (oBi .append #[32, 32] 32 #[false, false] #[out_6, t_16]) w fun t_17 w =>
      ef prog (oBi .append #[32, 9] 32 #[false, false] #[t_17, t_11]) w fun t_18 w =>
      pvv prog (binOp .add 3 t_7 (.int .i64 1)) w fun t_19 w =>
      again_8 [t_18, t_19] w) <|
    pv prog (oBi .len #[32] 3 #[false] #[out_6]) w fun t_20 w =>
    pvv prog (binOp .gtr 3 t_20 (.int .i64 72)) w fun t_21 w =>
    cd t_21 (
      K (.tuple #[(.slice none 0 0), (.int .i64 6)]) w) <|
    K (.tuple #[out_6, (.int .i64 0)]) w) [t_4, (.int .i64 0)] w
theorem B36_eq (columns_p0 : Value) (w : World) (K : Value → World → Prop) : denFn prog Try.f36 T36 [columns_p0] w K = B36 columns_p0 w K := by kernel_rfl
theorem c36 {columns_p0 : Value} {w : World} {K : Value → World → Prop} (h : B36 columns_p0 w K) : Calls prog 36 #[columns_p0] w (Ret K) :=
  denFn_calls Try.func36 T36_ok (Eq.mpr (B36_eq columns_p0 w K) h)

-- 38 holdfast/holdfastref01.New
def T38 : Ann := (.seq .none (.seq (.seq .none (.seq (.seq .none .none) .none)) (.seq .none (.seq (.seq .none (.block (.loop 536854560 [5] (.seq (.seq .none (.seq .none .none)) (.seq (.block (.draw [(0, .pure), (1, .pure), (2, .pure), (3, .pure), (4, .load), (5, .eff), (6, .eff), (7, .eff), (8, .pure), (9, .pure), (10, .eff)])) .none))))) (.seq .none .none)))))
theorem T38_ok : chkFn prog Try.f38 T38 = true := by kernel_rfl
def B38 (blocks_p0 : Value) (w : World) (K : Value → World → Prop) : Prop :=
  pvv prog (binOp .lss 3 blocks_p0 (.int .i64 1)) w fun t_0 w =>
  gate (some (t_0, false)) (fun K => K blocks_p0 w) w fun t_1 w =>
  gate (some (t_0, false)) (fun K => pvv prog (binOp .gtr 3 t_1 (.int .i64 1024)) w K) w fun t_2 w =>
  pv prog (oPick t_0 (.bool true) t_2) w fun t_3 w =>
  cd t_3 (
    K (.tuple #[(.pointer none), (.int .i64 2)]) w) <|
  pvv prog (Instr.build 50 #[]) w fun t_4 w =>
  efv prog (Instr.box 50 t_4) w fun t_5 w =>
  lp (fun σ w again_7 => pop σ fun i_6 σ => fin σ <|
    pvv prog (binOp .lss 3 i_6 blocks_p0) w fun t_8 w =>
    cd t_8 (
      dr w fun w =>
      pv prog (oNil t_5) w fun t_9 w =>
      pvv prog (Instr.fieldAt 50 t_9 0) w fun t_10 w =>
      ldv prog (Instr.loadAt 30 t_10) w fun t_11 w =>
      efv prog (Instr.makeSlice 32 (.int .i64 256) (.int .i64 256)) w fun t_12 w => stv prog none (Instr.loadAt 30 t_10) t_11 w <| 
      efv prog (Instr.buildSlice 30 1 #[(0, t_12)]) w fun t_13 w => stv prog none (Instr.loadAt 30 t_10) t_11 w <| 
      ef prog (oBi .append #[30, 30] 30 #[false, false] #[t_11, t_13]) w fun t_14 w =>
      pv prog (oNil t_5) w fun t_15 w =>
      pvv prog (Instr.fieldAt 50 t_15 0) w fun t_16 w =>
      efu prog (Instr.storeAt 30 t_16 t_14) w fun u_17 w =>
      pvv prog (binOp .add 3 i_6 (.int .i64 1)) w fun t_18 w =>
      again_7 [t_18] w) <|
    K (.tuple #[t_5, (.int .i64 0)]) w) [(.int .i64 0)] w
theorem B38_eq (blocks_p0 : Value) (w : World) (K : Value → World → Prop) : denFn prog Try.f38 T38 [blocks_p0] w K = B38 blocks_p0 w K := by kernel_rfl
theorem c38 {blocks_p0 : Value} {w : World} {K : Value → World → Prop} (h : B38 blocks_p0 w K) : Calls prog 38 #[blocks_p0] w (Ret K) :=
  denFn_calls Try.func38 T38_ok (Eq.mpr (B38_eq blocks_p0 w K) h)

-- 25 (*holdfast/block.Disk).Writes
def T25 : Ann := (.seq .none (.seq .none (.meet 8388584 [3] (.seq .none (.seq (.seq .none (.block (.loop 8380456 [3, 13] (.seq .none (.seq (.seq .none .none) (.seq (.block (.seq .none .none)) .none)))))) .none)) (.seq .none .none))))
theorem T25_ok : chkFn prog Try.f25 T25 = true := by kernel_rfl
def B25 (d_p0 : Value) (w : World) (K : Value → World → Prop) : Prop :=
  jn (fun σ w => pop σ fun out_0 σ => fin σ <|
    K out_0 w) fun k_1 =>
  pvv prog (oEq .neq 25 (.tmp 6) (.const (.pointer none)) d_p0 (.pointer none)) w fun t_2 w =>
  cd t_2 (
    pv prog (oNil d_p0) w fun t_3 w =>
    pvv prog (Instr.fieldAt 79 t_3 1) w fun t_4 w =>
    ldv prog (Instr.loadAt 72 t_4) w fun t_5 w =>
    pv prog (oBi .len #[72] 3 #[false] #[t_5]) w fun t_6 w =>
    lp (fun σ w again_9 => pop σ fun out_7 σ => pop σ fun t_8 σ => fin σ <|
      pvv prog (binOp .lss 3 t_8 t_6) w fun t_10 w =>
      cd t_10 (
        pvv prog (Instr.indexAt 72 t_5 t_8) w fun t_11 w =>
        ldv prog (Instr.loadAt 81 t_11) w fun t_12 w =>
        efv prog (Instr.alloc 81 true (.tuple #[])) w fun w_13 w =>
        efu prog (Instr.storeAt 81 w_13 t_12) w fun u_14 w =>
        pvv prog (Instr.fieldAt 81 w_13 0) w fun t_15 w =>
        ldv prog (Instr.loadAt 3 t_15) w fun t_16 w =>
        efv prog (Instr.buildSlice 42 1 #[(0, t_16)]) w fun t_17 w =>
        ef prog (oBi .append #[42, 42] 42 #[false, false] #[out_7, t_17]) w fun t_18 w =>
        pvv prog (binOp .add 3 t_8 (.int .i64 1)) w fun t_19 w =>
        again_9 [t_18, t_19] w) <|
      k_1 [out_7] w) [(.slice none 0 0), (.int .i64 0)] w) <|
  k_1 [(.slice none 0 0)] w
theorem B25_eq (d_p0 : Value) (w : World) (K : Value → World → Prop) : denFn prog Try.f25 T25 [d_p0] w K = B25 d_p0 w K := by kernel_rfl
theorem c25 {d_p0 : Value} {w : World} {K : Value → World → Prop} (h : B25 d_p0 w K) : Calls prog 25 #[d_p0] w (Ret K) :=
  denFn_calls Try.func25 T25_ok (Eq.mpr (B25_eq d_p0 w K) h)

-- 47 slices.EqualFunc[[][]byte,[][]byte,[]byte,[]byte]
def T47 : Ann := (.seq .none (.seq (.seq .none (.seq (.seq .none .none) .none)) (.seq (.seq .none (.block (.loop 4294837184 [17] (.seq .none (.seq (.seq .none .none) (.seq (.block (.seq .none (.seq .none (.seq .none (.seq (.seq .none .none) .none))))) .none)))))) (.seq .none .none))))
theorem T47_ok : chkFn prog Try.f47 T47 = true := by kernel_rfl
def B47 (s1_p0 s2_p1 eq_p2 : Value) (w : World) (K : Value → World → Prop) : Prop :=
  pv prog (oBi .len #[30] 3 #[false] #[s1_p0]) w fun t_0 w =>
  pv prog (oBi .len #[30] 3 #[false] #[s2_p1]) w fun t_1 w =>
  pvv prog (oEq .neq 3 (.tmp 11) (.tmp 13) t_0 t_1) w fun t_2 w =>
  cd t_2 (
    K (.bool false) w) <|
  pv prog (oBi .len #[30] 3 #[false] #[s1_p0]) w fun t_3 w =>
  lp (fun σ w again_5 => pop σ fun t_4 σ => fin σ <|
    pvv prog (binOp .lss 3 t_4 t_3) w fun t_6 w =>
    cd t_6 (
      pvv prog (Instr.indexAt 30 s1_p0 t_4) w fun t_7 w =>
      ldv prog (Instr.loadAt 32 t_7) w fun t_8 w =>
      pvv prog (Instr.indexAt 30 s2_p1 t_4) w fun t_9 w =>
      ldv prog (Instr.loadAt 32 t_9) w fun t_10 w =>
      ef prog (oCall eq_p2 #[t_8, t_10]) w fun t_11 w =>
      pvv prog (Op.unary .not t_11) w fun t_12 w =>
      cd t_12 (
        K (.bool false) w) <|
      pvv prog (binOp .add 3 t_4 (.int .i64 1)) w fun t_13 w =>
      again_5 [t_13] w) <|
    K (.bool true) w) [(.int .i64 0)] w
theorem B47_eq (s1_p0 s2_p1 eq_p2 : Value) (w : World) (K : Value → World → Prop) : denFn prog Try.f47 T47 [s1_p0, s2_p1, eq_p2] w K = B47 s1_p0 s2_p1 eq_p2 w K := by kernel_rfl
theorem c47 {s1_p0 s2_p1 eq_p2 : Value} {w : World} {K : Value → World → Prop} (h : B47 s1_p0 s2_p1 eq_p2 w K) : Calls prog 47 #[s1_p0, s2_p1, eq_p2] w (Ret K) :=
  denFn_calls Try.func47 T47_ok (Eq.mpr (B47_eq s1_p0 s2_p1 eq_p2 w K) h)

-- 30 holdfast/block.Same
def T30 : Ann := (.seq .none (.seq (.seq .none (.seq (.seq .none .none) .none)) (.seq (.draw [(0, .pure), (1, .pure), (2, .pure), (4, .pure), (5, .pure), (6, .pure), (3, .load), (7, .load), (8, .eff), (9, .pure)]) .none)))
theorem T30_ok : chkFn prog Try.f30 T30 = true := by kernel_rfl
def B30 (a_p0 b_p1 : Value) (w : World) (K : Value → World → Prop) : Prop :=
  pvv prog (oEq .eql 25 (.tmp 5) (.const (.pointer none)) a_p0 (.pointer none)) w fun t_0 w =>
  gate (some (t_0, false)) (fun K => K b_p1 w) w fun t_1 w =>
  gate (some (t_0, false)) (fun K => pvv prog (oEq .eql 25 (.tmp 8) (.const (.pointer none)) t_1 (.pointer none)) w K) w fun t_2 w =>
  pv prog (oPick t_0 (.bool true) t_2) w fun t_3 w =>
  cd t_3 (
    pvv prog (oEq .eql 25 (.tmp 11) (.tmp 12) a_p0 b_p1) w fun t_4 w =>
    K t_4 w) <|
  dr w fun w =>
  pv prog (oNil a_p0) w fun t_5 w =>
  pvv prog (Instr.fieldAt 79 t_5 0) w fun t_6 w =>
  pv prog (oNil b_p1) w fun t_7 w =>
  pvv prog (Instr.fieldAt 79 t_7 0) w fun t_8 w =>
  ldv prog (Instr.loadAt 30 t_6) w fun t_9 w =>
  ldv prog (Instr.loadAt 30 t_8) w fun t_10 w =>
  Calls prog 47 #[t_9, t_10, (.func (.func 48) #[] #[])] w (Ret fun t_11 w =>
  K t_11 w)
theorem B30_eq (a_p0 b_p1 : Value) (w : World) (K : Value → World → Prop) : denFn prog Try.f30 T30 [a_p0, b_p1] w K = B30 a_p0 b_p1 w K := by kernel_rfl
theorem c30 {a_p0 b_p1 : Value} {w : World} {K : Value → World → Prop} (h : B30 a_p0 b_p1 w K) : Calls prog 30 #[a_p0, b_p1] w (Ret K) :=
  denFn_calls Try.func30 T30_ok (Eq.mpr (B30_eq a_p0 b_p1 w K) h)

-- 40 holdfast/block.copied
def T40 : Ann := (.seq .none (.seq .none (.seq (.seq .none (.block (.loop 4192304 [11] (.seq .none (.seq (.seq .none .none) (.seq (.block (.seq .none .none)) .none)))))) (.seq .none .none))))
theorem T40_ok : chkFn prog Try.f40 T40 = true := by kernel_rfl
def B40 (l_p0 : Value) (w : World) (K : Value → World → Prop) : Prop :=
  pv prog (oBi .len #[30] 3 #[false] #[l_p0]) w fun t_0 w =>
  efv prog (Instr.makeSlice 30 t_0 t_0) w fun t_1 w =>
  pv prog (oBi .len #[30] 3 #[false] #[l_p0]) w fun t_2 w =>
  lp (fun σ w again_4 => pop σ fun t_3 σ => fin σ <|
    pvv prog (binOp .lss 3 t_3 t_2) w fun t_5 w =>
    cd t_5 (
      pvv prog (Instr.indexAt 30 l_p0 t_3) w fun t_6 w =>
      ldv prog (Instr.loadAt 32 t_6) w fun t_7 w =>
      Calls prog 42 #[t_7] w (Ret fun t_8 w =>
      pvv prog (Instr.indexAt 30 t_1 t_3) w fun t_9 w =>
      efu prog (Instr.storeAt 32 t_9 t_8) w fun u_10 w =>
      pvv prog (binOp .add 3 t_3 (.int .i64 1)) w fun t_11 w =>
      again_4 [t_11] w)) <|
    K t_1 w) [(.int .i64 0)] w
theorem B40_eq (l_p0 : Value) (w : World) (K : Value → World → Prop) : denFn prog Try.f40 T40 [l_p0] w K = B40 l_p0 w K := by kernel_rfl
theorem c40 {l_p0 : Value} {w : World} {K : Value → World → Prop} (h : B40 l_p0 w K) : Calls prog 40 #[l_p0] w (Ret K) :=
  denFn_calls Try.func40 T40_ok (Eq.mpr (B40_eq l_p0 w K) h)

-- 21 (*holdfast/holdfastref01.Disk).Blocks
def T21 : Ann := (.seq .none (.seq (.seq .none (.seq (.seq .none .none) .none)) (.seq .none .none)))
theorem T21_ok : chkFn prog Try.f21 T21 = true := by kernel_rfl
def B21 (d_p0 : Value) (w : World) (K : Value → World → Prop) : Prop :=
  pvv prog (oEq .eql 26 (.tmp 3) (.const (.pointer none)) d_p0 (.pointer none)) w fun t_0 w =>
  cd t_0 (
    K (.int .i64 0) w) <|
  pv prog (oNil d_p0) w fun t_1 w =>
  pvv prog (Instr.fieldAt 50 t_1 0) w fun t_2 w =>
  ldv prog (Instr.loadAt 30 t_2) w fun t_3 w =>
  pv prog (oBi .len #[30] 3 #[false] #[t_3]) w fun t_4 w =>
  K t_4 w
theorem B21_eq (d_p0 : Value) (w : World) (K : Value → World → Prop) : denFn prog Try.f21 T21 [d_p0] w K = B21 d_p0 w K := by kernel_rfl
theorem c21 {d_p0 : Value} {w : World} {K : Value → World → Prop} (h : B21 d_p0 w K) : Calls prog 21 #[d_p0] w (Ret K) :=
  denFn_calls Try.func21 T21_ok (Eq.mpr (B21_eq d_p0 w K) h)

-- 53 slices.Clone[[]holdfast/block.write,holdfast/block.write]
def T53 : Ann := (.seq .none (.seq (.seq .none (.seq (.seq .none .none) .none)) (.seq .none .none)))
theorem T53_ok : chkFn prog Try.f53 T53 = true := by kernel_rfl
def B53 (s_p0 : Value) (w : World) (K : Value → World → Prop) : Prop :=
  pvv prog (oEq .eql 72 (.tmp 3) (.const (.slice none 0 0)) s_p0 (.slice none 0 0)) w fun t_0 w =>
  cd t_0 (
    K (.slice none 0 0) w) <|
  efv prog (Instr.buildSlice 72 0 #[]) w fun t_1 w =>
  ef prog (oBi .append #[72, 72] 72 #[false, false] #[t_1, s_p0]) w fun t_2 w =>
  K t_2 w
theorem B53_eq (s_p0 : Value) (w : World) (K : Value → World → Prop) : denFn prog Try.f53 T53 [s_p0] w K = B53 s_p0 w K := by kernel_rfl
theorem c53 {s_p0 : Value} {w : World} {K : Value → World → Prop} (h : B53 s_p0 w K) : Calls prog 53 #[s_p0] w (Ret K) :=
  denFn_calls Try.func53 T53_ok (Eq.mpr (B53_eq s_p0 w K) h)

-- 41 (*sync/atomic.Int64).Add
def T41 : Ann := (.seq .none (.seq .none .none))
theorem T41_ok : chkFn prog Try.f41 T41 = true := by kernel_rfl
def B41 (x_p0 delta_p1 : Value) (w : World) (K : Value → World → Prop) : Prop :=
  pv prog (oNil x_p0) w fun t_0 w =>
  pvv prog (Instr.fieldAt 77 t_0 2) w fun t_1 w =>
  ef prog (oCall (.func (.func 55) #[] #[]) #[t_1, delta_p1]) w fun t_2 w =>
  K t_2 w
theorem B41_eq (x_p0 delta_p1 : Value) (w : World) (K : Value → World → Prop) : denFn prog Try.f41 T41 [x_p0, delta_p1] w K = B41 x_p0 delta_p1 w K := by kernel_rfl
theorem c41 {x_p0 delta_p1 : Value} {w : World} {K : Value → World → Prop} (h : B41 x_p0 delta_p1 w K) : Calls prog 41 #[x_p0, delta_p1] w (Ret K) :=
  denFn_calls Try.func41 T41_ok (Eq.mpr (B41_eq x_p0 delta_p1 w K) h)

-- 44 (*sync/atomic.Int64).Load
def T44 : Ann := (.seq .none (.seq .none .none))
theorem T44_ok : chkFn prog Try.f44 T44 = true := by kernel_rfl
def B44 (x_p0 : Value) (w : World) (K : Value → World → Prop) : Prop :=
  pv prog (oNil x_p0) w fun t_0 w =>
  pvv prog (Instr.fieldAt 77 t_0 2) w fun t_1 w =>
  ef prog (oCall (.func (.func 56) #[] #[]) #[t_1]) w fun t_2 w =>
  K t_2 w
theorem B44_eq (x_p0 : Value) (w : World) (K : Value → World → Prop) : denFn prog Try.f44 T44 [x_p0] w K = B44 x_p0 w K := by kernel_rfl
theorem c44 {x_p0 : Value} {w : World} {K : Value → World → Prop} (h : B44 x_p0 w K) : Calls prog 44 #[x_p0] w (Ret K) :=
  denFn_calls Try.func44 T44_ok (Eq.mpr (B44_eq x_p0 w K) h)


end Go.Proofs.Yteplajobjlehlaa
