import Derived.Test.YteplajobjlehlaaBlkI
set_option linter.all false
set_option maxRecDepth 100000
namespace Go.Proofs.Yteplajobjlehlaa
open Go Hold
-- 9 holdfast/holdfastlaw01.BlockForks
def T9 : Ann := (.seq .none (.seq .none (.seq (.seq .none (.seq (.seq .none .none) .none)) (.seq .none (.seq (.seq .none (.block (.loop 4503598553629184 [9] (.seq (.seq .none (.seq .none .none)) (.seq (.block (.draw [(0, .pure), (1, .pure), (2, .pure), (3, .pure), (4, .pure), (6, .pure), (7, .pure), (8, .pure), (5, .load), (9, .load), (10, .eff), (11, .eff)])) .none))))) (.seq .none (.seq (.seq .none (.block (.loop 36875473748909623296 [11] (.seq (.seq .none (.seq .none .none)) (.seq (.block .none) .none))))) (.seq .none (.seq (.seq .none (.block (.loop 75410289773324647014400 [13] (.seq (.seq .none (.seq .none .none)) (.seq (.block .none) .none))))) (.seq .none (.meet 74953400816107008831782912 [] (.seq .none (.seq .none .none)) (.seq .none .none))))))))))))
theorem T9_ok : chkFn prog Try.f9 T9 = true := by kernel_rfl
def B9 (l_p0 m_p1 : Value) (w : World) (K : Value → World → Prop) : Prop :=
  Calls prog 12 #[(.int .i64 4), l_p0] w (Ret fun t_0 w =>
  pvv prog (Instr.extract t_0 0) w fun t_1 w =>
  pvv prog (Instr.extract t_0 1) w fun t_2 w =>
  pvv prog (Instr.extract t_0 2) w fun t_3 w =>
  Calls prog 13 #[] w (Ret fun t_4 w =>
  pvv prog (Op.unary .not t_4) w fun t_5 w =>
  gate (some (t_5, false)) (fun K => K t_3 w) w fun t_6 w =>
  gate (some (t_5, false)) (fun K => pvv prog (Op.unary .not t_6) w K) w fun t_7 w =>
  pv prog (oPick t_5 (.bool true) t_7) w fun t_8 w =>
  cd t_8 (
    K (.bool false) w) <|
  Calls prog 35 #[t_1] w (Ret fun t_9 w =>
  lp (fun σ w again_11 => pop σ fun i_10 σ => fin σ <|
    pv prog (oBi .len #[22] 3 #[false] #[m_p1]) w fun t_12 w =>
    pvv prog (binOp .lss 3 i_10 t_12) w fun t_13 w =>
    gate (some (t_13, true)) (fun K => K i_10 w) w fun t_14 w =>
    gate (some (t_13, true)) (fun K => pvv prog (binOp .lss 3 t_14 (.int .i64 40)) w K) w fun t_15 w =>
    pv prog (oPick t_13 t_15 (.bool false)) w fun t_16 w =>
    cd t_16 (
      dr w fun w =>
      pvv prog (Instr.indexAt 22 m_p1 i_10) w fun t_17 w =>
      pvv prog (Instr.fieldAt 24 t_17 0) w fun t_18 w =>
      pvv prog (Instr.indexAt 22 m_p1 i_10) w fun t_19 w =>
      ldv prog (Instr.loadAt 3 t_18) w fun t_20 w =>
      ldv prog (Instr.loadAt 24 t_19) w fun t_21 w =>
      Calls prog 15 #[t_21] w (Ret fun t_22 w => stv prog none (Instr.loadAt 3 t_18) t_20 w <| 
      Calls prog 16 #[t_9, t_20, t_22] w (Ret fun t_23 w => stv prog none (Instr.loadAt 24 t_19) t_21 w <| 
      pvv prog (binOp .add 3 i_10 (.int .i64 1)) w fun t_24 w =>
      again_11 [t_24] w))) <|
    Calls prog 14 #[t_1] w (Ret fun t_27 w =>
    lp (fun σ w again_29 => pop σ fun i_28 σ => fin σ <|
      pv prog (oBi .len #[30] 3 #[false] #[t_27]) w fun t_30 w =>
      pvv prog (binOp .lss 3 i_28 t_30) w fun t_31 w =>
      cd t_31 (
        pvv prog (Instr.indexAt 30 t_27 i_28) w fun t_32 w =>
        ldv prog (Instr.loadAt 32 t_32) w fun t_33 w =>
        pvv prog (Instr.indexAt 32 t_33 (.int .i64 0)) w fun t_34 w =>
        efu prog (Instr.storeAt 5 t_34 (.int .u8 200)) w fun u_35 w =>
        pvv prog (binOp .add 3 i_28 (.int .i64 1)) w fun t_36 w =>
        again_29 [t_36] w) <|
      Calls prog 25 #[t_1] w (Ret fun t_37 w =>
      lp (fun σ w again_39 => pop σ fun i_38 σ => fin σ <|
        pv prog (oBi .len #[42] 3 #[false] #[t_37]) w fun t_40 w =>
        pvv prog (binOp .lss 3 i_38 t_40) w fun t_41 w =>
        cd t_41 (
          pvv prog (Instr.indexAt 42 t_37 i_38) w fun t_42 w =>
          efu prog (Instr.storeAt 3 t_42 (.int .i64 (-5))) w fun u_43 w =>
          pvv prog (binOp .add 3 i_38 (.int .i64 1)) w fun t_44 w =>
          again_39 [t_44] w) <|
        Calls prog 18 #[t_1, (.int .i64 0)] w (Ret fun t_45 w =>
        pvv prog (Instr.extract t_45 0) w fun t_46 w =>
        pvv prog (Instr.extract t_45 1) w fun t_47 w =>
        jn (fun σ w => fin σ <|
          Calls prog 14 #[t_1] w (Ret fun t_48 w =>
          Calls prog 28 #[t_2] w (Ret fun t_49 w =>
          Calls prog 27 #[t_48, t_49] w (Ret fun t_50 w =>
          gate (some (t_50, true)) (fun K => K t_1 w) w fun t_51 w =>
          gate (some (t_50, true)) (fun K => Calls prog 25 #[t_51] w (Ret K)) w fun t_52 w =>
          gate (some (t_50, true)) (fun K => K t_2 w) w fun t_53 w =>
          gate (some (t_50, true)) (fun K => Calls prog 26 #[t_53] w (Ret K)) w fun t_54 w =>
          gate (some (t_50, true)) (fun K => Calls prog 24 #[t_52, t_54] w (Ret K)) w fun t_55 w =>
          pv prog (oPick t_50 t_55 (.bool false)) w fun t_56 w =>
          gate (some (t_56, true)) (fun K => K t_9 w) w fun t_57 w =>
          gate (some (t_56, true)) (fun K => Calls prog 22 #[t_57] w (Ret K)) w fun t_58 w =>
          gate (some (t_56, true)) (fun K => K t_1 w) w fun t_59 w =>
          gate (some (t_56, true)) (fun K => Calls prog 22 #[t_59] w (Ret K)) w fun t_60 w =>
          gate (some (t_56, true)) (fun K => pvv prog (binOp .geq 3 t_58 t_60) w K) w fun t_61 w =>
          pv prog (oPick t_56 t_61 (.bool false)) w fun t_62 w =>
          gate (some (t_62, true)) (fun K => K t_1 w) w fun t_63 w =>
          gate (some (t_62, true)) (fun K => K t_1 w) w fun t_64 w =>
          gate (some (t_62, true)) (fun K => Calls prog 35 #[t_64] w (Ret K)) w fun t_65 w =>
          gate (some (t_62, true)) (fun K => Calls prog 30 #[t_63, t_65] w (Ret K)) w fun t_66 w =>
          pv prog (oPick t_62 t_66 (.bool false)) w fun t_67 w =>
          K t_67 w)))) fun k_68 =>
        pv prog (oBi .len #[32] 3 #[false] #[t_46]) w fun t_69 w =>
        pvv prog (binOp .gtr 3 t_69 (.int .i64 0)) w fun t_70 w =>
        cd t_70 (
          pvv prog (Instr.indexAt 32 t_46 (.int .i64 0)) w fun t_71 w =>
          efu prog (Instr.storeAt 5 t_71 (.int .u8 201)) w fun u_72 w =>
          k_68 [] w) <|
        k_68 [] w)) [(.int .i64 0)] w)) [(.int .i64 0)] w)) [(.int .i64 0)] w)))
theorem B9_eq (l_p0 m_p1 : Value) (w : World) (K : Value → World → Prop) : denFn prog Try.f9 T9 [l_p0, m_p1] w K = B9 l_p0 m_p1 w K := by kernel_rfl
theorem c9 {l_p0 m_p1 : Value} {w : World} {K : Value → World → Prop} (h : B9 l_p0 m_p1 w K) : Calls prog 9 #[l_p0, m_p1] w (Ret K) :=
  denFn_calls Try.func9 T9_ok (Eq.mpr (B9_eq l_p0 m_p1 w K) h)

-- 6 holdfast/holdfastlaw01.BlockSwaps
def T6 : Ann := (.seq .none (.seq .none (.seq .none (.seq (.seq .none (.seq (.seq .none .none) .none)) (.seq (.draw [(0, .pure), (1, .pure), (2, .load), (3, .load), (4, .eff), (5, .eff)]) (.seq (.draw [(0, .pure), (1, .pure), (2, .load), (3, .load), (4, .eff), (5, .eff)]) (.seq (.draw [(0, .pure), (1, .pure), (2, .load), (3, .load), (4, .eff), (5, .eff)]) (.seq (.draw [(0, .pure), (1, .pure), (2, .load), (3, .load), (4, .eff), (5, .eff)]) (.seq .none .none)))))))))
theorem T6_ok : chkFn prog Try.f6 T6 = true := by kernel_rfl
def B6 (x_p0 y_p1 : Value) (w : World) (K : Value → World → Prop) : Prop :=
  efv prog (Instr.box 24 x_p0) w fun x_0 w =>
  efv prog (Instr.box 24 y_p1) w fun y_1 w =>
  Calls prog 31 #[(.int .i64 5)] w (Ret fun t_2 w =>
  pvv prog (Instr.extract t_2 0) w fun t_3 w =>
  pvv prog (Instr.extract t_2 1) w fun t_4 w =>
  Calls prog 31 #[(.int .i64 5)] w (Ret fun t_5 w =>
  pvv prog (Instr.extract t_5 0) w fun t_6 w =>
  pvv prog (Instr.extract t_5 1) w fun t_7 w =>
  Calls prog 13 #[] w (Ret fun t_8 w =>
  pvv prog (Op.unary .not t_8) w fun t_9 w =>
  gate (some (t_9, false)) (fun K => K t_4 w) w fun t_10 w =>
  gate (some (t_9, false)) (fun K => pvv prog (oEq .neq 34 (.tmp 20) (.const (.int .i64 0)) t_10 (.int .i64 0)) w K) w fun t_11 w =>
  pv prog (oPick t_9 (.bool true) t_11) w fun t_12 w =>
  gate (some (t_12, false)) (fun K => K t_7 w) w fun t_13 w =>
  gate (some (t_12, false)) (fun K => pvv prog (oEq .neq 34 (.tmp 24) (.const (.int .i64 0)) t_13 (.int .i64 0)) w K) w fun t_14 w =>
  pv prog (oPick t_12 (.bool true) t_14) w fun t_15 w =>
  cd t_15 (
    K (.bool false) w) <|
  dr w fun w =>
  pvv prog (Instr.fieldAt 24 x_0 0) w fun t_16 w =>
  ldv prog (Instr.loadAt 3 t_16) w fun t_17 w =>
  ldv prog (Instr.loadAt 24 x_0) w fun t_18 w =>
  Calls prog 15 #[t_18] w (Ret fun t_19 w => stv prog none (Instr.loadAt 3 t_16) t_17 w <| 
  Calls prog 16 #[t_3, t_17, t_19] w (Ret fun t_20 w => stv prog none (Instr.loadAt 24 x_0) t_18 w <| 
  dr w fun w =>
  pvv prog (Instr.fieldAt 24 y_1 0) w fun t_21 w =>
  ldv prog (Instr.loadAt 3 t_21) w fun t_22 w =>
  ldv prog (Instr.loadAt 24 y_1) w fun t_23 w =>
  Calls prog 15 #[t_23] w (Ret fun t_24 w => stv prog none (Instr.loadAt 3 t_21) t_22 w <| 
  Calls prog 16 #[t_3, t_22, t_24] w (Ret fun t_25 w => stv prog none (Instr.loadAt 24 y_1) t_23 w <| 
  dr w fun w =>
  pvv prog (Instr.fieldAt 24 y_1 0) w fun t_26 w =>
  ldv prog (Instr.loadAt 3 t_26) w fun t_27 w =>
  ldv prog (Instr.loadAt 24 y_1) w fun t_28 w =>
  Calls prog 15 #[t_28] w (Ret fun t_29 w => stv prog none (Instr.loadAt 3 t_26) t_27 w <| 
  Calls prog 16 #[t_6, t_27, t_29] w (Ret fun t_30 w => stv prog none (Instr.loadAt 24 y_1) t_28 w <| 
  dr w fun w =>
  pvv prog (Instr.fieldAt 24 x_0 0) w fun t_31 w =>
  ldv prog (Instr.loadAt 3 t_31) w fun t_32 w =>
  ldv prog (Instr.loadAt 24 x_0) w fun t_33 w =>
  Calls prog 15 #[t_33] w (Ret fun t_34 w => stv prog none (Instr.loadAt 3 t_31) t_32 w <| 
  Calls prog 16 #[t_6, t_32, t_34] w (Ret fun t_35 w => stv prog none (Instr.loadAt 24 x_0) t_33 w <| 
  pvv prog (Instr.fieldAt 24 x_0 0) w fun t_36 w =>
  ldv prog (Instr.loadAt 3 t_36) w fun t_37 w =>
  pvv prog (Instr.fieldAt 24 y_1 0) w fun t_38 w =>
  ldv prog (Instr.loadAt 3 t_38) w fun t_39 w =>
  pvv prog (oEq .eql 3 (.tmp 52) (.tmp 54) t_37 t_39) w fun t_40 w =>
  gate (some (t_40, false)) (fun K => K t_3 w) w fun t_41 w =>
  gate (some (t_40, false)) (fun K => K t_6 w) w fun t_42 w =>
  gate (some (t_40, false)) (fun K => Calls prog 30 #[t_41, t_42] w (Ret K)) w fun t_43 w =>
  gate (some (t_40, false)) (fun K => K t_43 w) w fun t_44 w =>
  gate (some (t_44, true)) (fun K => K t_3 w) w fun t_45 w =>
  gate (some (t_44, true)) (fun K => Calls prog 22 #[t_45] w (Ret K)) w fun t_46 w =>
  gate (some (t_44, true)) (fun K => K t_6 w) w fun t_47 w =>
  gate (some (t_44, true)) (fun K => Calls prog 22 #[t_47] w (Ret K)) w fun t_48 w =>
  gate (some (t_44, true)) (fun K => pvv prog (oEq .eql 3 (.tmp 62) (.tmp 64) t_46 t_48) w K) w fun t_49 w =>
  gate (some (t_40, false)) (fun K => pv prog (oPick t_44 t_49 (.bool false)) w K) w fun t_50 w =>
  pv prog (oPick t_40 (.bool true) t_50) w fun t_51 w =>
  K t_51 w)))))))))))
theorem B6_eq (x_p0 y_p1 : Value) (w : World) (K : Value → World → Prop) : denFn prog Try.f6 T6 [x_p0, y_p1] w K = B6 x_p0 y_p1 w K := by kernel_rfl
theorem c6 {x_p0 y_p1 : Value} {w : World} {K : Value → World → Prop} (h : B6 x_p0 y_p1 w K) : Calls prog 6 #[x_p0, y_p1] w (Ret K) :=
  denFn_calls Try.func6 T6_ok (Eq.mpr (B6_eq x_p0 y_p1 w K) h)

-- 5 holdfast/holdfastlaw01.BlockReplays
def T5 : Ann := (.seq .none (.seq .none (.seq (.seq .none (.seq (.seq .none .none) .none)) (.seq .none (.seq .none (.seq (.seq .none (.block (.loop 18446743936270600192 [11] (.seq (.seq .none (.seq .none .none)) (.seq (.block (.draw [(0, .pure), (1, .pure), (2, .pure), (3, .pure), (5, .pure), (9, .pure), (10, .pure), (11, .pure), (13, .pure), (4, .load), (6, .pure), (7, .pure), (8, .load), (12, .load), (14, .pure), (15, .pure), (16, .load), (17, .eff)])) .none))))) (.seq .none .none)))))))
theorem T5_ok : chkFn prog Try.f5 T5 = true := by kernel_rfl
def B5 (l_p0 k_p1 : Value) (w : World) (K : Value → World → Prop) : Prop :=
  Calls prog 12 #[(.int .i64 5), l_p0] w (Ret fun t_0 w =>
  pvv prog (Instr.extract t_0 0) w fun t_1 w =>
  pvv prog (Instr.extract t_0 1) w fun t_2 w =>
  pvv prog (Instr.extract t_0 2) w fun t_3 w =>
  Calls prog 13 #[] w (Ret fun t_4 w =>
  pvv prog (Op.unary .not t_4) w fun t_5 w =>
  gate (some (t_5, false)) (fun K => K t_3 w) w fun t_6 w =>
  gate (some (t_5, false)) (fun K => pvv prog (Op.unary .not t_6) w K) w fun t_7 w =>
  pv prog (oPick t_5 (.bool true) t_7) w fun t_8 w =>
  cd t_8 (
    K (.bool false) w) <|
  pvv prog (convert 5 3 k_p1) w fun t_9 w =>
  Calls prog 22 #[t_1] w (Ret fun t_10 w =>
  pvv prog (binOp .add 3 t_10 (.int .i64 1)) w fun t_11 w =>
  pvv prog (binOp .rem 3 t_9 t_11) w fun t_12 w =>
  Calls prog 29 #[t_1, t_12] w (Ret fun t_13 w =>
  pvv prog (Instr.extract t_13 0) w fun t_14 w =>
  pvv prog (Instr.extract t_13 1) w fun t_15 w =>
  lp (fun σ w again_17 => pop σ fun i_16 σ => fin σ <|
    pv prog (oNil t_2) w fun t_18 w =>
    pvv prog (Instr.fieldAt 50 t_18 1) w fun t_19 w =>
    ldv prog (Instr.loadAt 48 t_19) w fun t_20 w =>
    pv prog (oBi .len #[48] 3 #[false] #[t_20]) w fun t_21 w =>
    pvv prog (binOp .lss 3 i_16 t_21) w fun t_22 w =>
    cd t_22 (
      dr w fun w =>
      pv prog (oNil t_2) w fun t_23 w =>
      pvv prog (Instr.fieldAt 50 t_23 1) w fun t_24 w =>
      pv prog (oNil t_2) w fun t_25 w =>
      pvv prog (Instr.fieldAt 50 t_25 1) w fun t_26 w =>
      ldv prog (Instr.loadAt 48 t_24) w fun t_27 w =>
      pvv prog (Instr.indexAt 48 t_27 i_16) w fun t_28 w =>
      pvv prog (Instr.fieldAt 52 t_28 0) w fun t_29 w =>
      ldv prog (Instr.loadAt 3 t_29) w fun t_30 w =>
      ldv prog (Instr.loadAt 48 t_26) w fun t_31 w =>
      pvv prog (Instr.indexAt 48 t_31 i_16) w fun t_32 w =>
      pvv prog (Instr.fieldAt 52 t_32 1) w fun t_33 w =>
      ldv prog (Instr.loadAt 32 t_33) w fun t_34 w =>
      Calls prog 16 #[t_14, t_30, t_34] w (Ret fun t_35 w => stv prog none (Instr.loadAt 48 t_26) t_31 w <| stv prog none (Instr.loadAt 48 t_24) t_27 w <| 
      pvv prog (binOp .add 3 i_16 (.int .i64 1)) w fun t_36 w =>
      again_17 [t_36] w)) <|
    pvv prog (oEq .eql 34 (.tmp 64) (.const (.int .i64 0)) t_15 (.int .i64 0)) w fun t_38 w =>
    gate (some (t_38, true)) (fun K => K t_14 w) w fun t_39 w =>
    gate (some (t_38, true)) (fun K => K t_1 w) w fun t_40 w =>
    gate (some (t_38, true)) (fun K => Calls prog 30 #[t_39, t_40] w (Ret K)) w fun t_41 w =>
    pv prog (oPick t_38 t_41 (.bool false)) w fun t_42 w =>
    gate (some (t_42, true)) (fun K => K t_14 w) w fun t_43 w =>
    gate (some (t_42, true)) (fun K => Calls prog 22 #[t_43] w (Ret K)) w fun t_44 w =>
    gate (some (t_42, true)) (fun K => K t_1 w) w fun t_45 w =>
    gate (some (t_42, true)) (fun K => Calls prog 22 #[t_45] w (Ret K)) w fun t_46 w =>
    gate (some (t_42, true)) (fun K => K t_12 w) w fun t_47 w =>
    gate (some (t_42, true)) (fun K => pvv prog (binOp .sub 3 t_46 t_47) w K) w fun t_48 w =>
    gate (some (t_42, true)) (fun K => pvv prog (oEq .eql 3 (.tmp 73) (.tmp 77) t_44 t_48) w K) w fun t_49 w =>
    pv prog (oPick t_42 t_49 (.bool false)) w fun t_50 w =>
    K t_50 w) [t_12] w))))
theorem B5_eq (l_p0 k_p1 : Value) (w : World) (K : Value → World → Prop) : denFn prog Try.f5 T5 [l_p0, k_p1] w K = B5 l_p0 k_p1 w K := by kernel_rfl
theorem c5 {l_p0 k_p1 : Value} {w : World} {K : Value → World → Prop} (h : B5 l_p0 k_p1 w K) : Calls prog 5 #[l_p0, k_p1] w (Ret K) :=
  denFn_calls Try.func5 T5_ok (Eq.mpr (B5_eq l_p0 k_p1 w K) h)

-- 29 (*holdfast/block.Disk).Cut
def T29 : Ann := (.seq .none (.seq (.block (.seq .none (.seq (.seq .none .none) (.seq .none (.seq (.seq .none .none) .none))))) (.seq .none (.seq (.seq .none (.block (.range .none (.block (.draw [(1, .pure), (3, .pure), (0, .load), (2, .load), (4, .load), (5, .eff), (6, .pure), (7, .eff)]))))) (.seq .none .none)))))
theorem T29_ok : chkFn prog Try.f29 T29 = true := by kernel_rfl
def B29 (d_p0 k_p1 : Value) (w : World) (K : Value → World → Prop) : Prop :=
  pvv prog (oEq .eql 25 (.tmp 10) (.const (.pointer none)) d_p0 (.pointer none)) w fun t_0 w =>
  cd t_0 (
    K (.tuple #[(.pointer none), (.int .i64 1)]) w) <|
  pvv prog (binOp .lss 3 k_p1 (.int .i64 0)) w fun t_1 w =>
  gate (some (t_1, false)) (fun K => K k_p1 w) w fun t_2 w =>
  gate (some (t_1, false)) (fun K => K d_p0 w) w fun t_3 w =>
  gate (some (t_1, false)) (fun K => pv prog (oNil t_3) w K) w fun t_4 w =>
  gate (some (t_1, false)) (fun K => pvv prog (Instr.fieldAt 79 t_4 1) w K) w fun t_5 w =>
  gate (some (t_1, false)) (fun K => ldv prog (Instr.loadAt 72 t_5) w K) w fun t_6 w =>
  gate (some (t_1, false)) (fun K => pv prog (oBi .len #[72] 3 #[false] #[t_6]) w K) w fun t_7 w =>
  gate (some (t_1, false)) (fun K => pvv prog (binOp .gtr 3 t_2 t_7) w K) w fun t_8 w =>
  pv prog (oPick t_1 (.bool true) t_8) w fun t_9 w =>
  cd t_9 (
    K (.tuple #[(.pointer none), (.int .i64 2)]) w) <|
  pv prog (oNil d_p0) w fun t_10 w =>
  pvv prog (Instr.fieldAt 79 t_10 0) w fun t_11 w =>
  ldv prog (Instr.loadAt 30 t_11) w fun t_12 w =>
  Calls prog 40 #[t_12] w (Ret fun t_13 w =>
  efv prog (Instr.alloc 30 true (.tuple #[])) w fun out_14 w =>
  efu prog (Instr.storeAt 30 out_14 t_13) w fun u_15 w =>
  pv prog (oNil d_p0) w fun t_16 w =>
  pvv prog (Instr.fieldAt 79 t_16 1) w fun t_17 w =>
  ldv prog (Instr.loadAt 72 t_17) w fun t_18 w =>
  pvv prog (Instr.sliceAt 72 t_18 (some k_p1) none none) w fun t_19 w =>
  Calls prog 46 #[t_19] w (Ret fun t_20 w =>
  rng prog 2 t_20 (fun σ w bg_23 ex_24 => pop σ fun t_21 σ => pop σ fun t_22 σ => fin σ <|
    efv prog (Instr.alloc 81 true (.tuple #[])) w fun w_25 w =>
    efu prog (Instr.storeAt 81 w_25 t_22) w fun u_26 w =>
    bg_23 w fun w =>
    dr w fun w =>
    pvv prog (Instr.fieldAt 81 w_25 0) w fun t_27 w =>
    pvv prog (Instr.fieldAt 81 w_25 1) w fun t_28 w =>
    ldv prog (Instr.loadAt 30 out_14) w fun t_29 w =>
    ldv prog (Instr.loadAt 3 t_27) w fun t_30 w =>
    ldv prog (Instr.loadAt 32 t_28) w fun t_31 w =>
    Calls prog 42 #[t_31] w (Ret fun t_32 w => stv prog none (Instr.loadAt 3 t_27) t_30 w <| stv prog none (Instr.loadAt 30 out_14) t_29 w <| 
    pvv prog (Instr.indexAt 30 t_29 t_30) w fun t_33 w =>
    efu prog (Instr.storeAt 32 t_33 t_32) w fun u_34 w =>
    ex_24 .normal w)) w fun p_38 D_37 w =>
  jump (
    ldv prog (Instr.loadAt 30 out_14) w fun t_39 w =>
    pvv prog (Instr.build 79 #[(0, t_39)]) w fun t_40 w =>
    efv prog (Instr.box 79 t_40) w fun t_41 w =>
    und [D_37] w fun w => K (.tuple #[t_41, (.int .i64 0)]) w) (
    und [D_37] w fun w => K (.tuple #[(.pointer none), (.int .i64 0)]) w) [] p_38))
theorem B29_eq (d_p0 k_p1 : Value) (w : World) (K : Value → World → Prop) : denFn prog Try.f29 T29 [d_p0, k_p1] w K = B29 d_p0 k_p1 w K := by kernel_rfl
theorem c29 {d_p0 k_p1 : Value} {w : World} {K : Value → World → Prop} (h : B29 d_p0 k_p1 w K) : Calls prog 29 #[d_p0, k_p1] w (Ret K) :=
  denFn_calls Try.func29 T29_ok (Eq.mpr (B29_eq d_p0 k_p1 w K) h)

-- 45 (*holdfast/holdfastref01.Disk).at
def T45 : Ann := (.seq .none (.seq .none (.seq (.seq .none (.block (.loop 68719472704 [6] (.seq (.seq .none (.seq .none .none)) (.seq (.block (.draw [(0, .pure), (1, .pure), (2, .pure), (3, .pure), (5, .pure), (9, .pure), (10, .pure), (11, .pure), (13, .pure), (4, .load), (6, .pure), (7, .pure), (8, .load), (12, .load), (14, .pure), (15, .pure), (16, .load), (17, .eff), (18, .pure), (19, .eff)])) .none))))) (.seq .none .none))))
theorem T45_ok : chkFn prog Try.f45 T45 = true := by kernel_rfl
def B45 (d_p0 k_p1 : Value) (w : World) (K : Value → World → Prop) : Prop :=
  pv prog (oNil d_p0) w fun t_0 w =>
  pvv prog (Instr.fieldAt 50 t_0 0) w fun t_1 w =>
  ldv prog (Instr.loadAt 30 t_1) w fun t_2 w =>
  Calls prog 51 #[t_2] w (Ret fun t_3 w =>
  lp (fun σ w again_5 => pop σ fun i_4 σ => fin σ <|
    pvv prog (binOp .lss 3 i_4 k_p1) w fun t_6 w =>
    cd t_6 (
      dr w fun w =>
      pv prog (oNil d_p0) w fun t_7 w =>
      pvv prog (Instr.fieldAt 50 t_7 1) w fun t_8 w =>
      pv prog (oNil d_p0) w fun t_9 w =>
      pvv prog (Instr.fieldAt 50 t_9 1) w fun t_10 w =>
      ldv prog (Instr.loadAt 48 t_8) w fun t_11 w =>
      pvv prog (Instr.indexAt 48 t_11 i_4) w fun t_12 w =>
      pvv prog (Instr.fieldAt 52 t_12 0) w fun t_13 w =>
      ldv prog (Instr.loadAt 3 t_13) w fun t_14 w =>
      ldv prog (Instr.loadAt 48 t_10) w fun t_15 w =>
      pvv prog (Instr.indexAt 48 t_15 i_4) w fun t_16 w =>
      pvv prog (Instr.fieldAt 52 t_16 1) w fun t_17 w =>
      ldv prog (Instr.loadAt 32 t_17) w fun t_18 w =>
      Calls prog 43 #[t_18] w (Ret fun t_19 w => stv prog none (Instr.loadAt 48 t_10) t_15 w <| stv prog none (Instr.loadAt 3 t_13) t_14 w <| stv prog none (Instr.loadAt 48 t_8) t_11 w <| 
      pvv prog (Instr.indexAt 30 t_3 t_14) w fun t_20 w =>
      efu prog (Instr.storeAt 32 t_20 t_19) w fun u_21 w =>
      pvv prog (binOp .add 3 i_4 (.int .i64 1)) w fun t_22 w =>
      again_5 [t_22] w)) <|
    K t_3 w) [(.int .i64 0)] w)
theorem B45_eq (d_p0 k_p1 : Value) (w : World) (K : Value → World → Prop) : denFn prog Try.f45 T45 [d_p0, k_p1] w K = B45 d_p0 k_p1 w K := by kernel_rfl
theorem c45 {d_p0 k_p1 : Value} {w : World} {K : Value → World → Prop} (h : B45 d_p0 k_p1 w K) : Calls prog 45 #[d_p0, k_p1] w (Ret K) :=
  denFn_calls Try.func45 T45_ok (Eq.mpr (B45_eq d_p0 k_p1 w K) h)

-- 26 (*holdfast/holdfastref01.Disk).Writes
def T26 : Ann := (.seq .none (.seq .none (.seq (.seq .none (.block (.loop 536870904 [3, 4] (.seq (.seq .none (.seq .none .none)) (.seq (.block .none) .none))))) (.seq .none .none))))
theorem T26_ok : chkFn prog Try.f26 T26 = true := by kernel_rfl
def B26 (d_p0 : Value) (w : World) (K : Value → World → Prop) : Prop :=
  lp (fun σ w again_2 => pop σ fun out_0 σ => pop σ fun i_1 σ => fin σ <|
    pvv prog (oEq .neq 26 (.tmp 5) (.const (.pointer none)) d_p0 (.pointer none)) w fun t_3 w =>
    gate (some (t_3, true)) (fun K => K i_1 w) w fun t_4 w =>
    gate (some (t_3, true)) (fun K => K d_p0 w) w fun t_5 w =>
    gate (some (t_3, true)) (fun K => pv prog (oNil t_5) w K) w fun t_6 w =>
    gate (some (t_3, true)) (fun K => pvv prog (Instr.fieldAt 50 t_6 1) w K) w fun t_7 w =>
    gate (some (t_3, true)) (fun K => ldv prog (Instr.loadAt 48 t_7) w K) w fun t_8 w =>
    gate (some (t_3, true)) (fun K => pv prog (oBi .len #[48] 3 #[false] #[t_8]) w K) w fun t_9 w =>
    gate (some (t_3, true)) (fun K => pvv prog (binOp .lss 3 t_4 t_9) w K) w fun t_10 w =>
    pv prog (oPick t_3 t_10 (.bool false)) w fun t_11 w =>
    cd t_11 (
      pv prog (oNil d_p0) w fun t_12 w =>
      pvv prog (Instr.fieldAt 50 t_12 1) w fun t_13 w =>
      ldv prog (Instr.loadAt 48 t_13) w fun t_14 w =>
      pvv prog (Instr.indexAt 48 t_14 i_1) w fun t_15 w =>
      pvv prog (Instr.fieldAt 52 t_15 0) w fun t_16 w =>
      ldv prog (Instr.loadAt 3 t_16) w fun t_17 w =>
      efv prog (Instr.buildSlice 42 1 #[(0, t_17)]) w fun t_18 w =>
      ef prog (oBi .append #[42, 42] 42 #[false, false] #[out_0, t_18]) w fun t_19 w =>
      pvv prog (binOp .add 3 i_1 (.int .i64 1)) w fun t_20 w =>
      again_2 [t_19, t_20] w) <|
    K out_0 w) [(.slice none 0 0), (.int .i64 0)] w
theorem B26_eq (d_p0 : Value) (w : World) (K : Value → World → Prop) : denFn prog Try.f26 T26 [d_p0] w K = B26 d_p0 w K := by kernel_rfl
theorem c26 {d_p0 : Value} {w : World} {K : Value → World → Prop} (h : B26 d_p0 w K) : Calls prog 26 #[d_p0] w (Ret K) :=
  denFn_calls Try.func26 T26_ok (Eq.mpr (B26_eq d_p0 w K) h)

-- 27 holdfast/holdfastref01.SameAll
def T27 : Ann := (.seq .none (.seq (.seq .none (.seq (.seq .none .none) .none)) (.seq (.seq .none (.block (.loop 134215728 [5] (.seq (.seq .none (.seq .none .none)) (.seq (.block (.seq (.draw [(0, .pure), (1, .pure), (2, .pure), (4, .pure), (5, .pure), (6, .pure), (3, .load), (7, .load), (8, .eff), (9, .pure)]) (.seq (.seq .none .none) .none))) .none))))) (.seq .none .none))))
theorem T27_ok : chkFn prog Try.f27 T27 = true := by kernel_rfl
def B27 (a_p0 b_p1 : Value) (w : World) (K : Value → World → Prop) : Prop :=
  pv prog (oBi .len #[30] 3 #[false] #[a_p0]) w fun t_0 w =>
  pv prog (oBi .len #[30] 3 #[false] #[b_p1]) w fun t_1 w =>
  pvv prog (oEq .neq 3 (.tmp 7) (.tmp 9) t_0 t_1) w fun t_2 w =>
  cd t_2 (
    K (.bool false) w) <|
  lp (fun σ w again_4 => pop σ fun i_3 σ => fin σ <|
    pv prog (oBi .len #[30] 3 #[false] #[a_p0]) w fun t_5 w =>
    pvv prog (binOp .lss 3 i_3 t_5) w fun t_6 w =>
    cd t_6 (
      dr w fun w =>
      pvv prog (Instr.indexAt 30 a_p0 i_3) w fun t_7 w =>
      pvv prog (Instr.indexAt 30 b_p1 i_3) w fun t_8 w =>
      ldv prog (Instr.loadAt 32 t_7) w fun t_9 w =>
      ldv prog (Instr.loadAt 32 t_8) w fun t_10 w =>
      Calls prog 17 #[t_9, t_10] w (Ret fun t_11 w =>
      pvv prog (Op.unary .not t_11) w fun t_12 w =>
      cd t_12 (
        K (.bool false) w) <|
      pvv prog (binOp .add 3 i_3 (.int .i64 1)) w fun t_13 w =>
      again_4 [t_13] w)) <|
    K (.bool true) w) [(.int .i64 0)] w
theorem B27_eq (a_p0 b_p1 : Value) (w : World) (K : Value → World → Prop) : denFn prog Try.f27 T27 [a_p0, b_p1] w K = B27 a_p0 b_p1 w K := by kernel_rfl
theorem c27 {a_p0 b_p1 : Value} {w : World} {K : Value → World → Prop} (h : B27 a_p0 b_p1 w K) : Calls prog 27 #[a_p0, b_p1] w (Ret K) :=
  denFn_calls Try.func27 T27_ok (Eq.mpr (B27_eq a_p0 b_p1 w K) h)

-- 24 holdfast/holdfastref01.SameInts
def T24 : Ann := (.seq .none (.seq (.seq .none (.seq (.seq .none .none) .none)) (.seq (.seq .none (.block (.loop 67106864 [5] (.seq (.seq .none (.seq .none .none)) (.seq (.block (.seq (.draw [(0, .pure), (1, .pure), (2, .pure), (4, .pure), (5, .pure), (6, .pure), (3, .load), (7, .load), (8, .pure)]) (.seq (.seq .none .none) .none))) .none))))) (.seq .none .none))))
theorem T24_ok : chkFn prog Try.f24 T24 = true := by kernel_rfl
def B24 (a_p0 b_p1 : Value) (w : World) (K : Value → World → Prop) : Prop :=
  pv prog (oBi .len #[42] 3 #[false] #[a_p0]) w fun t_0 w =>
  pv prog (oBi .len #[42] 3 #[false] #[b_p1]) w fun t_1 w =>
  pvv prog (oEq .neq 3 (.tmp 7) (.tmp 9) t_0 t_1) w fun t_2 w =>
  cd t_2 (
    K (.bool false) w) <|
  lp (fun σ w again_4 => pop σ fun i_3 σ => fin σ <|
    pv prog (oBi .len #[42] 3 #[false] #[a_p0]) w fun t_5 w =>
    pvv prog (binOp .lss 3 i_3 t_5) w fun t_6 w =>
    cd t_6 (
      dr w fun w =>
      pvv prog (Instr.indexAt 42 a_p0 i_3) w fun t_7 w =>
      pvv prog (Instr.indexAt 42 b_p1 i_3) w fun t_8 w =>
      ldv prog (Instr.loadAt 3 t_7) w fun t_9 w =>
      ldv prog (Instr.loadAt 3 t_8) w fun t_10 w =>
      pvv prog (oEq .neq 3 (.tmp 20) (.tmp 24) t_9 t_10) w fun t_11 w =>
      cd t_11 (
        K (.bool false) w) <|
      pvv prog (binOp .add 3 i_3 (.int .i64 1)) w fun t_12 w =>
      again_4 [t_12] w) <|
    K (.bool true) w) [(.int .i64 0)] w
theorem B24_eq (a_p0 b_p1 : Value) (w : World) (K : Value → World → Prop) : denFn prog Try.f24 T24 [a_p0, b_p1] w K = B24 a_p0 b_p1 w K := by kernel_rfl
theorem c24 {a_p0 b_p1 : Value} {w : World} {K : Value → World → Prop} (h : B24 a_p0 b_p1 w K) : Calls prog 24 #[a_p0, b_p1] w (Ret K) :=
  denFn_calls Try.func24 T24_ok (Eq.mpr (B24_eq a_p0 b_p1 w K) h)

-- 57 slices.Backward[[]holdfast/block.write,holdfast/block.write]$1
def T57 : Ann := (.seq .none (.block (.loop 524168 [3] (.seq (.seq .none (.seq .none .none)) (.seq (.block (.seq .none (.seq .none .none))) .none)))))
theorem T57_ok : chkFn prog Try.f57 T57 = true := by kernel_rfl
def B57 (yield_p0 x_p1 : Value) (w : World) (K : Value → World → Prop) : Prop :=
  ldv prog (Instr.loadAt 72 x_p1) w fun t_0 w =>
  pv prog (oBi .len #[72] 3 #[false] #[t_0]) w fun t_1 w =>
  pvv prog (binOp .sub 3 t_1 (.int .i64 1)) w fun t_2 w =>
  lp (fun σ w again_4 => pop σ fun i_3 σ => fin σ <|
    pvv prog (binOp .geq 3 i_3 (.int .i64 0)) w fun t_5 w =>
    cd t_5 (
      ldv prog (Instr.loadAt 72 x_p1) w fun t_6 w =>
      pvv prog (Instr.indexAt 72 t_6 i_3) w fun t_7 w =>
      ldv prog (Instr.loadAt 81 t_7) w fun t_8 w =>
      ef prog (oCall yield_p0 #[i_3, t_8]) w fun t_9 w =>
      pvv prog (Op.unary .not t_9) w fun t_10 w =>
      cd t_10 (
        K (.tuple #[]) w) <|
      pvv prog (binOp .sub 3 i_3 (.int .i64 1)) w fun t_11 w =>
      again_4 [t_11] w) <|
    K (.tuple #[]) w) [t_2] w
theorem B57_eq (yield_p0 x_p1 : Value) (w : World) (K : Value → World → Prop) : denFn prog Try.f57 T57 [yield_p0, x_p1] w K = B57 yield_p0 x_p1 w K := by kernel_rfl
theorem c57 {yield_p0 x_p1 : Value} {w : World} {K : Value → World → Prop} (h : B57 yield_p0 x_p1 w K) : Calls prog 57 #[yield_p0, x_p1] w (Ret K) :=
  denFn_calls Try.func57 T57_ok (Eq.mpr (B57_eq yield_p0 x_p1 w K) h)

-- 28 (*holdfast/holdfastref01.Disk).Image
def T28 : Ann := (.seq .none (.seq (.seq .none (.seq (.seq .none .none) .none)) (.seq .none .none)))
theorem T28_ok : chkFn prog Try.f28 T28 = true := by kernel_rfl
def B28 (d_p0 : Value) (w : World) (K : Value → World → Prop) : Prop :=
  pvv prog (oEq .eql 26 (.tmp 3) (.const (.pointer none)) d_p0 (.pointer none)) w fun t_0 w =>
  cd t_0 (
    K (.slice none 0 0) w) <|
  pv prog (oNil d_p0) w fun t_1 w =>
  pvv prog (Instr.fieldAt 50 t_1 1) w fun t_2 w =>
  ldv prog (Instr.loadAt 48 t_2) w fun t_3 w =>
  pv prog (oBi .len #[48] 3 #[false] #[t_3]) w fun t_4 w =>
  Calls prog 45 #[d_p0, t_4] w (Ret fun t_5 w =>
  K t_5 w)
theorem B28_eq (d_p0 : Value) (w : World) (K : Value → World → Prop) : denFn prog Try.f28 T28 [d_p0] w K = B28 d_p0 w K := by kernel_rfl
theorem c28 {d_p0 : Value} {w : World} {K : Value → World → Prop} (h : B28 d_p0 w K) : Calls prog 28 #[d_p0] w (Ret K) :=
  denFn_calls Try.func28 T28_ok (Eq.mpr (B28_eq d_p0 w K) h)

-- 23 (*holdfast/holdfastref01.Disk).Count
def T23 : Ann := (.seq .none (.seq (.seq .none (.seq (.seq .none .none) .none)) (.seq .none .none)))
theorem T23_ok : chkFn prog Try.f23 T23 = true := by kernel_rfl
def B23 (d_p0 : Value) (w : World) (K : Value → World → Prop) : Prop :=
  pvv prog (oEq .eql 26 (.tmp 3) (.const (.pointer none)) d_p0 (.pointer none)) w fun t_0 w =>
  cd t_0 (
    K (.int .i64 0) w) <|
  pv prog (oNil d_p0) w fun t_1 w =>
  pvv prog (Instr.fieldAt 50 t_1 1) w fun t_2 w =>
  ldv prog (Instr.loadAt 48 t_2) w fun t_3 w =>
  pv prog (oBi .len #[48] 3 #[false] #[t_3]) w fun t_4 w =>
  K t_4 w
theorem B23_eq (d_p0 : Value) (w : World) (K : Value → World → Prop) : denFn prog Try.f23 T23 [d_p0] w K = B23 d_p0 w K := by kernel_rfl
theorem c23 {d_p0 : Value} {w : World} {K : Value → World → Prop} (h : B23 d_p0 w K) : Calls prog 23 #[d_p0] w (Ret K) :=
  denFn_calls Try.func23 T23_ok (Eq.mpr (B23_eq d_p0 w K) h)

-- 22 (*holdfast/block.Disk).Count
def T22 : Ann := (.seq .none (.seq (.seq .none (.seq (.seq .none .none) .none)) (.seq .none .none)))
theorem T22_ok : chkFn prog Try.f22 T22 = true := by kernel_rfl
def B22 (d_p0 : Value) (w : World) (K : Value → World → Prop) : Prop :=
  pvv prog (oEq .eql 25 (.tmp 3) (.const (.pointer none)) d_p0 (.pointer none)) w fun t_0 w =>
  cd t_0 (
    K (.int .i64 0) w) <|
  pv prog (oNil d_p0) w fun t_1 w =>
  pvv prog (Instr.fieldAt 79 t_1 2) w fun t_2 w =>
  Calls prog 44 #[t_2] w (Ret fun t_3 w =>
  K t_3 w)
theorem B22_eq (d_p0 : Value) (w : World) (K : Value → World → Prop) : denFn prog Try.f22 T22 [d_p0] w K = B22 d_p0 w K := by kernel_rfl
theorem c22 {d_p0 : Value} {w : World} {K : Value → World → Prop} (h : B22 d_p0 w K) : Calls prog 22 #[d_p0] w (Ret K) :=
  denFn_calls Try.func22 T22_ok (Eq.mpr (B22_eq d_p0 w K) h)

-- 54 (*sync/atomic.Int64).Store
def T54 : Ann := .none
theorem T54_ok : chkFn prog Try.f54 T54 = true := by kernel_rfl
def B54 (x_p0 val_p1 : Value) (w : World) (K : Value → World → Prop) : Prop :=
  pv prog (oNil x_p0) w fun t_0 w =>
  pvv prog (Instr.fieldAt 77 t_0 2) w fun t_1 w =>
  ef prog (oCall (.func (.func 59) #[] #[]) #[t_1, val_p1]) w fun t_2 w =>
  K (.tuple #[]) w
theorem B54_eq (x_p0 val_p1 : Value) (w : World) (K : Value → World → Prop) : denFn prog Try.f54 T54 [x_p0, val_p1] w K = B54 x_p0 val_p1 w K := by kernel_rfl
theorem c54 {x_p0 val_p1 : Value} {w : World} {K : Value → World → Prop} (h : B54 x_p0 val_p1 w K) : Calls prog 54 #[x_p0, val_p1] w (Ret K) :=
  denFn_calls Try.func54 T54_ok (Eq.mpr (B54_eq x_p0 val_p1 w K) h)

-- 46 slices.Backward[[]holdfast/block.write,holdfast/block.write]
def T46 : Ann := (.seq .none (.seq .none .none))
theorem T46_ok : chkFn prog Try.f46 T46 = true := by kernel_rfl
def B46 (s_p0 : Value) (w : World) (K : Value → World → Prop) : Prop :=
  efv prog (Instr.box 72 s_p0) w fun s_0 w =>
  pvv prog (Instr.makeFunc (.func 57) #[] #[s_0]) w fun t_1 w =>
  K t_1 w
theorem B46_eq (s_p0 : Value) (w : World) (K : Value → World → Prop) : denFn prog Try.f46 T46 [s_p0] w K = B46 s_p0 w K := by kernel_rfl
theorem c46 {s_p0 : Value} {w : World} {K : Value → World → Prop} (h : B46 s_p0 w K) : Calls prog 46 #[s_p0] w (Ret K) :=
  denFn_calls Try.func46 T46_ok (Eq.mpr (B46_eq s_p0 w K) h)


end Go.Proofs.Yteplajobjlehlaa
