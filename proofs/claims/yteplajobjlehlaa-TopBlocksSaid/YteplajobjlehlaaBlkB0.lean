import Derived.Test.YteplajobjlehlaaBlkI
set_option linter.all false
set_option maxRecDepth 100000
namespace Go.Proofs.Yteplajobjlehlaa
open Go Hold
-- 11 holdfast/holdfasttop.TopBlocks
def T11 : Ann := (.seq .none (.seq .none (.seq .none (.seq (.seq .none (.seq (.seq .none .none) .none)) (.seq (.seq .none (.seq (.seq .none .none) .none)) (.seq .none (.seq .none (.seq (.seq .none (.block (.loop 9671406412801845321805824 [12] (.seq (.seq .none (.seq .none .none)) (.seq (.block (.seq .none (.seq .none .none))) .none))))) (.seq .none (.seq (.seq .none (.seq (.seq .none .none) .none)) (.seq .none (.seq .none (.seq .none (.seq .none (.seq (.seq .none (.seq (.seq .none .none) .none)) (.seq (.seq .none (.seq (.seq .none .none) .none)) (.seq (.seq .none (.seq (.seq .none .none) .none)) (.seq (.seq .none (.block (.loop 1427204136562994000934962657499743870055874624 [22] (.seq (.seq .none (.seq .none .none)) (.seq (.block (.seq (.draw [(0, .pure), (1, .pure), (2, .pure), (4, .pure), (5, .pure), (6, .pure), (3, .load), (7, .load), (8, .pure)]) (.seq (.seq .none .none) .none))) .none))))) (.seq .none .none)))))))))))))))))))
theorem T11_ok : chkFn prog Try.f11 T11 = true := by kernel_rfl
def B11 (columns_p0 others_p1 k_p2 : Value) (w : World) (K : Value → World → Prop) : Prop :=
  Calls prog 31 #[(.int .i64 4)] w (Ret fun t_0 w =>
  pvv prog (Instr.extract t_0 0) w fun t_1 w =>
  pvv prog (Instr.extract t_0 1) w fun t_2 w =>
  Calls prog 36 #[columns_p0] w (Ret fun t_3 w =>
  pvv prog (Instr.extract t_3 0) w fun t_4 w =>
  pvv prog (Instr.extract t_3 1) w fun t_5 w =>
  pvv prog (oEq .neq 34 (.tmp 32) (.const (.int .i64 0)) t_2 (.int .i64 0)) w fun t_6 w =>
  gate (some (t_6, false)) (fun K => K t_1 w) w fun t_7 w =>
  gate (some (t_6, false)) (fun K => pvv prog (oEq .eql 25 (.tmp 35) (.const (.pointer none)) t_7 (.pointer none)) w K) w fun t_8 w =>
  pv prog (oPick t_6 (.bool true) t_8) w fun t_9 w =>
  gate (some (t_9, false)) (fun K => K columns_p0 w) w fun t_10 w =>
  gate (some (t_9, false)) (fun K => pv prog (oBi .len #[65] 3 #[false] #[t_10]) w K) w fun t_11 w =>
  gate (some (t_9, false)) (fun K => pvv prog (oEq .eql 3 (.tmp 40) (.const (.int .i64 0)) t_11 (.int .i64 0)) w K) w fun t_12 w =>
  gate (some (t_9, false)) (fun K => K t_12 w) w fun t_13 w =>
  gate (some (t_13, true)) (fun K => K t_4 w) w fun t_14 w =>
  gate (some (t_13, true)) (fun K => pv prog (oBi .len #[32] 3 #[false] #[t_14]) w K) w fun t_15 w =>
  gate (some (t_13, true)) (fun K => pvv prog (oEq .neq 3 (.tmp 44) (.const (.int .i64 1)) t_15 (.int .i64 1)) w K) w fun t_16 w =>
  gate (some (t_9, false)) (fun K => pv prog (oPick t_13 t_16 (.bool false)) w K) w fun t_17 w =>
  pv prog (oPick t_9 (.bool true) t_17) w fun t_18 w =>
  cd t_18 (
    K (.bool false) w) <|
  pvv prog (oEq .neq 34 (.tmp 48) (.const (.int .i64 0)) t_5 (.int .i64 0)) w fun t_19 w =>
  cd t_19 (
    pv prog (oBi .len #[32] 3 #[false] #[t_4]) w fun t_20 w =>
    pvv prog (oEq .eql 3 (.tmp 51) (.const (.int .i64 0)) t_20 (.int .i64 0)) w fun t_21 w =>
    K t_21 w) <|
  efv prog (Instr.makeSlice 32 (.int .i64 256) (.int .i64 256)) w fun t_22 w =>
  ef prog (oBi .copy #[32, 32] 3 #[false, false] #[t_22, t_4]) w fun t_23 w =>
  lp (fun σ w again_25 => pop σ fun i_24 σ => fin σ <|
    pv prog (oBi .len #[32] 3 #[false] #[others_p1]) w fun t_26 w =>
    pvv prog (binOp .lss 3 i_24 t_26) w fun t_27 w =>
    gate (some (t_27, true)) (fun K => K i_24 w) w fun t_28 w =>
    gate (some (t_27, true)) (fun K => pvv prog (binOp .lss 3 t_28 (.int .i64 20)) w K) w fun t_29 w =>
    pv prog (oPick t_27 t_29 (.bool false)) w fun t_30 w =>
    cd t_30 (
      efv prog (Instr.makeSlice 32 (.int .i64 256) (.int .i64 256)) w fun t_31 w =>
      pvv prog (Instr.indexAt 32 others_p1 i_24) w fun t_32 w =>
      ldv prog (Instr.loadAt 5 t_32) w fun t_33 w =>
      pvv prog (Instr.indexAt 32 t_31 (.int .i64 0)) w fun t_34 w =>
      efu prog (Instr.storeAt 5 t_34 t_33) w fun u_35 w =>
      pvv prog (Instr.indexAt 32 others_p1 i_24) w fun t_36 w =>
      ldv prog (Instr.loadAt 5 t_36) w fun t_37 w =>
      pvv prog (convert 5 3 t_37) w fun t_38 w =>
      pvv prog (binOp .rem 3 t_38 (.int .i64 3)) w fun t_39 w =>
      Calls prog 16 #[t_1, t_39, t_31] w (Ret fun t_40 w =>
      pvv prog (binOp .add 3 i_24 (.int .i64 1)) w fun t_41 w =>
      again_25 [t_41] w)) <|
    Calls prog 22 #[t_1] w (Ret fun t_42 w =>
    Calls prog 16 #[t_1, (.int .i64 3), t_22] w (Ret fun t_43 w =>
    pvv prog (oEq .neq 34 (.tmp 87) (.const (.int .i64 0)) t_43 (.int .i64 0)) w fun t_44 w =>
    cd t_44 (
      K (.bool false) w) <|
    pvv prog (convert 5 3 k_p2) w fun t_45 w =>
    Calls prog 22 #[t_1] w (Ret fun t_46 w =>
    pvv prog (binOp .add 3 t_46 (.int .i64 1)) w fun t_47 w =>
    pvv prog (binOp .rem 3 t_45 t_47) w fun t_48 w =>
    Calls prog 29 #[t_1, t_48] w (Ret fun t_49 w =>
    pvv prog (Instr.extract t_49 0) w fun t_50 w =>
    pvv prog (Instr.extract t_49 1) w fun t_51 w =>
    Calls prog 18 #[t_50, (.int .i64 3)] w (Ret fun t_52 w =>
    pvv prog (Instr.extract t_52 0) w fun t_53 w =>
    pvv prog (Instr.extract t_52 1) w fun t_54 w =>
    pv prog (oBi .len #[32] 3 #[false] #[t_4]) w fun t_55 w =>
    pv prog (oBi .len #[32] 3 #[false] #[t_53]) w fun t_56 w =>
    pv prog (oBi .min #[3, 3] 3 #[false, false] #[t_55, t_56]) w fun t_57 w =>
    pvv prog (Instr.sliceAt 32 t_53 none (some t_57) none) w fun t_58 w =>
    Calls prog 37 #[t_58] w (Ret fun t_59 w =>
    pvv prog (Instr.extract t_59 0) w fun t_60 w =>
    pvv prog (Instr.extract t_59 1) w fun t_61 w =>
    pvv prog (oEq .neq 34 (.tmp 117) (.const (.int .i64 0)) t_54 (.int .i64 0)) w fun t_62 w =>
    cd t_62 (
      K (.bool false) w) <|
    pvv prog (binOp .leq 3 t_48 t_42) w fun t_63 w =>
    cd t_63 (
      pvv prog (Instr.indexAt 32 t_53 (.int .i64 0)) w fun t_64 w =>
      ldv prog (Instr.loadAt 5 t_64) w fun t_65 w =>
      pvv prog (oEq .eql 5 (.tmp 124) (.const (.int .u8 0)) t_65 (.int .u8 0)) w fun t_66 w =>
      K t_66 w) <|
    pvv prog (oEq .neq 34 (.tmp 126) (.const (.int .i64 0)) t_61 (.int .i64 0)) w fun t_67 w =>
    gate (some (t_67, false)) (fun K => K t_60 w) w fun t_68 w =>
    gate (some (t_67, false)) (fun K => pv prog (oBi .len #[65] 3 #[false] #[t_68]) w K) w fun t_69 w =>
    gate (some (t_67, false)) (fun K => K columns_p0 w) w fun t_70 w =>
    gate (some (t_67, false)) (fun K => pv prog (oBi .len #[65] 3 #[false] #[t_70]) w K) w fun t_71 w =>
    gate (some (t_67, false)) (fun K => pvv prog (oEq .neq 3 (.tmp 130) (.tmp 132) t_69 t_71) w K) w fun t_72 w =>
    pv prog (oPick t_67 (.bool true) t_72) w fun t_73 w =>
    cd t_73 (
      K (.bool false) w) <|
    lp (fun σ w again_75 => pop σ fun i_74 σ => fin σ <|
      pv prog (oBi .len #[65] 3 #[false] #[t_60]) w fun t_76 w =>
      pvv prog (binOp .lss 3 i_74 t_76) w fun t_77 w =>
      cd t_77 (
        dr w fun w =>
        pvv prog (Instr.indexAt 65 t_60 i_74) w fun t_78 w =>
        pvv prog (Instr.indexAt 65 columns_p0 i_74) w fun t_79 w =>
        ldv prog (Instr.loadAt 9 t_78) w fun t_80 w =>
        ldv prog (Instr.loadAt 9 t_79) w fun t_81 w =>
        pvv prog (oEq .neq 9 (.tmp 144) (.tmp 148) t_80 t_81) w fun t_82 w =>
        cd t_82 (
          K (.bool false) w) <|
        pvv prog (binOp .add 3 i_74 (.int .i64 1)) w fun t_83 w =>
        again_75 [t_83] w) <|
      K (.bool true) w) [(.int .i64 0)] w))))))) [(.int .i64 0)] w))
theorem B11_eq (columns_p0 others_p1 k_p2 : Value) (w : World) (K : Value → World → Prop) : denFn prog Try.f11 T11 [columns_p0, others_p1, k_p2] w K = B11 columns_p0 others_p1 k_p2 w K := by kernel_rfl
theorem c11 {columns_p0 others_p1 k_p2 : Value} {w : World} {K : Value → World → Prop} (h : B11 columns_p0 others_p1 k_p2 w K) : Calls prog 11 #[columns_p0, others_p1, k_p2] w (Ret K) :=
  denFn_calls Try.func11 T11_ok (Eq.mpr (B11_eq columns_p0 others_p1 k_p2 w K) h)

-- 4 holdfast/holdfastlaw01.BlockPlays
def T4 : Ann := (.seq .none (.meet 8372225 [0] (.seq .none (.seq .none .none)) (.seq .none (.seq (.seq .none (.seq (.seq .none .none) .none)) (.seq .none (.seq .none (.seq .none .none)))))))
theorem T4_ok : chkFn prog Try.f4 T4 = true := by kernel_rfl
def B4 (blocks_p0 l_p1 n_p2 : Value) (w : World) (K : Value → World → Prop) : Prop :=
  jn (fun σ w => pop σ fun blocks_0 σ => fin σ <|
    Calls prog 12 #[blocks_0, l_p1] w (Ret fun t_1 w =>
    pvv prog (Instr.extract t_1 0) w fun t_2 w =>
    pvv prog (Instr.extract t_1 1) w fun t_3 w =>
    pvv prog (Instr.extract t_1 2) w fun t_4 w =>
    Calls prog 13 #[] w (Ret fun t_5 w =>
    pvv prog (Op.unary .not t_5) w fun t_6 w =>
    gate (some (t_6, false)) (fun K => K t_4 w) w fun t_7 w =>
    gate (some (t_6, false)) (fun K => pvv prog (Op.unary .not t_7) w K) w fun t_8 w =>
    pv prog (oPick t_6 (.bool true) t_8) w fun t_9 w =>
    cd t_9 (
      K (.bool false) w) <|
    Calls prog 18 #[t_2, n_p2] w (Ret fun t_10 w =>
    pvv prog (Instr.extract t_10 0) w fun t_11 w =>
    pvv prog (Instr.extract t_10 1) w fun t_12 w =>
    Calls prog 19 #[t_3, n_p2] w (Ret fun t_13 w =>
    pvv prog (Instr.extract t_13 0) w fun t_14 w =>
    pvv prog (Instr.extract t_13 1) w fun t_15 w =>
    Calls prog 17 #[t_11, t_14] w (Ret fun t_16 w =>
    gate (some (t_16, true)) (fun K => K t_12 w) w fun t_17 w =>
    gate (some (t_16, true)) (fun K => K t_15 w) w fun t_18 w =>
    gate (some (t_16, true)) (fun K => pvv prog (oEq .eql 34 (.tmp 52) (.tmp 53) t_17 t_18) w K) w fun t_19 w =>
    pv prog (oPick t_16 t_19 (.bool false)) w fun t_20 w =>
    gate (some (t_20, true)) (fun K => K t_2 w) w fun t_21 w =>
    gate (some (t_20, true)) (fun K => Calls prog 20 #[t_21] w (Ret K)) w fun t_22 w =>
    gate (some (t_20, true)) (fun K => K t_3 w) w fun t_23 w =>
    gate (some (t_20, true)) (fun K => Calls prog 21 #[t_23] w (Ret K)) w fun t_24 w =>
    gate (some (t_20, true)) (fun K => pvv prog (oEq .eql 3 (.tmp 58) (.tmp 60) t_22 t_24) w K) w fun t_25 w =>
    pv prog (oPick t_20 t_25 (.bool false)) w fun t_26 w =>
    gate (some (t_26, true)) (fun K => K t_2 w) w fun t_27 w =>
    gate (some (t_26, true)) (fun K => Calls prog 22 #[t_27] w (Ret K)) w fun t_28 w =>
    gate (some (t_26, true)) (fun K => K t_3 w) w fun t_29 w =>
    gate (some (t_26, true)) (fun K => Calls prog 23 #[t_29] w (Ret K)) w fun t_30 w =>
    gate (some (t_26, true)) (fun K => pvv prog (oEq .eql 3 (.tmp 65) (.tmp 67) t_28 t_30) w K) w fun t_31 w =>
    pv prog (oPick t_26 t_31 (.bool false)) w fun t_32 w =>
    gate (some (t_32, true)) (fun K => K t_2 w) w fun t_33 w =>
    gate (some (t_32, true)) (fun K => Calls prog 25 #[t_33] w (Ret K)) w fun t_34 w =>
    gate (some (t_32, true)) (fun K => K t_3 w) w fun t_35 w =>
    gate (some (t_32, true)) (fun K => Calls prog 26 #[t_35] w (Ret K)) w fun t_36 w =>
    gate (some (t_32, true)) (fun K => Calls prog 24 #[t_34, t_36] w (Ret K)) w fun t_37 w =>
    pv prog (oPick t_32 t_37 (.bool false)) w fun t_38 w =>
    gate (some (t_38, true)) (fun K => K t_2 w) w fun t_39 w =>
    gate (some (t_38, true)) (fun K => Calls prog 14 #[t_39] w (Ret K)) w fun t_40 w =>
    gate (some (t_38, true)) (fun K => K t_3 w) w fun t_41 w =>
    gate (some (t_38, true)) (fun K => Calls prog 28 #[t_41] w (Ret K)) w fun t_42 w =>
    gate (some (t_38, true)) (fun K => Calls prog 27 #[t_40, t_42] w (Ret K)) w fun t_43 w =>
    pv prog (oPick t_38 t_43 (.bool false)) w fun t_44 w =>
    K t_44 w)))))) fun k_45 =>
  pvv prog (binOp .gtr 3 blocks_p0 (.int .i64 20)) w fun t_46 w =>
  gate (some (t_46, true)) (fun K => K blocks_p0 w) w fun t_47 w =>
  gate (some (t_46, true)) (fun K => pvv prog (binOp .leq 3 t_47 (.int .i64 1024)) w K) w fun t_48 w =>
  pv prog (oPick t_46 t_48 (.bool false)) w fun t_49 w =>
  cd t_49 (
    pvv prog (binOp .rem 3 blocks_p0 (.int .i64 20)) w fun t_50 w =>
    pvv prog (binOp .add 3 t_50 (.int .i64 1)) w fun t_51 w =>
    k_45 [t_51] w) <|
  k_45 [blocks_p0] w
theorem B4_eq (blocks_p0 l_p1 n_p2 : Value) (w : World) (K : Value → World → Prop) : denFn prog Try.f4 T4 [blocks_p0, l_p1, n_p2] w K = B4 blocks_p0 l_p1 n_p2 w K := by kernel_rfl
theorem c4 {blocks_p0 l_p1 n_p2 : Value} {w : World} {K : Value → World → Prop} (h : B4 blocks_p0 l_p1 n_p2 w K) : Calls prog 4 #[blocks_p0, l_p1, n_p2] w (Ret K) :=
  denFn_calls Try.func4 T4_ok (Eq.mpr (B4_eq blocks_p0 l_p1 n_p2 w K) h)

-- 16 (*holdfast/block.Disk).Write
def T16 : Ann := (.seq .none (.seq (.block (.seq .none (.seq (.seq .none .none) (.seq .none (.seq (.seq .none .none) (.seq .none (.seq (.seq .none .none) .none))))))) (.seq (.draw [(0, .pure), (1, .pure), (2, .pure), (3, .pure), (5, .pure), (6, .pure), (7, .pure), (8, .pure), (10, .pure), (4, .load), (9, .load), (11, .pure), (12, .load), (13, .pure), (14, .eff), (15, .eff), (16, .pure), (17, .pure), (18, .eff)]) (.seq .none (.seq (.draw [(0, .pure), (1, .pure), (2, .pure), (4, .pure), (5, .pure), (3, .load), (6, .eff), (7, .pure), (8, .eff)]) (.seq .none .none))))))
theorem T16_ok : chkFn prog Try.f16 T16 = true := by kernel_rfl
def B16 (d_p0 n_p1 b_p2 : Value) (w : World) (K : Value → World → Prop) : Prop :=
  pvv prog (oEq .eql 25 (.tmp 8) (.const (.pointer none)) d_p0 (.pointer none)) w fun t_0 w =>
  cd t_0 (
    K (.int .i64 1) w) <|
  pvv prog (binOp .lss 3 n_p1 (.int .i64 0)) w fun t_1 w =>
  gate (some (t_1, false)) (fun K => K n_p1 w) w fun t_2 w =>
  gate (some (t_1, false)) (fun K => K d_p0 w) w fun t_3 w =>
  gate (some (t_1, false)) (fun K => pv prog (oNil t_3) w K) w fun t_4 w =>
  gate (some (t_1, false)) (fun K => pvv prog (Instr.fieldAt 79 t_4 0) w K) w fun t_5 w =>
  gate (some (t_1, false)) (fun K => ldv prog (Instr.loadAt 30 t_5) w K) w fun t_6 w =>
  gate (some (t_1, false)) (fun K => pv prog (oBi .len #[30] 3 #[false] #[t_6]) w K) w fun t_7 w =>
  gate (some (t_1, false)) (fun K => pvv prog (binOp .geq 3 t_2 t_7) w K) w fun t_8 w =>
  pv prog (oPick t_1 (.bool true) t_8) w fun t_9 w =>
  cd t_9 (
    K (.int .i64 2) w) <|
  pv prog (oBi .len #[32] 3 #[false] #[b_p2]) w fun t_10 w =>
  pvv prog (oEq .neq 3 (.tmp 24) (.const (.int .i64 256)) t_10 (.int .i64 256)) w fun t_11 w =>
  cd t_11 (
    K (.int .i64 3) w) <|
  dr w fun w =>
  pv prog (oNil d_p0) w fun t_12 w =>
  pvv prog (Instr.fieldAt 79 t_12 1) w fun t_13 w =>
  pv prog (oNil d_p0) w fun t_14 w =>
  pvv prog (Instr.fieldAt 79 t_14 0) w fun t_15 w =>
  ldv prog (Instr.loadAt 72 t_13) w fun t_16 w =>
  ldv prog (Instr.loadAt 30 t_15) w fun t_17 w =>
  pvv prog (Instr.indexAt 30 t_17 n_p1) w fun t_18 w =>
  ldv prog (Instr.loadAt 32 t_18) w fun t_19 w =>
  pvv prog (Instr.build 81 #[(0, n_p1), (1, t_19)]) w fun t_20 w =>
  efv prog (Instr.buildSlice 72 1 #[(0, t_20)]) w fun t_21 w => stv prog none (Instr.loadAt 32 t_18) t_19 w <| stv prog none (Instr.loadAt 30 t_15) t_17 w <| stv prog none (Instr.loadAt 72 t_13) t_16 w <| 
  ef prog (oBi .append #[72, 72] 72 #[false, false] #[t_16, t_21]) w fun t_22 w => stv prog none (Instr.loadAt 32 t_18) t_19 w <| stv prog none (Instr.loadAt 30 t_15) t_17 w <| 
  pv prog (oNil d_p0) w fun t_23 w =>
  pvv prog (Instr.fieldAt 79 t_23 1) w fun t_24 w =>
  efu prog (Instr.storeAt 72 t_24 t_22) w fun u_25 w =>
  pv prog (oNil d_p0) w fun t_26 w =>
  pvv prog (Instr.fieldAt 79 t_26 2) w fun t_27 w =>
  Calls prog 41 #[t_27, (.int .i64 1)] w (Ret fun t_28 w =>
  dr w fun w =>
  pv prog (oNil d_p0) w fun t_29 w =>
  pvv prog (Instr.fieldAt 79 t_29 0) w fun t_30 w =>
  ldv prog (Instr.loadAt 30 t_30) w fun t_31 w =>
  Calls prog 42 #[b_p2] w (Ret fun t_32 w => stv prog none (Instr.loadAt 30 t_30) t_31 w <| 
  pvv prog (Instr.indexAt 30 t_31 n_p1) w fun t_33 w =>
  efu prog (Instr.storeAt 32 t_33 t_32) w fun u_34 w =>
  K (.int .i64 0) w))
theorem B16_eq (d_p0 n_p1 b_p2 : Value) (w : World) (K : Value → World → Prop) : denFn prog Try.f16 T16 [d_p0, n_p1, b_p2] w K = B16 d_p0 n_p1 b_p2 w K := by kernel_rfl
theorem c16 {d_p0 n_p1 b_p2 : Value} {w : World} {K : Value → World → Prop} (h : B16 d_p0 n_p1 b_p2 w K) : Calls prog 16 #[d_p0, n_p1, b_p2] w (Ret K) :=
  denFn_calls Try.func16 T16_ok (Eq.mpr (B16_eq d_p0 n_p1 b_p2 w K) h)

-- 39 (*holdfast/holdfastref01.Disk).Write
def T39 : Ann := (.seq .none (.seq (.block (.seq .none (.seq (.seq .none .none) (.seq .none (.seq (.seq .none .none) (.seq .none (.seq (.seq .none .none) .none))))))) (.seq .none (.seq .none (.seq .none (.seq .none .none))))))
theorem T39_ok : chkFn prog Try.f39 T39 = true := by kernel_rfl
def B39 (d_p0 n_p1 b_p2 : Value) (w : World) (K : Value → World → Prop) : Prop :=
  pvv prog (oEq .eql 26 (.tmp 9) (.const (.pointer none)) d_p0 (.pointer none)) w fun t_0 w =>
  cd t_0 (
    K (.int .i64 1) w) <|
  pvv prog (binOp .lss 3 n_p1 (.int .i64 0)) w fun t_1 w =>
  gate (some (t_1, false)) (fun K => K n_p1 w) w fun t_2 w =>
  gate (some (t_1, false)) (fun K => K d_p0 w) w fun t_3 w =>
  gate (some (t_1, false)) (fun K => pv prog (oNil t_3) w K) w fun t_4 w =>
  gate (some (t_1, false)) (fun K => pvv prog (Instr.fieldAt 50 t_4 0) w K) w fun t_5 w =>
  gate (some (t_1, false)) (fun K => ldv prog (Instr.loadAt 30 t_5) w K) w fun t_6 w =>
  gate (some (t_1, false)) (fun K => pv prog (oBi .len #[30] 3 #[false] #[t_6]) w K) w fun t_7 w =>
  gate (some (t_1, false)) (fun K => pvv prog (binOp .geq 3 t_2 t_7) w K) w fun t_8 w =>
  pv prog (oPick t_1 (.bool true) t_8) w fun t_9 w =>
  cd t_9 (
    K (.int .i64 2) w) <|
  pv prog (oBi .len #[32] 3 #[false] #[b_p2]) w fun t_10 w =>
  pvv prog (oEq .neq 3 (.tmp 25) (.const (.int .i64 256)) t_10 (.int .i64 256)) w fun t_11 w =>
  cd t_11 (
    K (.int .i64 3) w) <|
  pv prog (oNil d_p0) w fun t_12 w =>
  pvv prog (Instr.fieldAt 50 t_12 1) w fun t_13 w =>
  ldv prog (Instr.loadAt 48 t_13) w fun t_14 w =>
  ef prog (oBi .append #[48, 48] 48 #[false, false] #[(.slice none 0 0), t_14]) w fun t_15 w =>
  Calls prog 43 #[b_p2] w (Ret fun t_16 w =>
  pvv prog (Instr.build 52 #[(0, n_p1), (1, t_16)]) w fun t_17 w =>
  efv prog (Instr.buildSlice 48 1 #[(0, t_17)]) w fun t_18 w =>
  ef prog (oBi .append #[48, 48] 48 #[false, false] #[t_15, t_18]) w fun t_19 w =>
  pv prog (oNil d_p0) w fun t_20 w =>
  pvv prog (Instr.fieldAt 50 t_20 1) w fun t_21 w =>
  efu prog (Instr.storeAt 48 t_21 t_19) w fun u_22 w =>
  K (.int .i64 0) w)
theorem B39_eq (d_p0 n_p1 b_p2 : Value) (w : World) (K : Value → World → Prop) : denFn prog Try.f39 T39 [d_p0, n_p1, b_p2] w K = B39 d_p0 n_p1 b_p2 w K := by kernel_rfl
theorem c39 {d_p0 n_p1 b_p2 : Value} {w : World} {K : Value → World → Prop} (h : B39 d_p0 n_p1 b_p2 w K) : Calls prog 39 #[d_p0, n_p1, b_p2] w (Ret K) :=
  denFn_calls Try.func39 T39_ok (Eq.mpr (B39_eq d_p0 n_p1 b_p2 w K) h)

-- 31 holdfast/block.New
def T31 : Ann := (.seq .none (.seq (.seq .none (.seq (.seq .none .none) .none)) (.seq .none (.seq (.seq .none (.block (.loop 4292870176 [21] (.seq .none (.seq (.seq .none .none) (.seq (.block (.seq .none (.draw [(0, .pure), (1, .pure), (2, .pure), (4, .pure), (3, .load), (5, .eff), (6, .pure), (7, .eff)]))) .none)))))) (.seq .none .none)))))
theorem T31_ok : chkFn prog Try.f31 T31 = true := by kernel_rfl
def B31 (blocks_p0 : Value) (w : World) (K : Value → World → Prop) : Prop :=
  pvv prog (binOp .lss 3 blocks_p0 (.int .i64 1)) w fun t_0 w =>
  gate (some (t_0, false)) (fun K => K blocks_p0 w) w fun t_1 w =>
  gate (some (t_0, false)) (fun K => pvv prog (binOp .gtr 3 t_1 (.int .i64 1024)) w K) w fun t_2 w =>
  pv prog (oPick t_0 (.bool true) t_2) w fun t_3 w =>
  cd t_3 (
    K (.tuple #[(.pointer none), (.int .i64 2)]) w) <|
  efv prog (Instr.makeSlice 30 blocks_p0 blocks_p0) w fun t_4 w =>
  pvv prog (Instr.build 79 #[(0, t_4)]) w fun t_5 w =>
  efv prog (Instr.box 79 t_5) w fun t_6 w =>
  pv prog (oNil t_6) w fun t_7 w =>
  pvv prog (Instr.fieldAt 79 t_7 0) w fun t_8 w =>
  ldv prog (Instr.loadAt 30 t_8) w fun t_9 w =>
  pv prog (oBi .len #[30] 3 #[false] #[t_9]) w fun t_10 w =>
  lp (fun σ w again_12 => pop σ fun t_11 σ => fin σ <|
    pvv prog (binOp .lss 3 t_11 t_10) w fun t_13 w =>
    cd t_13 (
      dr w fun w =>
      pv prog (oNil t_6) w fun t_14 w =>
      pvv prog (Instr.fieldAt 79 t_14 0) w fun t_15 w =>
      ldv prog (Instr.loadAt 30 t_15) w fun t_16 w =>
      efv prog (Instr.makeSlice 32 (.int .i64 256) (.int .i64 256)) w fun t_17 w => stv prog none (Instr.loadAt 30 t_15) t_16 w <| 
      pvv prog (Instr.indexAt 30 t_16 t_11) w fun t_18 w =>
      efu prog (Instr.storeAt 32 t_18 t_17) w fun u_19 w =>
      pvv prog (binOp .add 3 t_11 (.int .i64 1)) w fun t_20 w =>
      again_12 [t_20] w) <|
    K (.tuple #[t_6, (.int .i64 0)]) w) [(.int .i64 0)] w
theorem B31_eq (blocks_p0 : Value) (w : World) (K : Value → World → Prop) : denFn prog Try.f31 T31 [blocks_p0] w K = B31 blocks_p0 w K := by kernel_rfl
theorem c31 {blocks_p0 : Value} {w : World} {K : Value → World → Prop} (h : B31 blocks_p0 w K) : Calls prog 31 #[blocks_p0] w (Ret K) :=
  denFn_calls Try.func31 T31_ok (Eq.mpr (B31_eq blocks_p0 w K) h)

-- 35 (*holdfast/block.Disk).Fork
def T35 : Ann := (.seq .none (.seq (.seq .none (.seq (.seq .none .none) .none)) (.seq (.draw [(0, .pure), (1, .pure), (2, .pure), (5, .pure), (6, .pure), (7, .pure), (3, .load), (8, .load), (4, .eff), (9, .eff), (10, .pure), (11, .eff), (12, .pure)]) (.seq (.draw [(0, .pure), (1, .pure), (2, .pure), (3, .pure), (4, .pure), (5, .pure), (6, .eff), (7, .eff)]) (.seq .none .none)))))
theorem T35_ok : chkFn prog Try.f35 T35 = true := by kernel_rfl
def B35 (d_p0 : Value) (w : World) (K : Value → World → Prop) : Prop :=
  pvv prog (oEq .eql 25 (.tmp 4) (.const (.pointer none)) d_p0 (.pointer none)) w fun t_0 w =>
  cd t_0 (
    K (.pointer none) w) <|
  dr w fun w =>
  pv prog (oNil d_p0) w fun t_1 w =>
  pvv prog (Instr.fieldAt 79 t_1 0) w fun t_2 w =>
  pv prog (oNil d_p0) w fun t_3 w =>
  pvv prog (Instr.fieldAt 79 t_3 1) w fun t_4 w =>
  ldv prog (Instr.loadAt 30 t_2) w fun t_5 w =>
  ldv prog (Instr.loadAt 72 t_4) w fun t_6 w =>
  Calls prog 52 #[t_5] w (Ret fun t_7 w => stv prog none (Instr.loadAt 72 t_4) t_6 w <| 
  Calls prog 53 #[t_6] w (Ret fun t_8 w => stv prog none (Instr.loadAt 30 t_2) t_5 w <| 
  pvv prog (Instr.build 79 #[(0, t_7), (1, t_8)]) w fun t_9 w =>
  efv prog (Instr.box 79 t_9) w fun t_10 w => stv prog none (Instr.loadAt 72 t_4) t_6 w <| stv prog none (Instr.loadAt 30 t_2) t_5 w <| 
  dr w fun w =>
  pv prog (oNil t_10) w fun t_11 w =>
  pvv prog (Instr.fieldAt 79 t_11 2) w fun t_12 w =>
  pv prog (oNil d_p0) w fun t_13 w =>
  pvv prog (Instr.fieldAt 79 t_13 2) w fun t_14 w =>
  Calls prog 44 #[t_14] w (Ret fun t_15 w =>
  Calls prog 54 #[t_12, t_15] w (Ret fun t_16 w =>
  K t_10 w))))
theorem B35_eq (d_p0 : Value) (w : World) (K : Value → World → Prop) : denFn prog Try.f35 T35 [d_p0] w K = B35 d_p0 w K := by kernel_rfl
theorem c35 {d_p0 : Value} {w : World} {K : Value → World → Prop} (h : B35 d_p0 w K) : Calls prog 35 #[d_p0] w (Ret K) :=
  denFn_calls Try.func35 T35_ok (Eq.mpr (B35_eq d_p0 w K) h)

-- 15 (holdfast/holdfastlaw01.Deed).bytes
def T15 : Ann := (.seq .none (.seq .none (.meet 16136 [3] (.seq .none (.seq .none .none)) (.seq .none (.seq (.seq .none (.block (.loop 67043360 [5] (.seq (.seq .none (.seq .none .none)) (.seq (.block .none) .none))))) (.seq .none .none))))))
theorem T15_ok : chkFn prog Try.f15 T15 = true := by kernel_rfl
def B15 (d_p0 : Value) (w : World) (K : Value → World → Prop) : Prop :=
  efv prog (Instr.box 24 d_p0) w fun d_0 w =>
  pvv prog (Instr.fieldAt 24 d_0 1) w fun t_1 w =>
  ldv prog (Instr.loadAt 3 t_1) w fun t_2 w =>
  jn (fun σ w => pop σ fun n_3 σ => fin σ <|
    efv prog (Instr.makeSlice 32 n_3 n_3) w fun t_4 w =>
    lp (fun σ w again_6 => pop σ fun i_5 σ => fin σ <|
      pvv prog (binOp .lss 3 i_5 n_3) w fun t_7 w =>
      cd t_7 (
        pvv prog (Instr.fieldAt 24 d_0 2) w fun t_8 w =>
        ldv prog (Instr.loadAt 5 t_8) w fun t_9 w =>
        pvv prog (Instr.indexAt 32 t_4 i_5) w fun t_10 w =>
        efu prog (Instr.storeAt 5 t_10 t_9) w fun u_11 w =>
        pvv prog (binOp .add 3 i_5 (.int .i64 1)) w fun t_12 w =>
        again_6 [t_12] w) <|
      K t_4 w) [(.int .i64 0)] w) fun k_13 =>
  pvv prog (binOp .lss 3 t_2 (.int .i64 0)) w fun t_14 w =>
  gate (some (t_14, false)) (fun K => K t_2 w) w fun t_15 w =>
  gate (some (t_14, false)) (fun K => pvv prog (binOp .gtr 3 t_15 (.int .i64 300)) w K) w fun t_16 w =>
  pv prog (oPick t_14 (.bool true) t_16) w fun t_17 w =>
  cd t_17 (
    k_13 [(.int .i64 256)] w) <|
  k_13 [t_2] w
theorem B15_eq (d_p0 : Value) (w : World) (K : Value → World → Prop) : denFn prog Try.f15 T15 [d_p0] w K = B15 d_p0 w K := by kernel_rfl
theorem c15 {d_p0 : Value} {w : World} {K : Value → World → Prop} (h : B15 d_p0 w K) : Calls prog 15 #[d_p0] w (Ret K) :=
  denFn_calls Try.func15 T15_ok (Eq.mpr (B15_eq d_p0 w K) h)

-- 34 (*holdfast/holdfastref01.Disk).Cut
def T34 : Ann := (.seq .none (.seq (.block (.seq .none (.seq (.seq .none .none) (.seq .none (.seq (.seq .none .none) .none))))) (.seq .none .none)))
theorem T34_ok : chkFn prog Try.f34 T34 = true := by kernel_rfl
def B34 (d_p0 k_p1 : Value) (w : World) (K : Value → World → Prop) : Prop :=
  pvv prog (oEq .eql 26 (.tmp 7) (.const (.pointer none)) d_p0 (.pointer none)) w fun t_0 w =>
  cd t_0 (
    K (.tuple #[(.pointer none), (.int .i64 1)]) w) <|
  pvv prog (binOp .lss 3 k_p1 (.int .i64 0)) w fun t_1 w =>
  gate (some (t_1, false)) (fun K => K k_p1 w) w fun t_2 w =>
  gate (some (t_1, false)) (fun K => K d_p0 w) w fun t_3 w =>
  gate (some (t_1, false)) (fun K => pv prog (oNil t_3) w K) w fun t_4 w =>
  gate (some (t_1, false)) (fun K => pvv prog (Instr.fieldAt 50 t_4 1) w K) w fun t_5 w =>
  gate (some (t_1, false)) (fun K => ldv prog (Instr.loadAt 48 t_5) w K) w fun t_6 w =>
  gate (some (t_1, false)) (fun K => pv prog (oBi .len #[48] 3 #[false] #[t_6]) w K) w fun t_7 w =>
  gate (some (t_1, false)) (fun K => pvv prog (binOp .gtr 3 t_2 t_7) w K) w fun t_8 w =>
  pv prog (oPick t_1 (.bool true) t_8) w fun t_9 w =>
  cd t_9 (
    K (.tuple #[(.pointer none), (.int .i64 2)]) w) <|
  Calls prog 45 #[d_p0, k_p1] w (Ret fun t_10 w =>
  pvv prog (Instr.build 50 #[(0, t_10)]) w fun t_11 w =>
  efv prog (Instr.box 50 t_11) w fun t_12 w =>
  K (.tuple #[t_12, (.int .i64 0)]) w)
theorem B34_eq (d_p0 k_p1 : Value) (w : World) (K : Value → World → Prop) : denFn prog Try.f34 T34 [d_p0, k_p1] w K = B34 d_p0 k_p1 w K := by kernel_rfl
theorem c34 {d_p0 k_p1 : Value} {w : World} {K : Value → World → Prop} (h : B34 d_p0 k_p1 w K) : Calls prog 34 #[d_p0, k_p1] w (Ret K) :=
  denFn_calls Try.func34 T34_ok (Eq.mpr (B34_eq d_p0 k_p1 w K) h)

-- 58 slices.IndexFunc[[][]byte,[]byte]
def T58 : Ann := (.seq .none (.seq (.seq .none (.block (.loop 524080 [8] (.seq .none (.seq (.seq .none .none) (.seq (.block (.seq .none (.seq .none (.seq (.seq .none .none) .none)))) .none)))))) (.seq .none .none)))
theorem T58_ok : chkFn prog Try.f58 T58 = true := by kernel_rfl
def B58 (s_p0 f_p1 : Value) (w : World) (K : Value → World → Prop) : Prop :=
  pv prog (oBi .len #[30] 3 #[false] #[s_p0]) w fun t_0 w =>
  lp (fun σ w again_2 => pop σ fun t_1 σ => fin σ <|
    pvv prog (binOp .lss 3 t_1 t_0) w fun t_3 w =>
    cd t_3 (
      pvv prog (Instr.indexAt 30 s_p0 t_1) w fun t_4 w =>
      ldv prog (Instr.loadAt 32 t_4) w fun t_5 w =>
      ef prog (oCall f_p1 #[t_5]) w fun t_6 w =>
      cd t_6 (
        K t_1 w) <|
      pvv prog (binOp .add 3 t_1 (.int .i64 1)) w fun t_7 w =>
      again_2 [t_7] w) <|
    K (.int .i64 (-1)) w) [(.int .i64 0)] w
theorem B58_eq (s_p0 f_p1 : Value) (w : World) (K : Value → World → Prop) : denFn prog Try.f58 T58 [s_p0, f_p1] w K = B58 s_p0 f_p1 w K := by kernel_rfl
theorem c58 {s_p0 f_p1 : Value} {w : World} {K : Value → World → Prop} (h : B58 s_p0 f_p1 w K) : Calls prog 58 #[s_p0, f_p1] w (Ret K) :=
  denFn_calls Try.func58 T58_ok (Eq.mpr (B58_eq s_p0 f_p1 w K) h)

-- 20 (*holdfast/block.Disk).Blocks
def T20 : Ann := (.seq .none (.seq (.seq .none (.seq (.seq .none .none) .none)) (.seq .none .none)))
theorem T20_ok : chkFn prog Try.f20 T20 = true := by kernel_rfl
def B20 (d_p0 : Value) (w : World) (K : Value → World → Prop) : Prop :=
  pvv prog (oEq .eql 25 (.tmp 3) (.const (.pointer none)) d_p0 (.pointer none)) w fun t_0 w =>
  cd t_0 (
    K (.int .i64 0) w) <|
  pv prog (oNil d_p0) w fun t_1 w =>
  pvv prog (Instr.fieldAt 79 t_1 0) w fun t_2 w =>
  ldv prog (Instr.loadAt 30 t_2) w fun t_3 w =>
  pv prog (oBi .len #[30] 3 #[false] #[t_3]) w fun t_4 w =>
  K t_4 w
theorem B20_eq (d_p0 : Value) (w : World) (K : Value → World → Prop) : denFn prog Try.f20 T20 [d_p0] w K = B20 d_p0 w K := by kernel_rfl
theorem c20 {d_p0 : Value} {w : World} {K : Value → World → Prop} (h : B20 d_p0 w K) : Calls prog 20 #[d_p0] w (Ret K) :=
  denFn_calls Try.func20 T20_ok (Eq.mpr (B20_eq d_p0 w K) h)

-- 52 slices.Clone[[][]byte,[]byte]
def T52 : Ann := (.seq .none (.seq (.seq .none (.seq (.seq .none .none) .none)) (.seq .none .none)))
theorem T52_ok : chkFn prog Try.f52 T52 = true := by kernel_rfl
def B52 (s_p0 : Value) (w : World) (K : Value → World → Prop) : Prop :=
  pvv prog (oEq .eql 30 (.tmp 3) (.const (.slice none 0 0)) s_p0 (.slice none 0 0)) w fun t_0 w =>
  cd t_0 (
    K (.slice none 0 0) w) <|
  efv prog (Instr.buildSlice 30 0 #[]) w fun t_1 w =>
  ef prog (oBi .append #[30, 30] 30 #[false, false] #[t_1, s_p0]) w fun t_2 w =>
  K t_2 w
theorem B52_eq (s_p0 : Value) (w : World) (K : Value → World → Prop) : denFn prog Try.f52 T52 [s_p0] w K = B52 s_p0 w K := by kernel_rfl
theorem c52 {s_p0 : Value} {w : World} {K : Value → World → Prop} (h : B52 s_p0 w K) : Calls prog 52 #[s_p0] w (Ret K) :=
  denFn_calls Try.func52 T52_ok (Eq.mpr (B52_eq s_p0 w K) h)

-- 48 bytes.Equal
def T48 : Ann := (.seq .none (.seq .none .none))
theorem T48_ok : chkFn prog Try.f48 T48 = true := by kernel_rfl
def B48 (a_p0 b_p1 : Value) (w : World) (K : Value → World → Prop) : Prop :=
  efv prog (convert 32 9 a_p0) w fun t_0 w =>
  efv prog (convert 32 9 b_p1) w fun t_1 w =>
  pvv prog (oEq .eql 9 (.tmp 6) (.tmp 8) t_0 t_1) w fun t_2 w =>
  K t_2 w
theorem B48_eq (a_p0 b_p1 : Value) (w : World) (K : Value → World → Prop) : denFn prog Try.f48 T48 [a_p0, b_p1] w K = B48 a_p0 b_p1 w K := by kernel_rfl
theorem c48 {a_p0 b_p1 : Value} {w : World} {K : Value → World → Prop} (h : B48 a_p0 b_p1 w K) : Calls prog 48 #[a_p0, b_p1] w (Ret K) :=
  denFn_calls Try.func48 T48_ok (Eq.mpr (B48_eq a_p0 b_p1 w K) h)

-- 50 holdfast/block.Load$1
def T50 : Ann := (.seq .none (.seq .none .none))
theorem T50_ok : chkFn prog Try.f50 T50 = true := by kernel_rfl
def B50 (b_p0 : Value) (w : World) (K : Value → World → Prop) : Prop :=
  pv prog (oBi .len #[32] 3 #[false] #[b_p0]) w fun t_0 w =>
  pvv prog (oEq .neq 3 (.tmp 4) (.const (.int .i64 256)) t_0 (.int .i64 256)) w fun t_1 w =>
  K t_1 w
theorem B50_eq (b_p0 : Value) (w : World) (K : Value → World → Prop) : denFn prog Try.f50 T50 [b_p0] w K = B50 b_p0 w K := by kernel_rfl
theorem c50 {b_p0 : Value} {w : World} {K : Value → World → Prop} (h : B50 b_p0 w K) : Calls prog 50 #[b_p0] w (Ret K) :=
  denFn_calls Try.func50 T50_ok (Eq.mpr (B50_eq b_p0 w K) h)


end Go.Proofs.Yteplajobjlehlaa
