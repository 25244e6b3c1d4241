import Derived.Test.YteplajobjlehlaaBlkI
set_option linter.all false
set_option maxRecDepth 100000
namespace Go.Proofs.Yteplajobjlehlaa
open Go Hold
-- 8 holdfast/holdfastlaw01.BlockCuts
def T8 : Ann := (.seq .none (.seq .none (.seq (.seq .none (.seq (.seq .none .none) .none)) (.seq .none (.seq .none (.seq (.seq .none (.seq (.seq .none .none) .none)) (.seq .none (.seq (.seq .none (.seq (.seq .none .none) .none)) (.seq (.seq .none (.seq (.seq .none .none) .none)) (.seq .none (.seq .none (.seq .none (.seq (.seq .none (.block (.loop 42535295845310267304355741530585825296 [18, 19] (.seq (.seq .none (.seq .none .none)) (.meet 42535214735478893326240130139966144528 [18] (.block (.seq (.draw [(0, .pure), (1, .pure), (2, .pure), (4, .pure), (5, .pure), (6, .pure), (3, .load), (7, .load), (8, .eff), (9, .pure)]) (.seq (.seq .none (.seq .none (.seq (.seq .none .none) .none))) .none))) .none))))) (.seq .none .none))))))))))))))
theorem T8_ok : chkFn prog Try.f8 T8 = true := by kernel_rfl
def B8 (l_p0 k_p1 : Value) (w : World) (K : Value → World → Prop) : Prop :=
  Calls prog 12 #[(.int .i64 5), l_p0] w (Ret fun t_0 w =>
  pvv prog (Instr.extract t_0 0) w fun t_1 w =>
  pvv prog (Instr.extract t_0 1) w fun t_2 w =>
  pvv prog (Instr.extract t_0 2) w fun t_3 w =>
  Calls prog 13 #[] w (Ret fun t_4 w =>
  pvv prog (Op.unary .not t_4) w fun t_5 w =>
  gate (some (t_5, false)) (fun K => K t_3 w) w fun t_6 w =>
  gate (some (t_5, false)) (fun K => pvv prog (Op.unary .not t_6) w K) w fun t_7 w =>
  pv prog (oPick t_5 (.bool true) t_7) w fun t_8 w =>
  cd t_8 (
    K (.bool false) w) <|
  Calls prog 29 #[t_1, k_p1] w (Ret fun t_9 w =>
  pvv prog (Instr.extract t_9 0) w fun t_10 w =>
  pvv prog (Instr.extract t_9 1) w fun t_11 w =>
  Calls prog 34 #[t_2, k_p1] w (Ret fun t_12 w =>
  pvv prog (Instr.extract t_12 0) w fun t_13 w =>
  pvv prog (Instr.extract t_12 1) w fun t_14 w =>
  pvv prog (oEq .neq 34 (.tmp 44) (.tmp 45) t_11 t_14) w fun t_15 w =>
  gate (some (t_15, false)) (fun K => K t_10 w) w fun t_16 w =>
  gate (some (t_15, false)) (fun K => Calls prog 14 #[t_16] w (Ret K)) w fun t_17 w =>
  gate (some (t_15, false)) (fun K => K t_13 w) w fun t_18 w =>
  gate (some (t_15, false)) (fun K => Calls prog 28 #[t_18] w (Ret K)) w fun t_19 w =>
  gate (some (t_15, false)) (fun K => Calls prog 27 #[t_17, t_19] w (Ret K)) w fun t_20 w =>
  gate (some (t_15, false)) (fun K => pvv prog (Op.unary .not t_20) w K) w fun t_21 w =>
  pv prog (oPick t_15 (.bool true) t_21) w fun t_22 w =>
  gate (some (t_22, false)) (fun K => K t_10 w) w fun t_23 w =>
  gate (some (t_22, false)) (fun K => Calls prog 22 #[t_23] w (Ret K)) w fun t_24 w =>
  gate (some (t_22, false)) (fun K => pvv prog (oEq .neq 3 (.tmp 57) (.const (.int .i64 0)) t_24 (.int .i64 0)) w K) w fun t_25 w =>
  pv prog (oPick t_22 (.bool true) t_25) w fun t_26 w =>
  cd t_26 (
    K (.bool false) w) <|
  Calls prog 22 #[t_1] w (Ret fun t_27 w =>
  Calls prog 29 #[t_1, t_27] w (Ret fun t_28 w =>
  pvv prog (Instr.extract t_28 0) w fun t_29 w =>
  pvv prog (Instr.extract t_28 1) w fun t_30 w =>
  pvv prog (oEq .neq 34 (.tmp 67) (.const (.int .i64 0)) t_30 (.int .i64 0)) w fun t_31 w =>
  gate (some (t_31, false)) (fun K => K t_29 w) w fun t_32 w =>
  gate (some (t_31, false)) (fun K => K t_1 w) w fun t_33 w =>
  gate (some (t_31, false)) (fun K => Calls prog 30 #[t_32, t_33] w (Ret K)) w fun t_34 w =>
  gate (some (t_31, false)) (fun K => pvv prog (Op.unary .not t_34) w K) w fun t_35 w =>
  pv prog (oPick t_31 (.bool true) t_35) w fun t_36 w =>
  cd t_36 (
    K (.bool false) w) <|
  pvv prog (oEq .neq 34 (.tmp 75) (.const (.int .i64 0)) t_11 (.int .i64 0)) w fun t_37 w =>
  gate (some (t_37, false)) (fun K => K k_p1 w) w fun t_38 w =>
  gate (some (t_37, false)) (fun K => K t_1 w) w fun t_39 w =>
  gate (some (t_37, false)) (fun K => Calls prog 22 #[t_39] w (Ret K)) w fun t_40 w =>
  gate (some (t_37, false)) (fun K => pvv prog (oEq .eql 3 (.tmp 78) (.tmp 80) t_38 t_40) w K) w fun t_41 w =>
  pv prog (oPick t_37 (.bool true) t_41) w fun t_42 w =>
  cd t_42 (
    K (.bool true) w) <|
  pvv prog (binOp .add 3 k_p1 (.int .i64 1)) w fun t_43 w =>
  Calls prog 29 #[t_1, t_43] w (Ret fun t_44 w =>
  pvv prog (Instr.extract t_44 0) w fun t_45 w =>
  pvv prog (Instr.extract t_44 1) w fun t_46 w =>
  Calls prog 14 #[t_10] w (Ret fun t_47 w =>
  Calls prog 14 #[t_45] w (Ret fun t_48 w =>
  lp (fun σ w again_51 => pop σ fun apart_49 σ => pop σ fun i_50 σ => fin σ <|
    pv prog (oBi .len #[30] 3 #[false] #[t_47]) w fun t_52 w =>
    pvv prog (binOp .lss 3 i_50 t_52) w fun t_53 w =>
    gate (some (t_53, true)) (fun K => K i_50 w) w fun t_54 w =>
    gate (some (t_53, true)) (fun K => K t_48 w) w fun t_55 w =>
    gate (some (t_53, true)) (fun K => pv prog (oBi .len #[30] 3 #[false] #[t_55]) w K) w fun t_56 w =>
    gate (some (t_53, true)) (fun K => pvv prog (binOp .lss 3 t_54 t_56) w K) w fun t_57 w =>
    pv prog (oPick t_53 t_57 (.bool false)) w fun t_58 w =>
    cd t_58 (
      jn (fun σ w => pop σ fun apart_59 σ => fin σ <|
        pvv prog (binOp .add 3 i_50 (.int .i64 1)) w fun t_60 w =>
        again_51 [apart_59, t_60] w) fun k_61 =>
      dr w fun w =>
      pvv prog (Instr.indexAt 30 t_47 i_50) w fun t_62 w =>
      pvv prog (Instr.indexAt 30 t_48 i_50) w fun t_63 w =>
      ldv prog (Instr.loadAt 32 t_62) w fun t_64 w =>
      ldv prog (Instr.loadAt 32 t_63) w fun t_65 w =>
      Calls prog 17 #[t_64, t_65] w (Ret fun t_66 w =>
      pvv prog (Op.unary .not t_66) w fun t_67 w =>
      cd t_67 (
        pvv prog (binOp .add 3 apart_49 (.int .i64 1)) w fun t_68 w =>
        Calls prog 25 #[t_1] w (Ret fun t_69 w =>
        pvv prog (Instr.indexAt 42 t_69 k_p1) w fun t_70 w =>
        ldv prog (Instr.loadAt 3 t_70) w fun t_71 w =>
        pvv prog (oEq .neq 3 (.tmp 122) (.tmp 123) t_71 i_50) w fun t_72 w =>
        cd t_72 (
          K (.bool false) w) <|
        k_61 [t_68] w)) <|
      k_61 [apart_49] w)) <|
    pvv prog (oEq .eql 34 (.tmp 125) (.const (.int .i64 0)) t_46 (.int .i64 0)) w fun t_74 w =>
    gate (some (t_74, true)) (fun K => K apart_49 w) w fun t_75 w =>
    gate (some (t_74, true)) (fun K => pvv prog (binOp .leq 3 t_75 (.int .i64 1)) w K) w fun t_76 w =>
    pv prog (oPick t_74 t_76 (.bool false)) w fun t_77 w =>
    gate (some (t_77, true)) (fun K => K t_47 w) w fun t_78 w =>
    gate (some (t_77, true)) (fun K => pv prog (oBi .len #[30] 3 #[false] #[t_78]) w K) w fun t_79 w =>
    gate (some (t_77, true)) (fun K => K t_48 w) w fun t_80 w =>
    gate (some (t_77, true)) (fun K => pv prog (oBi .len #[30] 3 #[false] #[t_80]) w K) w fun t_81 w =>
    gate (some (t_77, true)) (fun K => pvv prog (oEq .eql 3 (.tmp 133) (.tmp 135) t_79 t_81) w K) w fun t_82 w =>
    pv prog (oPick t_77 t_82 (.bool false)) w fun t_83 w =>
    K t_83 w) [(.int .i64 0), (.int .i64 0)] w)))))))))
theorem B8_eq (l_p0 k_p1 : Value) (w : World) (K : Value → World → Prop) : denFn prog Try.f8 T8 [l_p0, k_p1] w K = B8 l_p0 k_p1 w K := by kernel_rfl
theorem c8 {l_p0 k_p1 : Value} {w : World} {K : Value → World → Prop} (h : B8 l_p0 k_p1 w K) : Calls prog 8 #[l_p0, k_p1] w (Ret K) :=
  denFn_calls Try.func8 T8_ok (Eq.mpr (B8_eq l_p0 k_p1 w K) h)

-- 37 holdfast/codec.Columns
def T37 : Ann := (.seq .none (.seq (.block (.seq .none (.seq (.seq .none .none) (.seq .none (.seq (.seq .none .none) .none))))) (.seq .none (.seq .none (.seq (.seq .none (.block (.loop 73786976294301335661 [0, 29] (.seq .none (.seq (.seq .none .none) (.seq (.block (.seq .none (.seq (.seq .none (.seq (.seq .none .none) .none)) (.seq .none (.seq .none .none))))) .none)))))) (.seq (.seq .none (.seq (.seq .none .none) .none)) (.seq .none .none)))))))
theorem T37_ok : chkFn prog Try.f37 T37 = true := by kernel_rfl
def B37 (b_p0 : Value) (w : World) (K : Value → World → Prop) : Prop :=
  pv prog (oBi .len #[32] 3 #[false] #[b_p0]) w fun t_0 w =>
  pvv prog (binOp .gtr 3 t_0 (.int .i64 72)) w fun t_1 w =>
  cd t_1 (
    K (.tuple #[(.slice none 0 0), (.int .i64 6)]) w) <|
  pv prog (oBi .len #[32] 3 #[false] #[b_p0]) w fun t_2 w =>
  pvv prog (oEq .eql 3 (.tmp 13) (.const (.int .i64 0)) t_2 (.int .i64 0)) w fun t_3 w =>
  gate (some (t_3, false)) (fun K => K b_p0 w) w fun t_4 w =>
  gate (some (t_3, false)) (fun K => pvv prog (Instr.indexAt 32 t_4 (.int .i64 0)) w K) w fun t_5 w =>
  gate (some (t_3, false)) (fun K => ldv prog (Instr.loadAt 5 t_5) w K) w fun t_6 w =>
  gate (some (t_3, false)) (fun K => pvv prog (binOp .gtr 5 t_6 (.int .u8 8)) w K) w fun t_7 w =>
  pv prog (oPick t_3 (.bool true) t_7) w fun t_8 w =>
  cd t_8 (
    K (.tuple #[(.slice none 0 0), (.int .i64 3)]) w) <|
  pvv prog (Instr.indexAt 32 b_p0 (.int .i64 0)) w fun t_9 w =>
  ldv prog (Instr.loadAt 5 t_9) w fun t_10 w =>
  efv prog (Instr.makeSlice 65 t_10 t_10) w fun t_11 w =>
  pvv prog (Instr.sliceAt 32 b_p0 (some (.int .i64 1)) none none) w fun t_12 w =>
  pv prog (oBi .len #[65] 3 #[false] #[t_11]) w fun t_13 w =>
  lp (fun σ w again_16 => pop σ fun b_14 σ => pop σ fun t_15 σ => fin σ <|
    pvv prog (binOp .lss 3 t_15 t_13) w fun t_17 w =>
    cd t_17 (
      pv prog (oBi .len #[32] 3 #[false] #[b_14]) w fun t_18 w =>
      pvv prog (oEq .eql 3 (.tmp 33) (.const (.int .i64 0)) t_18 (.int .i64 0)) w fun t_19 w =>
      gate (some (t_19, false)) (fun K => K b_14 w) w fun t_20 w =>
      gate (some (t_19, false)) (fun K => pvv prog (Instr.indexAt 32 t_20 (.int .i64 0)) w K) w fun t_21 w =>
      gate (some (t_19, false)) (fun K => ldv prog (Instr.loadAt 5 t_21) w K) w fun t_22 w =>
      gate (some (t_19, false)) (fun K => pvv prog (binOp .gtr 5 t_22 (.int .u8 70)) w K) w fun t_23 w =>
      pv prog (oPick t_19 (.bool true) t_23) w fun t_24 w =>
      gate (some (t_24, false)) (fun K => K b_14 w) w fun t_25 w =>
      gate (some (t_24, false)) (fun K => pvv prog (Instr.indexAt 32 t_25 (.int .i64 0)) w K) w fun t_26 w =>
      gate (some (t_24, false)) (fun K => ldv prog (Instr.loadAt 5 t_26) w K) w fun t_27 w =>
      gate (some (t_24, false)) (fun K => pvv prog (convert 5 3 t_27) w K) w fun t_28 w =>
      gate (some (t_24, false)) (fun K => K b_14 w) w fun t_29 w =>
      gate (some (t_24, false)) (fun K => pv prog (oBi .len #[32] 3 #[false] #[t_29]) w K) w fun t_30 w =>
      gate (some (t_24, false)) (fun K => pvv prog (binOp .geq 3 t_28 t_30) w K) w fun t_31 w =>
      pv prog (oPick t_24 (.bool true) t_31) w fun t_32 w =>
      cd t_32 (
        K (.tuple #[(.slice none 0 0), (.int .i64 3)]) w) <|
      pvv prog (Instr.indexAt 32 b_14 (.int .i64 0)) w fun t_33 w =>
      ldv prog (Instr.loadAt 5 t_33) w fun t_34 w =>
      pvv prog (convert 5 3 t_34) w fun t_35 w =>
      pvv prog (binOp .add 3 t_35 (.int .i64 1)) w fun t_36 w =>
      pvv prog (Instr.sliceAt 32 b_14 (some (.int .i64 1)) (some t_36) none) w fun t_37 w =>
      efv prog (convert 32 9 t_37) w fun t_38 w =>
      pvv prog (Instr.indexAt 65 t_11 t_15) w fun t_39 w =>
      efu prog (Instr.storeAt 9 t_39 t_38) w fun u_40 w =>
      pvv prog (Instr.sliceAt 32 b_14 (some t_36) none none) w fun t_41 w =>
      pvv prog (binOp .add 3 t_15 (.int .i64 1)) w fun t_42 w =>
      again_16 [t_41, t_42] w) <|
    pv prog (oBi .len #[32] 3 #[false] #[b_14]) w fun t_43 w =>
    pvv prog (binOp .gtr 3 t_43 (.int .i64 0)) w fun t_44 w =>
    cd t_44 (
      K (.tuple #[(.slice none 0 0), (.int .i64 3)]) w) <|
    K (.tuple #[t_11, (.int .i64 0)]) w) [t_12, (.int .i64 0)] w
theorem B37_eq (b_p0 : Value) (w : World) (K : Value → World → Prop) : denFn prog Try.f37 T37 [b_p0] w K = B37 b_p0 w K := by kernel_rfl
theorem c37 {b_p0 : Value} {w : World} {K : Value → World → Prop} (h : B37 b_p0 w K) : Calls prog 37 #[b_p0] w (Ret K) :=
  denFn_calls Try.func37 T37_ok (Eq.mpr (B37_eq b_p0 w K) h)

-- 12 holdfast/holdfastlaw01.play
def T12 : Ann := (.seq .none (.seq .none (.seq .none (.seq (.seq .none (.seq (.seq .none .none) .none)) (.seq (.seq .none (.block (.loop 604462909807245867890800 [11] (.seq (.seq .none (.seq .none .none)) (.seq (.block (.seq .none (.seq (.seq (.draw [(0, .pure), (1, .pure), (2, .pure), (3, .pure), (4, .pure), (6, .pure), (8, .pure), (9, .pure), (10, .pure), (11, .pure), (12, .pure), (14, .pure), (5, .load), (13, .load), (7, .eff), (15, .eff), (16, .pure)]) (.seq (.seq .none .none) .none)) (.seq .none (.block (.loop 603282318186597176057856 [13] (.seq (.seq .none (.seq .none .none)) (.seq (.block .none) .none)))))))) .none))))) (.seq .none .none))))))
theorem T12_ok : chkFn prog Try.f12 T12 = true := by kernel_rfl
def B12 (blocks_p0 l_p1 : Value) (w : World) (K : Value → World → Prop) : Prop :=
  Calls prog 31 #[blocks_p0] w (Ret fun t_0 w =>
  pvv prog (Instr.extract t_0 0) w fun t_1 w =>
  pvv prog (Instr.extract t_0 1) w fun t_2 w =>
  Calls prog 38 #[blocks_p0] w (Ret fun t_3 w =>
  pvv prog (Instr.extract t_3 0) w fun t_4 w =>
  pvv prog (Instr.extract t_3 1) w fun t_5 w =>
  pvv prog (oEq .neq 34 (.tmp 24) (.tmp 25) t_2 t_5) w fun t_6 w =>
  gate (some (t_6, false)) (fun K => K t_1 w) w fun t_7 w =>
  gate (some (t_6, false)) (fun K => pvv prog (oEq .eql 25 (.tmp 28) (.const (.pointer none)) t_7 (.pointer none)) w K) w fun t_8 w =>
  gate (some (t_6, false)) (fun K => K t_4 w) w fun t_9 w =>
  gate (some (t_6, false)) (fun K => pvv prog (oEq .eql 26 (.tmp 30) (.const (.pointer none)) t_9 (.pointer none)) w K) w fun t_10 w =>
  gate (some (t_6, false)) (fun K => pvv prog (oEq .neq 4 (.tmp 29) (.tmp 31) t_8 t_10) w K) w fun t_11 w =>
  pv prog (oPick t_6 (.bool true) t_11) w fun t_12 w =>
  cd t_12 (
    K (.tuple #[t_1, t_4, (.bool false)]) w) <|
  lp (fun σ w again_14 => pop σ fun i_13 σ => fin σ <|
    pv prog (oBi .len #[22] 3 #[false] #[l_p1]) w fun t_15 w =>
    pvv prog (binOp .lss 3 i_13 t_15) w fun t_16 w =>
    gate (some (t_16, true)) (fun K => K i_13 w) w fun t_17 w =>
    gate (some (t_16, true)) (fun K => pvv prog (binOp .lss 3 t_17 (.int .i64 40)) w K) w fun t_18 w =>
    pv prog (oPick t_16 t_18 (.bool false)) w fun t_19 w =>
    cd t_19 (
      pvv prog (Instr.indexAt 22 l_p1 i_13) w fun t_20 w =>
      ldv prog (Instr.loadAt 24 t_20) w fun t_21 w =>
      Calls prog 15 #[t_21] w (Ret fun t_22 w =>
      dr w fun w =>
      pvv prog (Instr.indexAt 22 l_p1 i_13) w fun t_23 w =>
      pvv prog (Instr.fieldAt 24 t_23 0) w fun t_24 w =>
      pvv prog (Instr.indexAt 22 l_p1 i_13) w fun t_25 w =>
      pvv prog (Instr.fieldAt 24 t_25 0) w fun t_26 w =>
      ldv prog (Instr.loadAt 3 t_24) w fun t_27 w =>
      ldv prog (Instr.loadAt 3 t_26) w fun t_28 w =>
      Calls prog 16 #[t_1, t_27, t_22] w (Ret fun t_29 w => stv prog none (Instr.loadAt 3 t_26) t_28 w <| 
      Calls prog 39 #[t_4, t_28, t_22] w (Ret fun t_30 w => stv prog none (Instr.loadAt 3 t_24) t_27 w <| 
      pvv prog (oEq .neq 34 (.tmp 58) (.tmp 66) t_29 t_30) w fun t_31 w =>
      cd t_31 (
        K (.tuple #[t_1, t_4, (.bool false)]) w) <|
      lp (fun σ w again_33 => pop σ fun k_32 σ => fin σ <|
        pv prog (oBi .len #[32] 3 #[false] #[t_22]) w fun t_34 w =>
        pvv prog (binOp .lss 3 k_32 t_34) w fun t_35 w =>
        cd t_35 (
          pvv prog (Instr.indexAt 32 t_22 k_32) w fun t_36 w =>
          efu prog (Instr.storeAt 5 t_36 (.int .u8 99)) w fun u_37 w =>
          pvv prog (binOp .add 3 k_32 (.int .i64 1)) w fun t_38 w =>
          again_33 [t_38] w) <|
        pvv prog (binOp .add 3 i_13 (.int .i64 1)) w fun t_39 w =>
        again_14 [t_39] w) [(.int .i64 0)] w)))) <|
    K (.tuple #[t_1, t_4, (.bool true)]) w) [(.int .i64 0)] w))
theorem B12_eq (blocks_p0 l_p1 : Value) (w : World) (K : Value → World → Prop) : denFn prog Try.f12 T12 [blocks_p0, l_p1] w K = B12 blocks_p0 l_p1 w K := by kernel_rfl
theorem c12 {blocks_p0 l_p1 : Value} {w : World} {K : Value → World → Prop} (h : B12 blocks_p0 l_p1 w K) : Calls prog 12 #[blocks_p0, l_p1] w (Ret K) :=
  denFn_calls Try.func12 T12_ok (Eq.mpr (B12_eq blocks_p0 l_p1 w K) h)

-- 19 (*holdfast/holdfastref01.Disk).Read
def T19 : Ann := (.seq .none (.seq (.block (.seq .none (.seq (.seq .none .none) (.seq .none (.seq (.seq .none .none) .none))))) (.seq (.seq .none (.block (.loop 2251799545249904 [6] (.seq (.seq .none (.seq .none .none)) (.seq (.block (.seq .none (.seq (.seq .none .none) .none))) .none))))) (.seq .none .none))))
theorem T19_ok : chkFn prog Try.f19 T19 = true := by kernel_rfl
def B19 (d_p0 n_p1 : Value) (w : World) (K : Value → World → Prop) : Prop :=
  pvv prog (oEq .eql 26 (.tmp 8) (.const (.pointer none)) d_p0 (.pointer none)) w fun t_0 w =>
  cd t_0 (
    K (.tuple #[(.slice none 0 0), (.int .i64 1)]) w) <|
  pvv prog (binOp .lss 3 n_p1 (.int .i64 0)) w fun t_1 w =>
  gate (some (t_1, false)) (fun K => K n_p1 w) w fun t_2 w =>
  gate (some (t_1, false)) (fun K => K d_p0 w) w fun t_3 w =>
  gate (some (t_1, false)) (fun K => pv prog (oNil t_3) w K) w fun t_4 w =>
  gate (some (t_1, false)) (fun K => pvv prog (Instr.fieldAt 50 t_4 0) w K) w fun t_5 w =>
  gate (some (t_1, false)) (fun K => ldv prog (Instr.loadAt 30 t_5) w K) w fun t_6 w =>
  gate (some (t_1, false)) (fun K => pv prog (oBi .len #[30] 3 #[false] #[t_6]) w K) w fun t_7 w =>
  gate (some (t_1, false)) (fun K => pvv prog (binOp .geq 3 t_2 t_7) w K) w fun t_8 w =>
  pv prog (oPick t_1 (.bool true) t_8) w fun t_9 w =>
  cd t_9 (
    K (.tuple #[(.slice none 0 0), (.int .i64 2)]) w) <|
  pv prog (oNil d_p0) w fun t_10 w =>
  pvv prog (Instr.fieldAt 50 t_10 1) w fun t_11 w =>
  ldv prog (Instr.loadAt 48 t_11) w fun t_12 w =>
  pv prog (oBi .len #[48] 3 #[false] #[t_12]) w fun t_13 w =>
  pvv prog (binOp .sub 3 t_13 (.int .i64 1)) w fun t_14 w =>
  lp (fun σ w again_16 => pop σ fun i_15 σ => fin σ <|
    pvv prog (binOp .geq 3 i_15 (.int .i64 0)) w fun t_17 w =>
    cd t_17 (
      pv prog (oNil d_p0) w fun t_18 w =>
      pvv prog (Instr.fieldAt 50 t_18 1) w fun t_19 w =>
      ldv prog (Instr.loadAt 48 t_19) w fun t_20 w =>
      pvv prog (Instr.indexAt 48 t_20 i_15) w fun t_21 w =>
      pvv prog (Instr.fieldAt 52 t_21 0) w fun t_22 w =>
      ldv prog (Instr.loadAt 3 t_22) w fun t_23 w =>
      pvv prog (oEq .eql 3 (.tmp 39) (.tmp 40) t_23 n_p1) w fun t_24 w =>
      cd t_24 (
        pv prog (oNil d_p0) w fun t_25 w =>
        pvv prog (Instr.fieldAt 50 t_25 1) w fun t_26 w =>
        ldv prog (Instr.loadAt 48 t_26) w fun t_27 w =>
        pvv prog (Instr.indexAt 48 t_27 i_15) w fun t_28 w =>
        pvv prog (Instr.fieldAt 52 t_28 1) w fun t_29 w =>
        ldv prog (Instr.loadAt 32 t_29) w fun t_30 w =>
        Calls prog 43 #[t_30] w (Ret fun t_31 w =>
        K (.tuple #[t_31, (.int .i64 0)]) w)) <|
      pvv prog (binOp .sub 3 i_15 (.int .i64 1)) w fun t_32 w =>
      again_16 [t_32] w) <|
    pv prog (oNil d_p0) w fun t_33 w =>
    pvv prog (Instr.fieldAt 50 t_33 0) w fun t_34 w =>
    ldv prog (Instr.loadAt 30 t_34) w fun t_35 w =>
    pvv prog (Instr.indexAt 30 t_35 n_p1) w fun t_36 w =>
    ldv prog (Instr.loadAt 32 t_36) w fun t_37 w =>
    Calls prog 43 #[t_37] w (Ret fun t_38 w =>
    K (.tuple #[t_38, (.int .i64 0)]) w)) [t_14] w
theorem B19_eq (d_p0 n_p1 : Value) (w : World) (K : Value → World → Prop) : denFn prog Try.f19 T19 [d_p0, n_p1] w K = B19 d_p0 n_p1 w K := by kernel_rfl
theorem c19 {d_p0 n_p1 : Value} {w : World} {K : Value → World → Prop} (h : B19 d_p0 n_p1 w K) : Calls prog 19 #[d_p0, n_p1] w (Ret K) :=
  denFn_calls Try.func19 T19_ok (Eq.mpr (B19_eq d_p0 n_p1 w K) h)

-- 33 holdfast/holdfastref01.Load
def T33 : Ann := (.seq .none (.seq (.seq .none (.seq (.seq .none .none) .none)) (.seq (.seq .none (.block (.loop 33546268 [4] (.seq (.seq .none (.seq .none .none)) (.seq (.block (.seq .none (.seq (.seq .none .none) .none))) .none))))) (.seq .none .none))))
theorem T33_ok : chkFn prog Try.f33 T33 = true := by kernel_rfl
def B33 (image_p0 : Value) (w : World) (K : Value → World → Prop) : Prop :=
  pv prog (oBi .len #[30] 3 #[false] #[image_p0]) w fun t_0 w =>
  pvv prog (binOp .lss 3 t_0 (.int .i64 1)) w fun t_1 w =>
  gate (some (t_1, false)) (fun K => K image_p0 w) w fun t_2 w =>
  gate (some (t_1, false)) (fun K => pv prog (oBi .len #[30] 3 #[false] #[t_2]) w K) w fun t_3 w =>
  gate (some (t_1, false)) (fun K => pvv prog (binOp .gtr 3 t_3 (.int .i64 1024)) w K) w fun t_4 w =>
  pv prog (oPick t_1 (.bool true) t_4) w fun t_5 w =>
  cd t_5 (
    K (.tuple #[(.pointer none), (.int .i64 2)]) w) <|
  lp (fun σ w again_7 => pop σ fun i_6 σ => fin σ <|
    pv prog (oBi .len #[30] 3 #[false] #[image_p0]) w fun t_8 w =>
    pvv prog (binOp .lss 3 i_6 t_8) w fun t_9 w =>
    cd t_9 (
      pvv prog (Instr.indexAt 30 image_p0 i_6) w fun t_10 w =>
      ldv prog (Instr.loadAt 32 t_10) w fun t_11 w =>
      pv prog (oBi .len #[32] 3 #[false] #[t_11]) w fun t_12 w =>
      pvv prog (oEq .neq 3 (.tmp 23) (.const (.int .i64 256)) t_12 (.int .i64 256)) w fun t_13 w =>
      cd t_13 (
        K (.tuple #[(.pointer none), (.int .i64 3)]) w) <|
      pvv prog (binOp .add 3 i_6 (.int .i64 1)) w fun t_14 w =>
      again_7 [t_14] w) <|
    Calls prog 51 #[image_p0] w (Ret fun t_15 w =>
    pvv prog (Instr.build 50 #[(0, t_15)]) w fun t_16 w =>
    efv prog (Instr.box 50 t_16) w fun t_17 w =>
    K (.tuple #[t_17, (.int .i64 0)]) w)) [(.int .i64 0)] w
theorem B33_eq (image_p0 : Value) (w : World) (K : Value → World → Prop) : denFn prog Try.f33 T33 [image_p0] w K = B33 image_p0 w K := by kernel_rfl
theorem c33 {image_p0 : Value} {w : World} {K : Value → World → Prop} (h : B33 image_p0 w K) : Calls prog 33 #[image_p0] w (Ret K) :=
  denFn_calls Try.func33 T33_ok (Eq.mpr (B33_eq image_p0 w K) h)

-- 18 (*holdfast/block.Disk).Read
def T18 : Ann := (.seq .none (.seq (.block (.seq .none (.seq (.seq .none .none) (.seq .none (.seq (.seq .none .none) .none))))) (.seq .none .none)))
theorem T18_ok : chkFn prog Try.f18 T18 = true := by kernel_rfl
def B18 (d_p0 n_p1 : Value) (w : World) (K : Value → World → Prop) : Prop :=
  pvv prog (oEq .eql 25 (.tmp 7) (.const (.pointer none)) d_p0 (.pointer none)) w fun t_0 w =>
  cd t_0 (
    K (.tuple #[(.slice none 0 0), (.int .i64 1)]) w) <|
  pvv prog (binOp .lss 3 n_p1 (.int .i64 0)) w fun t_1 w =>
  gate (some (t_1, false)) (fun K => K n_p1 w) w fun t_2 w =>
  gate (some (t_1, false)) (fun K => K d_p0 w) w fun t_3 w =>
  gate (some (t_1, false)) (fun K => pv prog (oNil t_3) w K) w fun t_4 w =>
  gate (some (t_1, false)) (fun K => pvv prog (Instr.fieldAt 79 t_4 0) w K) w fun t_5 w =>
  gate (some (t_1, false)) (fun K => ldv prog (Instr.loadAt 30 t_5) w K) w fun t_6 w =>
  gate (some (t_1, false)) (fun K => pv prog (oBi .len #[30] 3 #[false] #[t_6]) w K) w fun t_7 w =>
  gate (some (t_1, false)) (fun K => pvv prog (binOp .geq 3 t_2 t_7) w K) w fun t_8 w =>
  pv prog (oPick t_1 (.bool true) t_8) w fun t_9 w =>
  cd t_9 (
    K (.tuple #[(.slice none 0 0), (.int .i64 2)]) w) <|
  pv prog (oNil d_p0) w fun t_10 w =>
  pvv prog (Instr.fieldAt 79 t_10 0) w fun t_11 w =>
  ldv prog (Instr.loadAt 30 t_11) w fun t_12 w =>
  pvv prog (Instr.indexAt 30 t_12 n_p1) w fun t_13 w =>
  ldv prog (Instr.loadAt 32 t_13) w fun t_14 w =>
  Calls prog 42 #[t_14] w (Ret fun t_15 w =>
  K (.tuple #[t_15, (.int .i64 0)]) w)
theorem B18_eq (d_p0 n_p1 : Value) (w : World) (K : Value → World → Prop) : denFn prog Try.f18 T18 [d_p0, n_p1] w K = B18 d_p0 n_p1 w K := by kernel_rfl
theorem c18 {d_p0 n_p1 : Value} {w : World} {K : Value → World → Prop} (h : B18 d_p0 n_p1 w K) : Calls prog 18 #[d_p0, n_p1] w (Ret K) :=
  denFn_calls Try.func18 T18_ok (Eq.mpr (B18_eq d_p0 n_p1 w K) h)

-- 17 holdfast/holdfastref01.SameBytes
def T17 : Ann := (.seq .none (.seq (.seq .none (.seq (.seq .none .none) .none)) (.seq (.seq .none (.block (.loop 67106864 [5] (.seq (.seq .none (.seq .none .none)) (.seq (.block (.seq (.draw [(0, .pure), (1, .pure), (2, .pure), (4, .pure), (5, .pure), (6, .pure), (3, .load), (7, .load), (8, .pure)]) (.seq (.seq .none .none) .none))) .none))))) (.seq .none .none))))
theorem T17_ok : chkFn prog Try.f17 T17 = true := by kernel_rfl
def B17 (a_p0 b_p1 : Value) (w : World) (K : Value → World → Prop) : Prop :=
  pv prog (oBi .len #[32] 3 #[false] #[a_p0]) w fun t_0 w =>
  pv prog (oBi .len #[32] 3 #[false] #[b_p1]) w fun t_1 w =>
  pvv prog (oEq .neq 3 (.tmp 7) (.tmp 9) t_0 t_1) w fun t_2 w =>
  cd t_2 (
    K (.bool false) w) <|
  lp (fun σ w again_4 => pop σ fun i_3 σ => fin σ <|
    pv prog (oBi .len #[32] 3 #[false] #[a_p0]) w fun t_5 w =>
    pvv prog (binOp .lss 3 i_3 t_5) w fun t_6 w =>
    cd t_6 (
      dr w fun w =>
      pvv prog (Instr.indexAt 32 a_p0 i_3) w fun t_7 w =>
      pvv prog (Instr.indexAt 32 b_p1 i_3) w fun t_8 w =>
      ldv prog (Instr.loadAt 5 t_7) w fun t_9 w =>
      ldv prog (Instr.loadAt 5 t_8) w fun t_10 w =>
      pvv prog (oEq .neq 5 (.tmp 20) (.tmp 24) t_9 t_10) w fun t_11 w =>
      cd t_11 (
        K (.bool false) w) <|
      pvv prog (binOp .add 3 i_3 (.int .i64 1)) w fun t_12 w =>
      again_4 [t_12] w) <|
    K (.bool true) w) [(.int .i64 0)] w
theorem B17_eq (a_p0 b_p1 : Value) (w : World) (K : Value → World → Prop) : denFn prog Try.f17 T17 [a_p0, b_p1] w K = B17 a_p0 b_p1 w K := by kernel_rfl
theorem c17 {a_p0 b_p1 : Value} {w : World} {K : Value → World → Prop} (h : B17 a_p0 b_p1 w K) : Calls prog 17 #[a_p0, b_p1] w (Ret K) :=
  denFn_calls Try.func17 T17_ok (Eq.mpr (B17_eq a_p0 b_p1 w K) h)

-- 32 holdfast/block.Load
def T32 : Ann := (.seq .none (.seq (.block (.seq .none (.seq (.seq .none .none) (.seq .none (.seq (.seq .none .none) .none))))) (.seq .none .none)))
theorem T32_ok : chkFn prog Try.f32 T32 = true := by kernel_rfl
def B32 (image_p0 : Value) (w : World) (K : Value → World → Prop) : Prop :=
  pv prog (oBi .len #[30] 3 #[false] #[image_p0]) w fun t_0 w =>
  pvv prog (binOp .lss 3 t_0 (.int .i64 1)) w fun t_1 w =>
  gate (some (t_1, false)) (fun K => K image_p0 w) w fun t_2 w =>
  gate (some (t_1, false)) (fun K => pv prog (oBi .len #[30] 3 #[false] #[t_2]) w K) w fun t_3 w =>
  gate (some (t_1, false)) (fun K => pvv prog (binOp .gtr 3 t_3 (.int .i64 1024)) w K) w fun t_4 w =>
  pv prog (oPick t_1 (.bool true) t_4) w fun t_5 w =>
  cd t_5 (
    K (.tuple #[(.pointer none), (.int .i64 2)]) w) <|
  Calls prog 49 #[image_p0, (.func (.func 50) #[] #[])] w (Ret fun t_6 w =>
  cd t_6 (
    K (.tuple #[(.pointer none), (.int .i64 3)]) w) <|
  Calls prog 40 #[image_p0] w (Ret fun t_7 w =>
  pvv prog (Instr.build 79 #[(0, t_7)]) w fun t_8 w =>
  efv prog (Instr.box 79 t_8) w fun t_9 w =>
  K (.tuple #[t_9, (.int .i64 0)]) w))
theorem B32_eq (image_p0 : Value) (w : World) (K : Value → World → Prop) : denFn prog Try.f32 T32 [image_p0] w K = B32 image_p0 w K := by kernel_rfl
theorem c32 {image_p0 : Value} {w : World} {K : Value → World → Prop} (h : B32 image_p0 w K) : Calls prog 32 #[image_p0] w (Ret K) :=
  denFn_calls Try.func32 T32_ok (Eq.mpr (B32_eq image_p0 w K) h)

-- 51 holdfast/holdfastref01.CopyAll
def T51 : Ann := (.seq .none (.seq .none (.seq (.seq .none (.block (.loop 524280 [3, 4] (.seq (.seq .none (.seq .none .none)) (.seq (.block .none) .none))))) (.seq .none .none))))
theorem T51_ok : chkFn prog Try.f51 T51 = true := by kernel_rfl
def B51 (l_p0 : Value) (w : World) (K : Value → World → Prop) : Prop :=
  lp (fun σ w again_2 => pop σ fun out_0 σ => pop σ fun i_1 σ => fin σ <|
    pv prog (oBi .len #[30] 3 #[false] #[l_p0]) w fun t_3 w =>
    pvv prog (binOp .lss 3 i_1 t_3) w fun t_4 w =>
    cd t_4 (
      pvv prog (Instr.indexAt 30 l_p0 i_1) w fun t_5 w =>
      ldv prog (Instr.loadAt 32 t_5) w fun t_6 w =>
      Calls prog 43 #[t_6] w (Ret fun t_7 w =>
      efv prog (Instr.buildSlice 30 1 #[(0, t_7)]) w fun t_8 w =>
      ef prog (oBi .append #[30, 30] 30 #[false, false] #[out_0, t_8]) w fun t_9 w =>
      pvv prog (binOp .add 3 i_1 (.int .i64 1)) w fun t_10 w =>
      again_2 [t_9, t_10] w)) <|
    K out_0 w) [(.slice none 0 0), (.int .i64 0)] w
theorem B51_eq (l_p0 : Value) (w : World) (K : Value → World → Prop) : denFn prog Try.f51 T51 [l_p0] w K = B51 l_p0 w K := by kernel_rfl
theorem c51 {l_p0 : Value} {w : World} {K : Value → World → Prop} (h : B51 l_p0 w K) : Calls prog 51 #[l_p0] w (Ret K) :=
  denFn_calls Try.func51 T51_ok (Eq.mpr (B51_eq l_p0 w K) h)

-- 14 (*holdfast/block.Disk).Image
def T14 : Ann := (.seq .none (.seq (.seq .none (.seq (.seq .none .none) .none)) (.seq .none .none)))
theorem T14_ok : chkFn prog Try.f14 T14 = true := by kernel_rfl
def B14 (d_p0 : Value) (w : World) (K : Value → World → Prop) : Prop :=
  pvv prog (oEq .eql 25 (.tmp 3) (.const (.pointer none)) d_p0 (.pointer none)) w fun t_0 w =>
  cd t_0 (
    K (.slice none 0 0) w) <|
  pv prog (oNil d_p0) w fun t_1 w =>
  pvv prog (Instr.fieldAt 79 t_1 0) w fun t_2 w =>
  ldv prog (Instr.loadAt 30 t_2) w fun t_3 w =>
  Calls prog 40 #[t_3] w (Ret fun t_4 w =>
  K t_4 w)
theorem B14_eq (d_p0 : Value) (w : World) (K : Value → World → Prop) : denFn prog Try.f14 T14 [d_p0] w K = B14 d_p0 w K := by kernel_rfl
theorem c14 {d_p0 : Value} {w : World} {K : Value → World → Prop} (h : B14 d_p0 w K) : Calls prog 14 #[d_p0] w (Ret K) :=
  denFn_calls Try.func14 T14_ok (Eq.mpr (B14_eq d_p0 w K) h)

-- 42 bytes.Clone
def T42 : Ann := (.seq .none (.seq (.seq .none (.seq (.seq .none .none) .none)) (.seq .none .none)))
theorem T42_ok : chkFn prog Try.f42 T42 = true := by kernel_rfl
def B42 (b_p0 : Value) (w : World) (K : Value → World → Prop) : Prop :=
  pvv prog (oEq .eql 32 (.tmp 3) (.const (.slice none 0 0)) b_p0 (.slice none 0 0)) w fun t_0 w =>
  cd t_0 (
    K (.slice none 0 0) w) <|
  efv prog (Instr.buildSlice 32 0 #[]) w fun t_1 w =>
  ef prog (oBi .append #[32, 32] 32 #[false, false] #[t_1, b_p0]) w fun t_2 w =>
  K t_2 w
theorem B42_eq (b_p0 : Value) (w : World) (K : Value → World → Prop) : denFn prog Try.f42 T42 [b_p0] w K = B42 b_p0 w K := by kernel_rfl
theorem c42 {b_p0 : Value} {w : World} {K : Value → World → Prop} (h : B42 b_p0 w K) : Calls prog 42 #[b_p0] w (Ret K) :=
  denFn_calls Try.func42 T42_ok (Eq.mpr (B42_eq b_p0 w K) h)

-- 49 slices.ContainsFunc[[][]byte,[]byte]
def T49 : Ann := (.seq .none (.seq .none .none))
theorem T49_ok : chkFn prog Try.f49 T49 = true := by kernel_rfl
def B49 (s_p0 f_p1 : Value) (w : World) (K : Value → World → Prop) : Prop :=
  Calls prog 58 #[s_p0, f_p1] w (Ret fun t_0 w =>
  pvv prog (binOp .geq 3 t_0 (.int .i64 0)) w fun t_1 w =>
  K t_1 w)
theorem B49_eq (s_p0 f_p1 : Value) (w : World) (K : Value → World → Prop) : denFn prog Try.f49 T49 [s_p0, f_p1] w K = B49 s_p0 f_p1 w K := by kernel_rfl
theorem c49 {s_p0 f_p1 : Value} {w : World} {K : Value → World → Prop} (h : B49 s_p0 f_p1 w K) : Calls prog 49 #[s_p0, f_p1] w (Ret K) :=
  denFn_calls Try.func49 T49_ok (Eq.mpr (B49_eq s_p0 f_p1 w K) h)

-- 43 holdfast/holdfastref01.Copy
def T43 : Ann := (.seq .none (.seq .none (.seq .none .none)))
theorem T43_ok : chkFn prog Try.f43 T43 = true := by kernel_rfl
def B43 (b_p0 : Value) (w : World) (K : Value → World → Prop) : Prop :=
  ef prog (oBi .append #[32, 32] 32 #[false, false] #[(.slice none 0 0), b_p0]) w fun t_0 w =>
  K t_0 w
theorem B43_eq (b_p0 : Value) (w : World) (K : Value → World → Prop) : denFn prog Try.f43 T43 [b_p0] w K = B43 b_p0 w K := by kernel_rfl
theorem c43 {b_p0 : Value} {w : World} {K : Value → World → Prop} (h : B43 b_p0 w K) : Calls prog 43 #[b_p0] w (Ret K) :=
  denFn_calls Try.func43 T43_ok (Eq.mpr (B43_eq b_p0 w K) h)


end Go.Proofs.Yteplajobjlehlaa
