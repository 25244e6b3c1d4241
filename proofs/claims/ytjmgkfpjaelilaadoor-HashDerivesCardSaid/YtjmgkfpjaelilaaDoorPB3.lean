import Derived.Test.YtjmgkfpjaelilaaDoorPI
set_option linter.all false
set_option maxRecDepth 100000
namespace Go.Proofs.YtjmgkfpjaelilaaDoor
open Go Hold
-- 38 unicode/utf8.decodeRuneInStringSlow
def T38 : Ann := (.seq .none (.seq .none (.seq (.seq .none (.seq (.seq .none .none) .none)) (.seq .none (.seq .none (.seq (.seq .none (.seq (.seq .none (.seq .none .none)) .none)) (.seq .none (.seq .none (.seq (.seq .none (.seq (.seq .none .none) .none)) (.seq .none (.seq (.seq .none (.seq (.seq .none .none) .none)) (.seq (.seq .none (.seq (.seq .none .none) .none)) (.seq .none (.seq (.seq .none (.seq (.seq .none .none) .none)) (.seq (.seq .none (.seq (.seq .none .none) .none)) (.seq .none (.seq (.seq .none (.seq (.seq .none .none) .none)) (.seq .none .none))))))))))))))))))
theorem T38_ok : chkFn prog Tryd.f38 T38 = true := by kernel_rfl
def B38 (s_p0 : Value) (w : World) (K : Value → World → Prop) : Prop :=
  pv prog (oBi .len #[9] 3 #[false] #[s_p0]) w fun t_0 w =>
  pvv prog (binOp .lss 3 t_0 (.int .i64 1)) w fun t_1 w =>
  cd t_1 (
    K (.tuple #[(.int .i32 65533), (.int .i64 0)]) w) <|
  pvv prog (Instr.index 9 s_p0 (.int .i64 0)) w fun t_2 w =>
  pvv prog (Instr.indexAt 76 (.pointer (some ⟨1, 0, none⟩)) t_2) w fun t_3 w =>
  ldv prog (Instr.loadAt 5 t_3) w fun t_4 w =>
  pvv prog (binOp .geq 5 t_4 (.int .u8 240)) w fun t_5 w =>
  cd t_5 (
    pvv prog (convert 5 21 t_4) w fun t_6 w =>
    pvv prog (binOp .shl 21 t_6 (.int .u64 31)) w fun t_7 w =>
    pvv prog (binOp .shr 21 t_7 (.int .u64 31)) w fun t_8 w =>
    pvv prog (Instr.index 9 s_p0 (.int .i64 0)) w fun t_9 w =>
    pvv prog (convert 5 21 t_9) w fun t_10 w =>
    pvv prog (binOp .andNot 21 t_10 t_8) w fun t_11 w =>
    pvv prog (binOp .and 21 (.int .i32 65533) t_8) w fun t_12 w =>
    pvv prog (binOp .or 21 t_11 t_12) w fun t_13 w =>
    K (.tuple #[t_13, (.int .i64 1)]) w) <|
  pvv prog (binOp .and 5 t_4 (.int .u8 7)) w fun t_14 w =>
  pvv prog (convert 5 3 t_14) w fun t_15 w =>
  pvv prog (binOp .shr 5 t_4 (.int .u64 4)) w fun t_16 w =>
  pvv prog (Instr.indexAt 79 (.pointer (some ⟨2, 0, none⟩)) t_16) w fun t_17 w =>
  ldv prog (Instr.loadAt 78 t_17) w fun t_18 w =>
  efv prog (Instr.alloc 78 true (.tuple #[])) w fun accept_19 w =>
  efu prog (Instr.storeAt 78 accept_19 t_18) w fun u_20 w =>
  pvv prog (binOp .lss 3 t_0 t_15) w fun t_21 w =>
  cd t_21 (
    K (.tuple #[(.int .i32 65533), (.int .i64 1)]) w) <|
  pvv prog (Instr.index 9 s_p0 (.int .i64 1)) w fun t_22 w =>
  pvv prog (Instr.fieldAt 78 accept_19 0) w fun t_23 w =>
  ldv prog (Instr.loadAt 5 t_23) w fun t_24 w =>
  pvv prog (binOp .lss 5 t_22 t_24) w fun t_25 w =>
  gate (some (t_25, false)) (fun K => pvv prog (Instr.fieldAt 78 accept_19 1) w K) w fun t_26 w =>
  gate (some (t_25, false)) (fun K => ldv prog (Instr.loadAt 5 t_26) w K) w fun t_27 w =>
  gate (some (t_25, false)) (fun K => K t_22 w) w fun t_28 w =>
  gate (some (t_25, false)) (fun K => pvv prog (binOp .lss 5 t_27 t_28) w K) w fun t_29 w =>
  pv prog (oPick t_25 (.bool true) t_29) w fun t_30 w =>
  cd t_30 (
    K (.tuple #[(.int .i32 65533), (.int .i64 1)]) w) <|
  pvv prog (binOp .leq 3 t_15 (.int .i64 2)) w fun t_31 w =>
  cd t_31 (
    pvv prog (binOp .and 5 t_2 (.int .u8 31)) w fun t_32 w =>
    pvv prog (convert 5 21 t_32) w fun t_33 w =>
    pvv prog (binOp .shl 21 t_33 (.int .u64 6)) w fun t_34 w =>
    pvv prog (binOp .and 5 t_22 (.int .u8 63)) w fun t_35 w =>
    pvv prog (convert 5 21 t_35) w fun t_36 w =>
    pvv prog (binOp .or 21 t_34 t_36) w fun t_37 w =>
    K (.tuple #[t_37, (.int .i64 2)]) w) <|
  pvv prog (Instr.index 9 s_p0 (.int .i64 2)) w fun t_38 w =>
  pvv prog (binOp .lss 5 t_38 (.int .u8 128)) w fun t_39 w =>
  gate (some (t_39, false)) (fun K => K t_38 w) w fun t_40 w =>
  gate (some (t_39, false)) (fun K => pvv prog (binOp .lss 5 (.int .u8 191) t_40) w K) w fun t_41 w =>
  pv prog (oPick t_39 (.bool true) t_41) w fun t_42 w =>
  cd t_42 (
    K (.tuple #[(.int .i32 65533), (.int .i64 1)]) w) <|
  pvv prog (binOp .leq 3 t_15 (.int .i64 3)) w fun t_43 w =>
  cd t_43 (
    pvv prog (binOp .and 5 t_2 (.int .u8 15)) w fun t_44 w =>
    pvv prog (convert 5 21 t_44) w fun t_45 w =>
    pvv prog (binOp .shl 21 t_45 (.int .u64 12)) w fun t_46 w =>
    pvv prog (binOp .and 5 t_22 (.int .u8 63)) w fun t_47 w =>
    pvv prog (convert 5 21 t_47) w fun t_48 w =>
    pvv prog (binOp .shl 21 t_48 (.int .u64 6)) w fun t_49 w =>
    pvv prog (binOp .or 21 t_46 t_49) w fun t_50 w =>
    pvv prog (binOp .and 5 t_38 (.int .u8 63)) w fun t_51 w =>
    pvv prog (convert 5 21 t_51) w fun t_52 w =>
    pvv prog (binOp .or 21 t_50 t_52) w fun t_53 w =>
    K (.tuple #[t_53, (.int .i64 3)]) w) <|
  pvv prog (Instr.index 9 s_p0 (.int .i64 3)) w fun t_54 w =>
  pvv prog (binOp .lss 5 t_54 (.int .u8 128)) w fun t_55 w =>
  gate (some (t_55, false)) (fun K => K t_54 w) w fun t_56 w =>
  gate (some (t_55, false)) (fun K => pvv prog (binOp .lss 5 (.int .u8 191) t_56) w K) w fun t_57 w =>
  pv prog (oPick t_55 (.bool true) t_57) w fun t_58 w =>
  cd t_58 (
    K (.tuple #[(.int .i32 65533), (.int .i64 1)]) w) <|
  pvv prog (binOp .and 5 t_2 (.int .u8 7)) w fun t_59 w =>
  pvv prog (convert 5 21 t_59) w fun t_60 w =>
  pvv prog (binOp .shl 21 t_60 (.int .u64 18)) w fun t_61 w =>
  pvv prog (binOp .and 5 t_22 (.int .u8 63)) w fun t_62 w =>
  pvv prog (convert 5 21 t_62) w fun t_63 w =>
  pvv prog (binOp .shl 21 t_63 (.int .u64 12)) w fun t_64 w =>
  pvv prog (binOp .or 21 t_61 t_64) w fun t_65 w =>
  pvv prog (binOp .and 5 t_38 (.int .u8 63)) w fun t_66 w =>
  pvv prog (convert 5 21 t_66) w fun t_67 w =>
  pvv prog (binOp .shl 21 t_67 (.int .u64 6)) w fun t_68 w =>
  pvv prog (binOp .or 21 t_65 t_68) w fun t_69 w =>
  pvv prog (binOp .and 5 t_54 (.int .u8 63)) w fun t_70 w =>
  pvv prog (convert 5 21 t_70) w fun t_71 w =>
  pvv prog (binOp .or 21 t_69 t_71) w fun t_72 w =>
  K (.tuple #[t_72, (.int .i64 4)]) w
theorem B38_eq (s_p0 : Value) (w : World) (K : Value → World → Prop) : denFn prog Tryd.f38 T38 [s_p0] w K = B38 s_p0 w K := by kernel_rfl
theorem c38 {s_p0 : Value} {w : World} {K : Value → World → Prop} (h : B38 s_p0 w K) : Calls prog 38 #[s_p0] w (Ret K) :=
  denFn_calls Tryd.func38 T38_ok (Eq.mpr (B38_eq s_p0 w K) h)

-- 15 holdfast/hash.Sum
def T15 : Ann := (.seq .none (.seq .none (.seq .none (.seq .none (.seq (.block (.loop 33488897 [0] (.seq (.seq .none (.seq .none .none)) (.seq (.block .none) .none)))) (.seq .none (.seq .none (.seq (.seq .none (.block (.loop 281440616972480 [6, 35] (.seq .none (.seq (.seq .none .none) (.seq (.block (.seq .none .none)) .none)))))) (.seq (.block (.loop 143833713099145280 [6] (.seq (.seq .none (.seq .none .none)) (.seq (.block .none) .none)))) (.seq (.seq .none (.block (.loop 618970019354459761297851136 [58] (.seq .none (.seq (.seq .none .none) (.seq (.block (.seq .none .none)) .none)))))) (.seq .none .none)))))))))))
theorem T15_ok : chkFn prog Tryd.f15 T15 = true := by kernel_rfl
def B15 (b_p0 : Value) (w : World) (K : Value → World → Prop) : Prop :=
  efv prog (Instr.alloc 23 true (.tuple #[])) w fun out_0 w =>
  pvv prog (Instr.build 52 #[(0, (.int .u32 1779033703)), (1, (.int .u32 3144134277)), (2, (.int .u32 1013904242)), (3, (.int .u32 2773480762)), (4, (.int .u32 1359893119)), (5, (.int .u32 2600822924)), (6, (.int .u32 528734635)), (7, (.int .u32 1541459225))]) w fun t_1 w =>
  efv prog (Instr.alloc 52 true (.tuple #[])) w fun h_2 w =>
  efu prog (Instr.storeAt 52 h_2 t_1) w fun u_3 w =>
  Calls prog 20 #[] w (Ret fun t_4 w =>
  pv prog (oBi .len #[25] 3 #[false] #[b_p0]) w fun t_5 w =>
  pvv prog (convert 3 55 t_5) w fun t_6 w =>
  pvv prog (binOp .shl 55 t_6 (.int .u64 3)) w fun t_7 w =>
  lp (fun σ w again_9 => pop σ fun b_8 σ => fin σ <|
    pv prog (oBi .len #[25] 3 #[false] #[b_8]) w fun t_10 w =>
    pvv prog (binOp .geq 3 t_10 (.int .i64 64)) w fun t_11 w =>
    cd t_11 (
      ldv prog (Instr.loadAt 52 h_2) w fun t_12 w =>
      Calls prog 21 #[t_12, t_4, b_8] w (Ret fun t_13 w =>
      efu prog (Instr.storeAt 52 h_2 t_13) w fun u_14 w =>
      pvv prog (Instr.sliceAt 25 b_8 (some (.int .i64 64)) none none) w fun t_15 w =>
      again_9 [t_15] w)) <|
    Calls prog 22 #[b_8] w (Ret fun t_16 w =>
    efv prog (Instr.buildSlice 25 1 #[(0, (.int .u8 128))]) w fun t_17 w =>
    ef prog (oBi .append #[25, 25] 25 #[false, false] #[t_16, t_17]) w fun t_18 w =>
    pv prog (oBi .len #[25] 3 #[false] #[b_8]) w fun t_19 w =>
    pvv prog (binOp .sub 3 (.int .i64 119) t_19) w fun t_20 w =>
    pvv prog (binOp .rem 3 t_20 (.int .i64 64)) w fun t_21 w =>
    ef prog (oBi .append #[25, 3] 25 #[false, false] #[t_18, t_21]) w fun t_22 w =>
    lp (fun σ w again_25 => pop σ fun end_23 σ => pop σ fun t_24 σ => fin σ <|
      pvv prog (binOp .lss 3 t_24 (.int .i64 8)) w fun t_26 w =>
      cd t_26 (
        pvv prog (binOp .mul 3 (.int .i64 8) t_24) w fun t_27 w =>
        pvv prog (binOp .sub 3 (.int .i64 56) t_27) w fun t_28 w =>
        pvv prog (binOp .shr 55 t_7 t_28) w fun t_29 w =>
        pvv prog (convert 55 5 t_29) w fun t_30 w =>
        efv prog (Instr.buildSlice 25 1 #[(0, t_30)]) w fun t_31 w =>
        ef prog (oBi .append #[25, 25] 25 #[false, false] #[end_23, t_31]) w fun t_32 w =>
        pvv prog (binOp .add 3 t_24 (.int .i64 1)) w fun t_33 w =>
        again_25 [t_32, t_33] w) <|
      lp (fun σ w again_35 => pop σ fun end_34 σ => fin σ <|
        pv prog (oBi .len #[25] 3 #[false] #[end_34]) w fun t_36 w =>
        pvv prog (binOp .gtr 3 t_36 (.int .i64 0)) w fun t_37 w =>
        cd t_37 (
          ldv prog (Instr.loadAt 52 h_2) w fun t_38 w =>
          Calls prog 21 #[t_38, t_4, end_34] w (Ret fun t_39 w =>
          efu prog (Instr.storeAt 52 h_2 t_39) w fun u_40 w =>
          pvv prog (Instr.sliceAt 25 end_34 (some (.int .i64 64)) none none) w fun t_41 w =>
          again_35 [t_41] w)) <|
        ldv prog (Instr.loadAt 52 h_2) w fun t_42 w =>
        lp (fun σ w again_44 => pop σ fun t_43 σ => fin σ <|
          pvv prog (binOp .lss 3 t_43 (.int .i64 8)) w fun t_45 w =>
          cd t_45 (
            pvv prog (Instr.index 52 t_42 t_43) w fun t_46 w =>
            pvv prog (binOp .mul 3 (.int .i64 4) t_43) w fun t_47 w =>
            pvv prog (binOp .mul 3 (.int .i64 4) t_43) w fun t_48 w =>
            pvv prog (binOp .add 3 t_48 (.int .i64 1)) w fun t_49 w =>
            pvv prog (binOp .mul 3 (.int .i64 4) t_43) w fun t_50 w =>
            pvv prog (binOp .add 3 t_50 (.int .i64 2)) w fun t_51 w =>
            pvv prog (binOp .mul 3 (.int .i64 4) t_43) w fun t_52 w =>
            pvv prog (binOp .add 3 t_52 (.int .i64 3)) w fun t_53 w =>
            pvv prog (binOp .shr 50 t_46 (.int .u64 24)) w fun t_54 w =>
            pvv prog (convert 50 5 t_54) w fun t_55 w =>
            pvv prog (binOp .shr 50 t_46 (.int .u64 16)) w fun t_56 w =>
            pvv prog (convert 50 5 t_56) w fun t_57 w =>
            pvv prog (binOp .shr 50 t_46 (.int .u64 8)) w fun t_58 w =>
            pvv prog (convert 50 5 t_58) w fun t_59 w =>
            pvv prog (convert 50 5 t_46) w fun t_60 w =>
            pvv prog (Instr.indexAt 23 out_0 t_47) w fun t_61 w =>
            efu prog (Instr.storeAt 5 t_61 t_55) w fun u_62 w =>
            pvv prog (Instr.indexAt 23 out_0 t_49) w fun t_63 w =>
            efu prog (Instr.storeAt 5 t_63 t_57) w fun u_64 w =>
            pvv prog (Instr.indexAt 23 out_0 t_51) w fun t_65 w =>
            efu prog (Instr.storeAt 5 t_65 t_59) w fun u_66 w =>
            pvv prog (Instr.indexAt 23 out_0 t_53) w fun t_67 w =>
            efu prog (Instr.storeAt 5 t_67 t_60) w fun u_68 w =>
            pvv prog (binOp .add 3 t_43 (.int .i64 1)) w fun t_69 w =>
            again_44 [t_69] w) <|
          ldv prog (Instr.loadAt 23 out_0) w fun t_70 w =>
          efu prog (Instr.storeAt 23 out_0 t_70) w fun u_71 w =>
          ∃ r_72, (do loadVar 23 (← asAddr out_0)).run prog w = .ok r_72 w ∧ K r_72 w) [(.int .i64 0)] w) [end_23] w) [t_22, (.int .i64 0)] w)) [b_p0] w)
theorem B15_eq (b_p0 : Value) (w : World) (K : Value → World → Prop) : denFn prog Tryd.f15 T15 [b_p0] w K = B15 b_p0 w K := by kernel_rfl
theorem c15 {b_p0 : Value} {w : World} {K : Value → World → Prop} (h : B15 b_p0 w K) : Calls prog 15 #[b_p0] w (Ret K) :=
  denFn_calls Tryd.func15 T15_ok (Eq.mpr (B15_eq b_p0 w K) h)

-- 43 internal/bytealg.IndexRabinKarp[string]
def T43 : Ann := (.seq .none (.seq .none (.seq .none (.seq .none (.seq (.seq .none (.block (.loop 1073480448 [8, 9] (.seq (.seq .none (.seq .none .none)) (.seq (.block .none) .none))))) (.seq (.seq .none (.seq (.seq .none .none) .none)) (.seq (.seq .none (.block (.loop 2417851639227059326158096 [8, 10] (.seq (.seq .none (.seq .none .none)) (.block (.seq .none (.seq .none (.seq .none (.seq .none (.seq .none (.seq (.seq .none .none) .none))))))))))) (.seq .none .none))))))))
theorem T43_ok : chkFn prog Tryd.f43 T43 = true := by kernel_rfl
def B43 (s_p0 sep_p1 : Value) (w : World) (K : Value → World → Prop) : Prop :=
  Calls prog 45 #[sep_p1] w (Ret fun t_0 w =>
  pvv prog (Instr.extract t_0 0) w fun t_1 w =>
  pvv prog (Instr.extract t_0 1) w fun t_2 w =>
  pv prog (oBi .len #[9] 3 #[false] #[sep_p1]) w fun t_3 w =>
  lp (fun σ w again_6 => pop σ fun h_4 σ => pop σ fun i_5 σ => fin σ <|
    pvv prog (binOp .lss 3 i_5 t_3) w fun t_7 w =>
    cd t_7 (
      pvv prog (binOp .mul 50 h_4 (.int .u32 16777619)) w fun t_8 w =>
      pvv prog (Instr.index 9 s_p0 i_5) w fun t_9 w =>
      pvv prog (convert 5 50 t_9) w fun t_10 w =>
      pvv prog (binOp .add 50 t_8 t_10) w fun t_11 w =>
      pvv prog (binOp .add 3 i_5 (.int .i64 1)) w fun t_12 w =>
      again_6 [t_11, t_12] w) <|
    pvv prog (oEq .eql 50 (.tmp 30) (.tmp 31) h_4 t_1) w fun t_13 w =>
    gate (some (t_13, true)) (fun K => K s_p0 w) w fun t_14 w =>
    gate (some (t_13, true)) (fun K => K t_3 w) w fun t_15 w =>
    gate (some (t_13, true)) (fun K => pvv prog (Instr.sliceAt 9 t_14 none (some t_15) none) w K) w fun t_16 w =>
    gate (some (t_13, true)) (fun K => K sep_p1 w) w fun t_17 w =>
    gate (some (t_13, true)) (fun K => pvv prog (oEq .eql 9 (.tmp 36) (.tmp 37) t_16 t_17) w K) w fun t_18 w =>
    pv prog (oPick t_13 t_18 (.bool false)) w fun t_19 w =>
    cd t_19 (
      K (.int .i64 0) w) <|
    lp (fun σ w again_22 => pop σ fun h_20 σ => pop σ fun i_21 σ => fin σ <|
      pv prog (oBi .len #[9] 3 #[false] #[s_p0]) w fun t_23 w =>
      pvv prog (binOp .lss 3 i_21 t_23) w fun t_24 w =>
      cd t_24 (
        pvv prog (binOp .mul 50 h_20 (.int .u32 16777619)) w fun t_25 w =>
        pvv prog (Instr.index 9 s_p0 i_21) w fun t_26 w =>
        pvv prog (convert 5 50 t_26) w fun t_27 w =>
        pvv prog (binOp .add 50 t_25 t_27) w fun t_28 w =>
        pvv prog (binOp .sub 3 i_21 t_3) w fun t_29 w =>
        pvv prog (Instr.index 9 s_p0 t_29) w fun t_30 w =>
        pvv prog (convert 5 50 t_30) w fun t_31 w =>
        pvv prog (binOp .mul 50 t_2 t_31) w fun t_32 w =>
        pvv prog (binOp .sub 50 t_28 t_32) w fun t_33 w =>
        pvv prog (binOp .add 3 i_21 (.int .i64 1)) w fun t_34 w =>
        pvv prog (oEq .eql 50 (.tmp 65) (.tmp 66) t_33 t_1) w fun t_35 w =>
        gate (some (t_35, true)) (fun K => K s_p0 w) w fun t_36 w =>
        gate (some (t_35, true)) (fun K => K t_34 w) w fun t_37 w =>
        gate (some (t_35, true)) (fun K => K t_3 w) w fun t_38 w =>
        gate (some (t_35, true)) (fun K => pvv prog (binOp .sub 3 t_37 t_38) w K) w fun t_39 w =>
        gate (some (t_35, true)) (fun K => K t_34 w) w fun t_40 w =>
        gate (some (t_35, true)) (fun K => pvv prog (Instr.sliceAt 9 t_36 (some t_39) (some t_40) none) w K) w fun t_41 w =>
        gate (some (t_35, true)) (fun K => K sep_p1 w) w fun t_42 w =>
        gate (some (t_35, true)) (fun K => pvv prog (oEq .eql 9 (.tmp 74) (.tmp 75) t_41 t_42) w K) w fun t_43 w =>
        pv prog (oPick t_35 t_43 (.bool false)) w fun t_44 w =>
        cd t_44 (
          pvv prog (binOp .sub 3 t_34 t_3) w fun t_45 w =>
          K t_45 w) <|
        again_22 [t_33, t_34] w) <|
      K (.int .i64 (-1)) w) [h_4, t_3] w) [(.int .u32 0), (.int .i64 0)] w)
theorem B43_eq (s_p0 sep_p1 : Value) (w : World) (K : Value → World → Prop) : denFn prog Tryd.f43 T43 [s_p0, sep_p1] w K = B43 s_p0 sep_p1 w K := by kernel_rfl
theorem c43 {s_p0 sep_p1 : Value} {w : World} {K : Value → World → Prop} (h : B43 s_p0 sep_p1 w K) : Calls prog 43 #[s_p0, sep_p1] w (Ret K) :=
  denFn_calls Tryd.func43 T43_ok (Eq.mpr (B43_eq s_p0 sep_p1 w K) h)

-- 3 holdfast/holdfastlaw07.HashDerives
def T3 : Ann := (.seq .none (.seq .none (.seq .none (.seq (.draw [(0, .eff), (1, .pure), (2, .load), (3, .load), (4, .pure), (5, .pure), (6, .pure), (7, .pure), (8, .pure), (9, .pure), (10, .pure), (11, .pure), (13, .pure), (16, .pure), (12, .load), (15, .load), (14, .eff), (17, .eff), (18, .pure), (19, .pure), (20, .pure)]) .none))))
theorem T3_ok : chkFn prog Tryd.f3 T3 = true := by kernel_rfl
def B3 (key_p0 labels_p1 b_p2 : Value) (w : World) (K : Value → World → Prop) : Prop :=
  efv prog (Instr.box 23 key_p0) w fun key_0 w =>
  ldv prog (Instr.loadAt 23 key_0) w fun t_1 w =>
  Calls prog 4 #[t_1, labels_p1] w (Ret fun t_2 w =>
  pvv prog (Instr.extract t_2 0) w fun t_3 w =>
  pvv prog (Instr.extract t_2 1) w fun t_4 w =>
  efv prog (Instr.alloc 23 true (.tuple #[])) w fun x_5 w =>
  efu prog (Instr.storeAt 23 x_5 t_3) w fun u_6 w =>
  ldv prog (Instr.loadAt 23 key_0) w fun t_7 w =>
  Calls prog 5 #[t_7, labels_p1] w (Ret fun t_8 w =>
  pvv prog (Instr.extract t_8 0) w fun t_9 w =>
  pvv prog (Instr.extract t_8 1) w fun t_10 w =>
  efv prog (Instr.alloc 23 true (.tuple #[])) w fun y_11 w =>
  efu prog (Instr.storeAt 23 y_11 t_9) w fun u_12 w =>
  dr w fun w =>
  Calls prog 6 #[] w (Ret fun t_13 w =>
  bindS (vN (Instr.loadAt 23 x_5)) fun m_15 => gate (some (t_13, true)) (fun K => ldv prog (Instr.loadAt 23 x_5) w K) w fun t_14 w =>
  bindS (vN (Instr.loadAt 23 y_11)) fun m_17 => gate (some (t_13, true)) (fun K => ldv prog (Instr.loadAt 23 y_11) w K) w fun t_16 w =>
  gate (some (t_13, true)) (fun K => pvv prog (oEq .eql 23 (.tmp 25) (.tmp 26) t_14 t_16) w K) w fun t_18 w =>
  pv prog (oPick t_13 t_18 (.bool false)) w fun t_19 w =>
  gate (some (t_19, true)) (fun K => K t_4 w) w fun t_20 w =>
  gate (some (t_19, true)) (fun K => K t_10 w) w fun t_21 w =>
  gate (some (t_19, true)) (fun K => pvv prog (oEq .eql 26 (.tmp 30) (.tmp 31) t_20 t_21) w K) w fun t_22 w =>
  pv prog (oPick t_19 t_22 (.bool false)) w fun t_23 w =>
  gate (some (t_23, true)) (fun K => K b_p2 w) w fun t_24 w =>
  gate (some (t_23, true)) (fun K => K b_p2 w) w fun t_25 w =>
  bindS (vN (Instr.loadAt 23 key_0)) fun m_27 => gate (some (t_23, true)) (fun K => ldv prog (Instr.loadAt 23 key_0) w K) w fun t_26 w =>
  bindS (vN (Instr.loadAt 23 key_0)) fun m_29 => gate (some (t_23, true)) (fun K => ldv prog (Instr.loadAt 23 key_0) w K) w fun t_28 w =>
  gate (some (t_23, true)) (fun K => Calls prog 7 #[t_26, t_24] w (Ret fun s_35 w => stay prog (some (t_23, true)) m_29 t_28 w <| stay prog (some (t_13, true)) m_17 t_16 w <| stay prog (some (t_13, true)) m_15 t_14 w <| K s_35 w)) w fun t_30 w =>
  gate (some (t_23, true)) (fun K => Calls prog 8 #[t_28, t_25] w (Ret fun s_34 w => stay prog (some (t_23, true)) m_27 t_26 w <| stay prog (some (t_13, true)) m_17 t_16 w <| stay prog (some (t_13, true)) m_15 t_14 w <| K s_34 w)) w fun t_31 w =>
  gate (some (t_23, true)) (fun K => pvv prog (oEq .eql 23 (.tmp 37) (.tmp 40) t_30 t_31) w K) w fun t_32 w =>
  pv prog (oPick t_23 t_32 (.bool false)) w fun t_33 w =>
  K t_33 w)))
theorem B3_eq (key_p0 labels_p1 b_p2 : Value) (w : World) (K : Value → World → Prop) : denFn prog Tryd.f3 T3 [key_p0, labels_p1, b_p2] w K = B3 key_p0 labels_p1 b_p2 w K := by kernel_rfl
theorem c3 {key_p0 labels_p1 b_p2 : Value} {w : World} {K : Value → World → Prop} (h : B3 key_p0 labels_p1 b_p2 w K) : Calls prog 3 #[key_p0, labels_p1, b_p2] w (Ret K) :=
  denFn_calls Tryd.func3 T3_ok (Eq.mpr (B3_eq key_p0 labels_p1 b_p2 w K) h)

-- 12 holdfast/holdfastref07.Tag
def T12 : Ann := (.seq .none (.seq .none (.seq .none (.meet 258080 [5] (.seq .none (.seq .none .none)) (.seq (.block (.loop 16515104 [5] (.seq (.seq .none (.seq .none .none)) (.block .none)))) (.seq .none (.seq (.seq .none (.block (.loop 17592169267648 [6, 7, 8] (.seq (.seq .none (.seq .none .none)) (.seq (.block (.seq .none .none)) .none))))) (.seq .none (.seq .none (.seq .none .none))))))))))
theorem T12_ok : chkFn prog Tryd.f12 T12 = true := by kernel_rfl
def B12 (key_p0 b_p1 : Value) (w : World) (K : Value → World → Prop) : Prop :=
  efv prog (Instr.alloc 23 true (.tuple #[])) w fun t_0 w =>
  ef prog (oBi .append #[25, 25] 25 #[false, false] #[(.slice none 0 0), key_p0]) w fun t_1 w =>
  jn (fun σ w => pop σ fun k_2 σ => fin σ <|
    lp (fun σ w again_4 => pop σ fun k_3 σ => fin σ <|
      pv prog (oBi .len #[25] 3 #[false] #[k_3]) w fun t_5 w =>
      pvv prog (binOp .lss 3 t_5 (.int .i64 64)) w fun t_6 w =>
      cd t_6 (
        efv prog (Instr.buildSlice 25 1 #[(0, (.int .u8 0))]) w fun t_7 w =>
        ef prog (oBi .append #[25, 25] 25 #[false, false] #[k_3, t_7]) w fun t_8 w =>
        again_4 [t_8] w) <|
      lp (fun σ w again_12 => pop σ fun in_9 σ => pop σ fun out_10 σ => pop σ fun i_11 σ => fin σ <|
        pvv prog (binOp .lss 3 i_11 (.int .i64 64)) w fun t_13 w =>
        cd t_13 (
          pvv prog (Instr.indexAt 25 k_3 i_11) w fun t_14 w =>
          ldv prog (Instr.loadAt 5 t_14) w fun t_15 w =>
          pvv prog (binOp .xor 5 t_15 (.int .u8 54)) w fun t_16 w =>
          efv prog (Instr.buildSlice 25 1 #[(0, t_16)]) w fun t_17 w =>
          ef prog (oBi .append #[25, 25] 25 #[false, false] #[in_9, t_17]) w fun t_18 w =>
          pvv prog (Instr.indexAt 25 k_3 i_11) w fun t_19 w =>
          ldv prog (Instr.loadAt 5 t_19) w fun t_20 w =>
          pvv prog (binOp .xor 5 t_20 (.int .u8 92)) w fun t_21 w =>
          efv prog (Instr.buildSlice 25 1 #[(0, t_21)]) w fun t_22 w =>
          ef prog (oBi .append #[25, 25] 25 #[false, false] #[out_10, t_22]) w fun t_23 w =>
          pvv prog (binOp .add 3 i_11 (.int .i64 1)) w fun t_24 w =>
          again_12 [t_18, t_23, t_24] w) <|
        ef prog (oBi .append #[25, 25] 25 #[false, false] #[in_9, b_p1]) w fun t_25 w =>
        Calls prog 16 #[t_25] w (Ret fun t_26 w =>
        Calls prog 13 #[t_26] w (Ret fun t_27 w =>
        ef prog (oBi .append #[25, 25] 25 #[false, false] #[out_10, t_27]) w fun t_28 w =>
        Calls prog 16 #[t_28] w (Ret fun t_29 w =>
        efu prog (Instr.storeAt 23 t_0 t_29) w fun u_30 w =>
        ∃ r_31, (do loadVar 23 (← asAddr t_0)).run prog w = .ok r_31 w ∧ K r_31 w)))) [(.slice none 0 0), (.slice none 0 0), (.int .i64 0)] w) [k_2] w) fun k_32 =>
  pv prog (oBi .len #[25] 3 #[false] #[t_1]) w fun t_33 w =>
  pvv prog (binOp .gtr 3 t_33 (.int .i64 64)) w fun t_34 w =>
  cd t_34 (
    Calls prog 16 #[key_p0] w (Ret fun t_35 w =>
    Calls prog 13 #[t_35] w (Ret fun t_36 w =>
    k_32 [t_36] w))) <|
  k_32 [t_1] w
theorem B12_eq (key_p0 b_p1 : Value) (w : World) (K : Value → World → Prop) : denFn prog Tryd.f12 T12 [key_p0, b_p1] w K = B12 key_p0 b_p1 w K := by kernel_rfl
theorem c12 {key_p0 b_p1 : Value} {w : World} {K : Value → World → Prop} (h : B12 key_p0 b_p1 w K) : Calls prog 12 #[key_p0, b_p1] w (Ret K) :=
  denFn_calls Tryd.func12 T12_ok (Eq.mpr (B12_eq key_p0 b_p1 w K) h)

-- 23 holdfast/holdfastref07.constants
def T23 : Ann := (.seq .none (.seq .none .none))
theorem T23_ok : chkFn prog Tryd.f23 T23 = true := by kernel_rfl
def B23 (w : World) (K : Value → World → Prop) : Prop :=
  efv prog (Instr.buildSlice 58 64 #[(0, (.int .u32 1116352408)), (1, (.int .u32 1899447441)), (2, (.int .u32 3049323471)), (3, (.int .u32 3921009573)), (4, (.int .u32 961987163)), (5, (.int .u32 1508970993)), (6, (.int .u32 2453635748)), (7, (.int .u32 2870763221)), (8, (.int .u32 3624381080)), (9, (.int .u32 310598401)), (10, (.int .u32 607225278)), (11, (.int .u32 1426881987)), (12, (.int .u32 1925078388)), (13, (.int .u32 2162078206)), (14, (.int .u32 2614888103)), (15, (.int .u32 3248222580)), (16, (.int .u32 3835390401)), (17, (.int .u32 4022224774)), (18, (.int .u32 264347078)), (19, (.int .u32 604807628)), (20, (.int .u32 770255983)), (21, (.int .u32 1249150122)), (22, (.int .u32 1555081692)), (23, (.int .u32 1996064986)), (24, (.int .u32 2554220882)), (25, (.int .u32 2821834349)), (26, (.int .u32 2952996808)), (27, (.int .u32 3210313671)), (28, (.int .u32 3336571891)), (29, (.int .u32 3584528711)), (30, (.int .u32 113926993)), (31, (.int .u32 338241895)), (32, (.int .u32 666307205)), (33, (.int .u32 773529912)), (34, (.int .u32 1294757372)), (35, (.int .u32 1396182291)), (36, (.int .u32 1695183700)), (37, (.int .u32 1986661051)), (38, (.int .u32 2177026350)), (39, (.int .u32 2456956037)), (40, (.int .u32 2730485921)), (41, (.int .u32 2820302411)), (42, (.int .u32 3259730800)), (43, (.int .u32 3345764771)), (44, (.int .u32 3516065817)), (45, (.int .u32 3600352804)), (46, (.int .u32 4094571909)), (47, (.int .u32 275423344)), (48, (.int .u32 430227734)), (49, (.int .u32 506948616)), (50, (.int .u32 659060556)), (51, (.int .u32 883997877)), (52, (.int .u32 958139571)), (53, (.int .u32 1322822218)), (54, (.int .u32 1537002063)), (55, (.int .u32 1747873779)), (56, (.int .u32 1955562222)), (57, (.int .u32 2024104815)), (58, (.int .u32 2227730452)), (59, (.int .u32 2361852424)), (60, (.int .u32 2428436474)), (61, (.int .u32 2756734187)), (62, (.int .u32 3204031479)), (63, (.int .u32 3329325298))]) w fun t_0 w =>
  K t_0 w
theorem B23_eq (w : World) (K : Value → World → Prop) : denFn prog Tryd.f23 T23 [] w K = B23  w K := by kernel_rfl
theorem c23 {w : World} {K : Value → World → Prop} (h : B23  w K) : Calls prog 23 #[] w (Ret K) :=
  denFn_calls Tryd.func23 T23_ok (Eq.mpr (B23_eq  w K) h)

-- 6 holdfast/holdfastlaw07.live
def T6 : Ann := (.seq .none (.seq .none .none))
theorem T6_ok : chkFn prog Tryd.f6 T6 = true := by kernel_rfl
def B6 (w : World) (K : Value → World → Prop) : Prop :=
  Calls prog 15 #[(.slice none 0 0)] w (Ret fun t_0 w =>
  Calls prog 14 #[t_0] w (Ret fun t_1 w =>
  pvv prog (oEq .eql 9 (.tmp 2) (.const (.string ⟨#[101, 51, 98, 48, 99, 52, 52, 50, 57, 56, 102, 99, 49, 99, 49, 52, 57, 97, 102, 98, 102, 52, 99, 56, 57, 57, 54, 102, 98, 57, 50, 52, 50, 55, 97, 101, 52, 49, 101, 52, 54, 52, 57, 98, 57, 51, 52, 99, 97, 52, 57, 53, 57, 57, 49, 98, 55, 56, 53, 50, 98, 56, 53, 53]⟩)) t_1 (.string ⟨#[101, 51, 98, 48, 99, 52, 52, 50, 57, 56, 102, 99, 49, 99, 49, 52, 57, 97, 102, 98, 102, 52, 99, 56, 57, 57, 54, 102, 98, 57, 50, 52, 50, 55, 97, 101, 52, 49, 101, 52, 54, 52, 57, 98, 57, 51, 52, 99, 97, 52, 57, 53, 57, 57, 49, 98, 55, 56, 53, 50, 98, 56, 53, 53]⟩)) w fun t_2 w =>
  gate (some (t_2, true)) (fun K => efv prog (Instr.buildSlice 25 3 #[(0, (.int .u8 97)), (1, (.int .u8 98)), (2, (.int .u8 99))]) w K) w fun t_3 w =>
  gate (some (t_2, true)) (fun K => efv prog (convert 25 25 t_3) w K) w fun t_4 w =>
  gate (some (t_2, true)) (fun K => Calls prog 15 #[t_4] w (Ret K)) w fun t_5 w =>
  gate (some (t_2, true)) (fun K => Calls prog 14 #[t_5] w (Ret K)) w fun t_6 w =>
  gate (some (t_2, true)) (fun K => pvv prog (oEq .eql 9 (.tmp 8) (.const (.string ⟨#[98, 97, 55, 56, 49, 54, 98, 102, 56, 102, 48, 49, 99, 102, 101, 97, 52, 49, 52, 49, 52, 48, 100, 101, 53, 100, 97, 101, 50, 50, 50, 51, 98, 48, 48, 51, 54, 49, 97, 51, 57, 54, 49, 55, 55, 97, 57, 99, 98, 52, 49, 48, 102, 102, 54, 49, 102, 50, 48, 48, 49, 53, 97, 100]⟩)) t_6 (.string ⟨#[98, 97, 55, 56, 49, 54, 98, 102, 56, 102, 48, 49, 99, 102, 101, 97, 52, 49, 52, 49, 52, 48, 100, 101, 53, 100, 97, 101, 50, 50, 50, 51, 98, 48, 48, 51, 54, 49, 97, 51, 57, 54, 49, 55, 55, 97, 57, 99, 98, 52, 49, 48, 102, 102, 54, 49, 102, 50, 48, 48, 49, 53, 97, 100]⟩)) w K) w fun t_7 w =>
  pv prog (oPick t_2 t_7 (.bool false)) w fun t_8 w =>
  K t_8 w))
theorem B6_eq (w : World) (K : Value → World → Prop) : denFn prog Tryd.f6 T6 [] w K = B6  w K := by kernel_rfl
theorem c6 {w : World} {K : Value → World → Prop} (h : B6  w K) : Calls prog 6 #[] w (Ret K) :=
  denFn_calls Tryd.func6 T6_ok (Eq.mpr (B6_eq  w K) h)

-- 29 (*strings.Builder).Grow
def T29 : Ann := (.seq .none (.meet 448 [] (.seq .none (.seq .none .none)) (.seq (.draw [(0, .pure), (1, .pure), (2, .pure), (5, .pure), (6, .pure), (7, .pure), (11, .pure), (3, .load), (4, .pure), (8, .load), (9, .pure), (10, .pure), (12, .pure)]) (.seq .none .none))))
theorem T29_ok : chkFn prog Tryd.f29 T29 = true := by kernel_rfl
def B29 (b_p0 n_p1 : Value) (w : World) (K : Value → World → Prop) : Prop :=
  Calls prog 26 #[b_p0] w (Ret fun t_0 w =>
  jn (fun σ w => fin σ <|
    dr w fun w =>
    pv prog (oNil b_p0) w fun t_1 w =>
    pvv prog (Instr.fieldAt 44 t_1 1) w fun t_2 w =>
    pv prog (oNil b_p0) w fun t_3 w =>
    pvv prog (Instr.fieldAt 44 t_3 1) w fun t_4 w =>
    bindS (vN (Instr.loadAt 25 t_2)) fun m_6 => ldv prog (Instr.loadAt 25 t_2) w fun t_5 w =>
    pv prog (oBi .cap #[25] 3 #[false] #[t_5]) w fun t_7 w =>
    bindS (vN (Instr.loadAt 25 t_4)) fun m_9 => ldv prog (Instr.loadAt 25 t_4) w fun t_8 w =>
    pv prog (oBi .len #[25] 3 #[false] #[t_8]) w fun t_10 w =>
    pvv prog (binOp .sub 3 t_7 t_10) w fun t_11 w =>
    pvv prog (binOp .lss 3 t_11 n_p1) w fun t_12 w =>
    cd t_12 (
      Calls prog 36 #[b_p0, n_p1] w (Ret fun t_13 w =>
      K (.tuple #[]) w)) <|
    K (.tuple #[]) w) fun k_14 =>
  pvv prog (binOp .lss 3 n_p1 (.int .i64 0)) w fun t_15 w =>
  cd t_15 (
    pvv prog (Instr.makeInterface 9 (.string ⟨#[115, 116, 114, 105, 110, 103, 115, 46, 66, 117, 105, 108, 100, 101, 114, 46, 71, 114, 111, 119, 58, 32, 110, 101, 103, 97, 116, 105, 118, 101, 32, 99, 111, 117, 110, 116]⟩)) w fun t_16 w =>
    efv prog (Instr.panic t_16) w fun u_17 w =>
    k_14 [] w) <|
  k_14 [] w)
theorem B29_eq (b_p0 n_p1 : Value) (w : World) (K : Value → World → Prop) : denFn prog Tryd.f29 T29 [b_p0, n_p1] w K = B29 b_p0 n_p1 w K := by kernel_rfl
theorem c29 {b_p0 n_p1 : Value} {w : World} {K : Value → World → Prop} (h : B29 b_p0 n_p1 w K) : Calls prog 29 #[b_p0, n_p1] w (Ret K) :=
  denFn_calls Tryd.func29 T29_ok (Eq.mpr (B29_eq b_p0 n_p1 w K) h)

-- 14 holdfast/hash.Hex
def T14 : Ann := (.seq .none (.seq .none (.seq (.seq .none (.block (.loop 524192 [7] (.seq .none (.seq (.seq .none .none) (.seq (.block (.seq .none (.seq .none .none))) .none)))))) (.seq .none .none))))
theorem T14_ok : chkFn prog Tryd.f14 T14 = true := by kernel_rfl
def B14 (h_p0 : Value) (w : World) (K : Value → World → Prop) : Prop :=
  efv prog (Instr.box 23 h_p0) w fun h_0 w =>
  efv prog (Instr.alloc 44 true (.tuple #[])) w fun s_1 w =>
  ldv prog (Instr.loadAt 23 h_0) w fun t_2 w =>
  lp (fun σ w again_4 => pop σ fun t_3 σ => fin σ <|
    pvv prog (binOp .lss 3 t_3 (.int .i64 32)) w fun t_5 w =>
    cd t_5 (
      pvv prog (Instr.index 23 t_2 t_3) w fun t_6 w =>
      pvv prog (binOp .shr 5 t_6 (.int .u64 4)) w fun t_7 w =>
      pvv prog (Instr.index 9 (.string ⟨#[48, 49, 50, 51, 52, 53, 54, 55, 56, 57, 97, 98, 99, 100, 101, 102]⟩) t_7) w fun t_8 w =>
      Calls prog 18 #[s_1, t_8] w (Ret fun t_9 w =>
      pvv prog (binOp .and 5 t_6 (.int .u8 15)) w fun t_10 w =>
      pvv prog (Instr.index 9 (.string ⟨#[48, 49, 50, 51, 52, 53, 54, 55, 56, 57, 97, 98, 99, 100, 101, 102]⟩) t_10) w fun t_11 w =>
      Calls prog 18 #[s_1, t_11] w (Ret fun t_12 w =>
      pvv prog (binOp .add 3 t_3 (.int .i64 1)) w fun t_13 w =>
      again_4 [t_13] w))) <|
    Calls prog 19 #[s_1] w (Ret fun t_14 w =>
    K t_14 w)) [(.int .i64 0)] w
theorem B14_eq (h_p0 : Value) (w : World) (K : Value → World → Prop) : denFn prog Tryd.f14 T14 [h_p0] w K = B14 h_p0 w K := by kernel_rfl
theorem c14 {h_p0 : Value} {w : World} {K : Value → World → Prop} (h : B14 h_p0 w K) : Calls prog 14 #[h_p0] w (Ret K) :=
  denFn_calls Tryd.func14 T14_ok (Eq.mpr (B14_eq h_p0 w K) h)

-- 4 holdfast/hash.Derive
def T4 : Ann := (.seq .none (.seq .none (.seq (.seq .none (.seq (.seq .none .none) .none)) (.seq .none .none))))
theorem T4_ok : chkFn prog Tryd.f4 T4 = true := by kernel_rfl
def B4 (key_p0 labels_p1 : Value) (w : World) (K : Value → World → Prop) : Prop :=
  efv prog (Instr.box 23 key_p0) w fun key_0 w =>
  efv prog (Instr.alloc 23 true (.tuple #[])) w fun t_1 w =>
  Calls prog 9 #[labels_p1] w (Ret fun t_2 w =>
  pvv prog (Instr.extract t_2 0) w fun t_3 w =>
  pvv prog (Instr.extract t_2 1) w fun t_4 w =>
  pvv prog (oEq .neq 26 (.tmp 13) (.const (.int .i64 0)) t_4 (.int .i64 0)) w fun t_5 w =>
  cd t_5 (
    pvv prog (Instr.build 23 #[]) w fun t_6 w =>
    efu prog (Instr.storeAt 23 t_1 t_6) w fun u_7 w =>
    ∃ r_8, (do loadVar 23 (← asAddr t_1)).run prog w = .ok r_8 w ∧ K (.tuple #[r_8, t_4]) w) <|
  pvv prog (Instr.sliceAt 23 key_0 none none none) w fun t_9 w =>
  Calls prog 10 #[t_9, t_3] w (Ret fun t_10 w =>
  efu prog (Instr.storeAt 23 t_1 t_10) w fun u_11 w =>
  ∃ r_12, (do loadVar 23 (← asAddr t_1)).run prog w = .ok r_12 w ∧ K (.tuple #[r_12, (.int .i64 0)]) w))
theorem B4_eq (key_p0 labels_p1 : Value) (w : World) (K : Value → World → Prop) : denFn prog Tryd.f4 T4 [key_p0, labels_p1] w K = B4 key_p0 labels_p1 w K := by kernel_rfl
theorem c4 {key_p0 labels_p1 : Value} {w : World} {K : Value → World → Prop} (h : B4 key_p0 labels_p1 w K) : Calls prog 4 #[key_p0, labels_p1] w (Ret K) :=
  denFn_calls Tryd.func4 T4_ok (Eq.mpr (B4_eq key_p0 labels_p1 w K) h)

-- 32 unicode/utf8.DecodeRuneInString
def T32 : Ann := (.seq .none (.seq (.seq .none (.seq (.seq .none .none) .none)) .none))
theorem T32_ok : chkFn prog Tryd.f32 T32 = true := by kernel_rfl
def B32 (s_p0 : Value) (w : World) (K : Value → World → Prop) : Prop :=
  pvv prog (oEq .neq 9 (.tmp 4) (.const (.string ⟨#[]⟩)) s_p0 (.string ⟨#[]⟩)) w fun t_0 w =>
  gate (some (t_0, true)) (fun K => K s_p0 w) w fun t_1 w =>
  gate (some (t_0, true)) (fun K => pvv prog (Instr.index 9 t_1 (.int .i64 0)) w K) w fun t_2 w =>
  gate (some (t_0, true)) (fun K => pvv prog (binOp .lss 5 t_2 (.int .u8 128)) w K) w fun t_3 w =>
  pv prog (oPick t_0 t_3 (.bool false)) w fun t_4 w =>
  cd t_4 (
    pvv prog (Instr.index 9 s_p0 (.int .i64 0)) w fun t_5 w =>
    pvv prog (convert 5 21 t_5) w fun t_6 w =>
    K (.tuple #[t_6, (.int .i64 1)]) w) <|
  Calls prog 38 #[s_p0] w (Ret fun t_7 w =>
  pvv prog (Instr.extract t_7 0) w fun t_8 w =>
  pvv prog (Instr.extract t_7 1) w fun t_9 w =>
  K (.tuple #[t_8, t_9]) w)
theorem B32_eq (s_p0 : Value) (w : World) (K : Value → World → Prop) : denFn prog Tryd.f32 T32 [s_p0] w K = B32 s_p0 w K := by kernel_rfl
theorem c32 {s_p0 : Value} {w : World} {K : Value → World → Prop} (h : B32 s_p0 w K) : Calls prog 32 #[s_p0] w (Ret K) :=
  denFn_calls Tryd.func32 T32_ok (Eq.mpr (B32_eq s_p0 w K) h)

-- 18 (*strings.Builder).WriteByte
def T18 : Ann := (.seq .none (.seq .none (.seq .none (.seq .none .none))))
theorem T18_ok : chkFn prog Tryd.f18 T18 = true := by kernel_rfl
def B18 (b_p0 c_p1 : Value) (w : World) (K : Value → World → Prop) : Prop :=
  Calls prog 26 #[b_p0] w (Ret fun t_0 w =>
  pv prog (oNil b_p0) w fun t_1 w =>
  pvv prog (Instr.fieldAt 44 t_1 1) w fun t_2 w =>
  ldv prog (Instr.loadAt 25 t_2) w fun t_3 w =>
  efv prog (Instr.buildSlice 25 1 #[(0, c_p1)]) w fun t_4 w =>
  ef prog (oBi .append #[25, 25] 25 #[false, false] #[t_3, t_4]) w fun t_5 w =>
  pv prog (oNil b_p0) w fun t_6 w =>
  pvv prog (Instr.fieldAt 44 t_6 1) w fun t_7 w =>
  efu prog (Instr.storeAt 25 t_7 t_5) w fun u_8 w =>
  K .nilIface w)
theorem B18_eq (b_p0 c_p1 : Value) (w : World) (K : Value → World → Prop) : denFn prog Tryd.f18 T18 [b_p0, c_p1] w K = B18 b_p0 c_p1 w K := by kernel_rfl
theorem c18 {b_p0 c_p1 : Value} {w : World} {K : Value → World → Prop} (h : B18 b_p0 c_p1 w K) : Calls prog 18 #[b_p0, c_p1] w (Ret K) :=
  denFn_calls Tryd.func18 T18_ok (Eq.mpr (B18_eq b_p0 c_p1 w K) h)

-- 8 holdfast/holdfastref07.Chain
def T8 : Ann := (.seq .none (.seq .none (.seq .none .none)))
theorem T8_ok : chkFn prog Tryd.f8 T8 = true := by kernel_rfl
def B8 (h_p0 b_p1 : Value) (w : World) (K : Value → World → Prop) : Prop :=
  efv prog (Instr.box 23 h_p0) w fun h_0 w =>
  efv prog (Instr.alloc 23 true (.tuple #[])) w fun t_1 w =>
  ldv prog (Instr.loadAt 23 h_0) w fun t_2 w =>
  Calls prog 13 #[t_2] w (Ret fun t_3 w =>
  ef prog (oBi .append #[25, 25] 25 #[false, false] #[t_3, b_p1]) w fun t_4 w =>
  Calls prog 16 #[t_4] w (Ret fun t_5 w =>
  efu prog (Instr.storeAt 23 t_1 t_5) w fun u_6 w =>
  ∃ r_7, (do loadVar 23 (← asAddr t_1)).run prog w = .ok r_7 w ∧ K r_7 w))
theorem B8_eq (h_p0 b_p1 : Value) (w : World) (K : Value → World → Prop) : denFn prog Tryd.f8 T8 [h_p0, b_p1] w K = B8 h_p0 b_p1 w K := by kernel_rfl
theorem c8 {h_p0 b_p1 : Value} {w : World} {K : Value → World → Prop} (h : B8 h_p0 b_p1 w K) : Calls prog 8 #[h_p0, b_p1] w (Ret K) :=
  denFn_calls Tryd.func8 T8_ok (Eq.mpr (B8_eq h_p0 b_p1 w K) h)

-- 27 math/bits.RotateLeft32
def T27 : Ann := (.seq .none (.seq .none (.seq .none .none)))
theorem T27_ok : chkFn prog Tryd.f27 T27 = true := by kernel_rfl
def B27 (x_p0 k_p1 : Value) (w : World) (K : Value → World → Prop) : Prop :=
  pvv prog (convert 3 48 k_p1) w fun t_0 w =>
  pvv prog (binOp .and 48 t_0 (.int .u64 31)) w fun t_1 w =>
  pvv prog (binOp .shl 50 x_p0 t_1) w fun t_2 w =>
  pvv prog (binOp .sub 48 (.int .u64 32) t_1) w fun t_3 w =>
  pvv prog (binOp .shr 50 x_p0 t_3) w fun t_4 w =>
  pvv prog (binOp .or 50 t_2 t_4) w fun t_5 w =>
  K t_5 w
theorem B27_eq (x_p0 k_p1 : Value) (w : World) (K : Value → World → Prop) : denFn prog Tryd.f27 T27 [x_p0, k_p1] w K = B27 x_p0 k_p1 w K := by kernel_rfl
theorem c27 {x_p0 k_p1 : Value} {w : World} {K : Value → World → Prop} (h : B27 x_p0 k_p1 w K) : Calls prog 27 #[x_p0, k_p1] w (Ret K) :=
  denFn_calls Tryd.func27 T27_ok (Eq.mpr (B27_eq x_p0 k_p1 w K) h)

-- 40 internal/stringslite.IndexByte
def T40 : Ann := (.seq .none (.seq .none .none))
theorem T40_ok : chkFn prog Tryd.f40 T40 = true := by kernel_rfl
def B40 (s_p0 c_p1 : Value) (w : World) (K : Value → World → Prop) : Prop :=
  ef prog (oCall (.func (.func 44) #[] #[]) #[s_p0, c_p1]) w fun t_0 w =>
  K t_0 w
theorem B40_eq (s_p0 c_p1 : Value) (w : World) (K : Value → World → Prop) : denFn prog Tryd.f40 T40 [s_p0, c_p1] w K = B40 s_p0 c_p1 w K := by kernel_rfl
theorem c40 {s_p0 c_p1 : Value} {w : World} {K : Value → World → Prop} (h : B40 s_p0 c_p1 w K) : Calls prog 40 #[s_p0, c_p1] w (Ret K) :=
  denFn_calls Tryd.func40 T40_ok (Eq.mpr (B40_eq s_p0 c_p1 w K) h)


end Go.Proofs.YtjmgkfpjaelilaaDoor
