import Derived.Test.YtfmoikocokekhaaDoorPI
set_option linter.all false
set_option maxRecDepth 100000
namespace Go.Proofs.YtfmoikocokekhaaDoor
open Go Hold
-- 39 unicode/utf8.decodeRuneInStringSlow
def T39 : Ann := (.seq .none (.seq .none (.seq (.seq .none (.seq (.seq .none .none) .none)) (.seq .none (.seq .none (.seq (.seq .none (.seq (.seq .none (.seq .none .none)) .none)) (.seq .none (.seq .none (.seq (.seq .none (.seq (.seq .none .none) .none)) (.seq .none (.seq (.seq .none (.seq (.seq .none .none) .none)) (.seq (.seq .none (.seq (.seq .none .none) .none)) (.seq .none (.seq (.seq .none (.seq (.seq .none .none) .none)) (.seq (.seq .none (.seq (.seq .none .none) .none)) (.seq .none (.seq (.seq .none (.seq (.seq .none .none) .none)) (.seq .none .none))))))))))))))))))
theorem T39_ok : chkFn prog Tryd.f39 T39 = true := by kernel_rfl
def B39 (s_p0 : Value) (w : World) (K : Value → World → Prop) : Prop :=
  pv prog (oBi .len #[9] 3 #[false] #[s_p0]) w fun t_0 w =>
  pvv prog (binOp .lss 3 t_0 (.int .i64 1)) w fun t_1 w =>
  cd t_1 (
    K (.tuple #[(.int .i32 65533), (.int .i64 0)]) w) <|
  pvv prog (Instr.index 9 s_p0 (.int .i64 0)) w fun t_2 w =>
  pvv prog (Instr.indexAt 89 (.pointer (some ⟨1, 0, none⟩)) t_2) w fun t_3 w =>
  ldv prog (Instr.loadAt 5 t_3) w fun t_4 w =>
  pvv prog (binOp .geq 5 t_4 (.int .u8 240)) w fun t_5 w =>
  cd t_5 (
    pvv prog (convert 5 21 t_4) w fun t_6 w =>
    pvv prog (binOp .shl 21 t_6 (.int .u64 31)) w fun t_7 w =>
    pvv prog (binOp .shr 21 t_7 (.int .u64 31)) w fun t_8 w =>
    pvv prog (Instr.index 9 s_p0 (.int .i64 0)) w fun t_9 w =>
    pvv prog (convert 5 21 t_9) w fun t_10 w =>
    pvv prog (binOp .andNot 21 t_10 t_8) w fun t_11 w =>
    pvv prog (binOp .and 21 (.int .i32 65533) t_8) w fun t_12 w =>
    pvv prog (binOp .or 21 t_11 t_12) w fun t_13 w =>
    K (.tuple #[t_13, (.int .i64 1)]) w) <|
  pvv prog (binOp .and 5 t_4 (.int .u8 7)) w fun t_14 w =>
  pvv prog (convert 5 3 t_14) w fun t_15 w =>
  pvv prog (binOp .shr 5 t_4 (.int .u64 4)) w fun t_16 w =>
  pvv prog (Instr.indexAt 92 (.pointer (some ⟨2, 0, none⟩)) t_16) w fun t_17 w =>
  ldv prog (Instr.loadAt 91 t_17) w fun t_18 w =>
  efv prog (Instr.alloc 91 true (.tuple #[])) w fun accept_19 w =>
  efu prog (Instr.storeAt 91 accept_19 t_18) w fun u_20 w =>
  pvv prog (binOp .lss 3 t_0 t_15) w fun t_21 w =>
  cd t_21 (
    K (.tuple #[(.int .i32 65533), (.int .i64 1)]) w) <|
  pvv prog (Instr.index 9 s_p0 (.int .i64 1)) w fun t_22 w =>
  pvv prog (Instr.fieldAt 91 accept_19 0) w fun t_23 w =>
  ldv prog (Instr.loadAt 5 t_23) w fun t_24 w =>
  pvv prog (binOp .lss 5 t_22 t_24) w fun t_25 w =>
  gate (some (t_25, false)) (fun K => pvv prog (Instr.fieldAt 91 accept_19 1) w K) w fun t_26 w =>
  gate (some (t_25, false)) (fun K => ldv prog (Instr.loadAt 5 t_26) w K) w fun t_27 w =>
  gate (some (t_25, false)) (fun K => K t_22 w) w fun t_28 w =>
  gate (some (t_25, false)) (fun K => pvv prog (binOp .lss 5 t_27 t_28) w K) w fun t_29 w =>
  pv prog (oPick t_25 (.bool true) t_29) w fun t_30 w =>
  cd t_30 (
    K (.tuple #[(.int .i32 65533), (.int .i64 1)]) w) <|
  pvv prog (binOp .leq 3 t_15 (.int .i64 2)) w fun t_31 w =>
  cd t_31 (
    pvv prog (binOp .and 5 t_2 (.int .u8 31)) w fun t_32 w =>
    pvv prog (convert 5 21 t_32) w fun t_33 w =>
    pvv prog (binOp .shl 21 t_33 (.int .u64 6)) w fun t_34 w =>
    pvv prog (binOp .and 5 t_22 (.int .u8 63)) w fun t_35 w =>
    pvv prog (convert 5 21 t_35) w fun t_36 w =>
    pvv prog (binOp .or 21 t_34 t_36) w fun t_37 w =>
    K (.tuple #[t_37, (.int .i64 2)]) w) <|
  pvv prog (Instr.index 9 s_p0 (.int .i64 2)) w fun t_38 w =>
  pvv prog (binOp .lss 5 t_38 (.int .u8 128)) w fun t_39 w =>
  gate (some (t_39, false)) (fun K => K t_38 w) w fun t_40 w =>
  gate (some (t_39, false)) (fun K => pvv prog (binOp .lss 5 (.int .u8 191) t_40) w K) w fun t_41 w =>
  pv prog (oPick t_39 (.bool true) t_41) w fun t_42 w =>
  cd t_42 (
    K (.tuple #[(.int .i32 65533), (.int .i64 1)]) w) <|
  pvv prog (binOp .leq 3 t_15 (.int .i64 3)) w fun t_43 w =>
  cd t_43 (
    pvv prog (binOp .and 5 t_2 (.int .u8 15)) w fun t_44 w =>
    pvv prog (convert 5 21 t_44) w fun t_45 w =>
    pvv prog (binOp .shl 21 t_45 (.int .u64 12)) w fun t_46 w =>
    pvv prog (binOp .and 5 t_22 (.int .u8 63)) w fun t_47 w =>
    pvv prog (convert 5 21 t_47) w fun t_48 w =>
    pvv prog (binOp .shl 21 t_48 (.int .u64 6)) w fun t_49 w =>
    pvv prog (binOp .or 21 t_46 t_49) w fun t_50 w =>
    pvv prog (binOp .and 5 t_38 (.int .u8 63)) w fun t_51 w =>
    pvv prog (convert 5 21 t_51) w fun t_52 w =>
    pvv prog (binOp .or 21 t_50 t_52) w fun t_53 w =>
    K (.tuple #[t_53, (.int .i64 3)]) w) <|
  pvv prog (Instr.index 9 s_p0 (.int .i64 3)) w fun t_54 w =>
  pvv prog (binOp .lss 5 t_54 (.int .u8 128)) w fun t_55 w =>
  gate (some (t_55, false)) (fun K => K t_54 w) w fun t_56 w =>
  gate (some (t_55, false)) (fun K => pvv prog (binOp .lss 5 (.int .u8 191) t_56) w K) w fun t_57 w =>
  pv prog (oPick t_55 (.bool true) t_57) w fun t_58 w =>
  cd t_58 (
    K (.tuple #[(.int .i32 65533), (.int .i64 1)]) w) <|
  pvv prog (binOp .and 5 t_2 (.int .u8 7)) w fun t_59 w =>
  pvv prog (convert 5 21 t_59) w fun t_60 w =>
  pvv prog (binOp .shl 21 t_60 (.int .u64 18)) w fun t_61 w =>
  pvv prog (binOp .and 5 t_22 (.int .u8 63)) w fun t_62 w =>
  pvv prog (convert 5 21 t_62) w fun t_63 w =>
  pvv prog (binOp .shl 21 t_63 (.int .u64 12)) w fun t_64 w =>
  pvv prog (binOp .or 21 t_61 t_64) w fun t_65 w =>
  pvv prog (binOp .and 5 t_38 (.int .u8 63)) w fun t_66 w =>
  pvv prog (convert 5 21 t_66) w fun t_67 w =>
  pvv prog (binOp .shl 21 t_67 (.int .u64 6)) w fun t_68 w =>
  pvv prog (binOp .or 21 t_65 t_68) w fun t_69 w =>
  pvv prog (binOp .and 5 t_54 (.int .u8 63)) w fun t_70 w =>
  pvv prog (convert 5 21 t_70) w fun t_71 w =>
  pvv prog (binOp .or 21 t_69 t_71) w fun t_72 w =>
  K (.tuple #[t_72, (.int .i64 4)]) w
theorem B39_eq (s_p0 : Value) (w : World) (K : Value → World → Prop) : denFn prog Tryd.f39 T39 [s_p0] w K = B39 s_p0 w K := by kernel_rfl
theorem c39 {s_p0 : Value} {w : World} {K : Value → World → Prop} (h : B39 s_p0 w K) : Calls prog 39 #[s_p0] w (Ret K) :=
  denFn_calls Tryd.func39 T39_ok (Eq.mpr (B39_eq s_p0 w K) h)

-- 6 holdfast/hash.Sum
def T6 : Ann := (.seq .none (.seq .none (.seq .none (.seq .none (.seq (.block (.loop 33488897 [0] (.seq (.seq .none (.seq .none .none)) (.seq (.block .none) .none)))) (.seq .none (.seq .none (.seq (.seq .none (.block (.loop 281440616972480 [6, 35] (.seq .none (.seq (.seq .none .none) (.seq (.block (.seq .none .none)) .none)))))) (.seq (.block (.loop 143833713099145280 [6] (.seq (.seq .none (.seq .none .none)) (.seq (.block .none) .none)))) (.seq (.seq .none (.block (.loop 618970019354459761297851136 [58] (.seq .none (.seq (.seq .none .none) (.seq (.block (.seq .none .none)) .none)))))) (.seq .none .none)))))))))))
theorem T6_ok : chkFn prog Tryd.f6 T6 = true := by kernel_rfl
def B6 (b_p0 : Value) (w : World) (K : Value → World → Prop) : Prop :=
  efv prog (Instr.alloc 23 true (.tuple #[])) w fun out_0 w =>
  pvv prog (Instr.build 52 #[(0, (.int .u32 1779033703)), (1, (.int .u32 3144134277)), (2, (.int .u32 1013904242)), (3, (.int .u32 2773480762)), (4, (.int .u32 1359893119)), (5, (.int .u32 2600822924)), (6, (.int .u32 528734635)), (7, (.int .u32 1541459225))]) w fun t_1 w =>
  efv prog (Instr.alloc 52 true (.tuple #[])) w fun h_2 w =>
  efu prog (Instr.storeAt 52 h_2 t_1) w fun u_3 w =>
  Calls prog 14 #[] w (Ret fun t_4 w =>
  pv prog (oBi .len #[25] 3 #[false] #[b_p0]) w fun t_5 w =>
  pvv prog (convert 3 35 t_5) w fun t_6 w =>
  pvv prog (binOp .shl 35 t_6 (.int .u64 3)) w fun t_7 w =>
  lp (fun σ w again_9 => pop σ fun b_8 σ => fin σ <|
    pv prog (oBi .len #[25] 3 #[false] #[b_8]) w fun t_10 w =>
    pvv prog (binOp .geq 3 t_10 (.int .i64 64)) w fun t_11 w =>
    cd t_11 (
      ldv prog (Instr.loadAt 52 h_2) w fun t_12 w =>
      Calls prog 15 #[t_12, t_4, b_8] w (Ret fun t_13 w =>
      efu prog (Instr.storeAt 52 h_2 t_13) w fun u_14 w =>
      pvv prog (Instr.sliceAt 25 b_8 (some (.int .i64 64)) none none) w fun t_15 w =>
      again_9 [t_15] w)) <|
    Calls prog 16 #[b_8] w (Ret fun t_16 w =>
    efv prog (Instr.buildSlice 25 1 #[(0, (.int .u8 128))]) w fun t_17 w =>
    ef prog (oBi .append #[25, 25] 25 #[false, false] #[t_16, t_17]) w fun t_18 w =>
    pv prog (oBi .len #[25] 3 #[false] #[b_8]) w fun t_19 w =>
    pvv prog (binOp .sub 3 (.int .i64 119) t_19) w fun t_20 w =>
    pvv prog (binOp .rem 3 t_20 (.int .i64 64)) w fun t_21 w =>
    ef prog (oBi .append #[25, 3] 25 #[false, false] #[t_18, t_21]) w fun t_22 w =>
    lp (fun σ w again_25 => pop σ fun end_23 σ => pop σ fun t_24 σ => fin σ <|
      pvv prog (binOp .lss 3 t_24 (.int .i64 8)) w fun t_26 w =>
      cd t_26 (
        pvv prog (binOp .mul 3 (.int .i64 8) t_24) w fun t_27 w =>
        pvv prog (binOp .sub 3 (.int .i64 56) t_27) w fun t_28 w =>
        pvv prog (binOp .shr 35 t_7 t_28) w fun t_29 w =>
        pvv prog (convert 35 5 t_29) w fun t_30 w =>
        efv prog (Instr.buildSlice 25 1 #[(0, t_30)]) w fun t_31 w =>
        ef prog (oBi .append #[25, 25] 25 #[false, false] #[end_23, t_31]) w fun t_32 w =>
        pvv prog (binOp .add 3 t_24 (.int .i64 1)) w fun t_33 w =>
        again_25 [t_32, t_33] w) <|
      lp (fun σ w again_35 => pop σ fun end_34 σ => fin σ <|
        pv prog (oBi .len #[25] 3 #[false] #[end_34]) w fun t_36 w =>
        pvv prog (binOp .gtr 3 t_36 (.int .i64 0)) w fun t_37 w =>
        cd t_37 (
          ldv prog (Instr.loadAt 52 h_2) w fun t_38 w =>
          Calls prog 15 #[t_38, t_4, end_34] w (Ret fun t_39 w =>
          efu prog (Instr.storeAt 52 h_2 t_39) w fun u_40 w =>
          pvv prog (Instr.sliceAt 25 end_34 (some (.int .i64 64)) none none) w fun t_41 w =>
          again_35 [t_41] w)) <|
        ldv prog (Instr.loadAt 52 h_2) w fun t_42 w =>
        lp (fun σ w again_44 => pop σ fun t_43 σ => fin σ <|
          pvv prog (binOp .lss 3 t_43 (.int .i64 8)) w fun t_45 w =>
          cd t_45 (
            pvv prog (Instr.index 52 t_42 t_43) w fun t_46 w =>
            pvv prog (binOp .mul 3 (.int .i64 4) t_43) w fun t_47 w =>
            pvv prog (binOp .mul 3 (.int .i64 4) t_43) w fun t_48 w =>
            pvv prog (binOp .add 3 t_48 (.int .i64 1)) w fun t_49 w =>
            pvv prog (binOp .mul 3 (.int .i64 4) t_43) w fun t_50 w =>
            pvv prog (binOp .add 3 t_50 (.int .i64 2)) w fun t_51 w =>
            pvv prog (binOp .mul 3 (.int .i64 4) t_43) w fun t_52 w =>
            pvv prog (binOp .add 3 t_52 (.int .i64 3)) w fun t_53 w =>
            pvv prog (binOp .shr 50 t_46 (.int .u64 24)) w fun t_54 w =>
            pvv prog (convert 50 5 t_54) w fun t_55 w =>
            pvv prog (binOp .shr 50 t_46 (.int .u64 16)) w fun t_56 w =>
            pvv prog (convert 50 5 t_56) w fun t_57 w =>
            pvv prog (binOp .shr 50 t_46 (.int .u64 8)) w fun t_58 w =>
            pvv prog (convert 50 5 t_58) w fun t_59 w =>
            pvv prog (convert 50 5 t_46) w fun t_60 w =>
            pvv prog (Instr.indexAt 23 out_0 t_47) w fun t_61 w =>
            efu prog (Instr.storeAt 5 t_61 t_55) w fun u_62 w =>
            pvv prog (Instr.indexAt 23 out_0 t_49) w fun t_63 w =>
            efu prog (Instr.storeAt 5 t_63 t_57) w fun u_64 w =>
            pvv prog (Instr.indexAt 23 out_0 t_51) w fun t_65 w =>
            efu prog (Instr.storeAt 5 t_65 t_59) w fun u_66 w =>
            pvv prog (Instr.indexAt 23 out_0 t_53) w fun t_67 w =>
            efu prog (Instr.storeAt 5 t_67 t_60) w fun u_68 w =>
            pvv prog (binOp .add 3 t_43 (.int .i64 1)) w fun t_69 w =>
            again_44 [t_69] w) <|
          ldv prog (Instr.loadAt 23 out_0) w fun t_70 w =>
          efu prog (Instr.storeAt 23 out_0 t_70) w fun u_71 w =>
          ∃ r_72, (do loadVar 23 (← asAddr out_0)).run prog w = .ok r_72 w ∧ K r_72 w) [(.int .i64 0)] w) [end_23] w) [t_22, (.int .i64 0)] w)) [b_p0] w)
theorem B6_eq (b_p0 : Value) (w : World) (K : Value → World → Prop) : denFn prog Tryd.f6 T6 [b_p0] w K = B6 b_p0 w K := by kernel_rfl
theorem c6 {b_p0 : Value} {w : World} {K : Value → World → Prop} (h : B6 b_p0 w K) : Calls prog 6 #[b_p0] w (Ret K) :=
  denFn_calls Tryd.func6 T6_ok (Eq.mpr (B6_eq b_p0 w K) h)

-- 9 holdfast/hash.Tag
def T9 : Ann := (.seq .none (.meet 64545 [0] (.seq .none (.seq (.seq .none .none) .none)) (.seq .none (.seq .none (.seq .none (.seq (.seq .none (.block (.loop 17178820864 [20] (.seq .none (.seq (.seq .none .none) (.seq (.block (.seq .none (.seq .none .none))) .none)))))) (.seq .none (.seq (.draw [.op 0 .pure, .op 1 .pure, .op 2 .eff, .op 3 .eff, .op 4 .eff]) .none))))))))
theorem T9_ok : chkFn prog Tryd.f9 T9 = true := by kernel_rfl
def B9 (key_p0 b_p1 : Value) (w : World) (K : Value → World → Prop) : Prop :=
  efv prog (Instr.alloc 23 true (.tuple #[])) w fun t_0 w =>
  jn (fun σ w => pop σ fun key_1 σ => fin σ <|
    efv prog (Instr.alloc 63 true (.tuple #[])) w fun in_2 w =>
    efv prog (Instr.alloc 63 true (.tuple #[])) w fun out_3 w =>
    pvv prog (Instr.sliceAt 63 in_2 none none none) w fun t_4 w =>
    ef prog (oBi .copy #[25, 25] 3 #[false, false] #[t_4, key_1]) w fun t_5 w =>
    ldv prog (Instr.loadAt 63 in_2) w fun t_6 w =>
    efu prog (Instr.storeAt 63 out_3 t_6) w fun u_7 w =>
    lp (fun σ w again_9 => pop σ fun t_8 σ => fin σ <|
      pvv prog (binOp .lss 3 t_8 (.int .i64 64)) w fun t_10 w =>
      cd t_10 (
        pvv prog (Instr.indexAt 63 in_2 t_8) w fun t_11 w =>
        ldv prog (Instr.loadAt 5 t_11) w fun t_12 w =>
        pvv prog (binOp .xor 5 t_12 (.int .u8 54)) w fun t_13 w =>
        pvv prog (Instr.indexAt 63 in_2 t_8) w fun t_14 w =>
        efu prog (Instr.storeAt 5 t_14 t_13) w fun u_15 w =>
        pvv prog (Instr.indexAt 63 out_3 t_8) w fun t_16 w =>
        ldv prog (Instr.loadAt 5 t_16) w fun t_17 w =>
        pvv prog (binOp .xor 5 t_17 (.int .u8 92)) w fun t_18 w =>
        pvv prog (Instr.indexAt 63 out_3 t_8) w fun t_19 w =>
        efu prog (Instr.storeAt 5 t_19 t_18) w fun u_20 w =>
        pvv prog (binOp .add 3 t_8 (.int .i64 1)) w fun t_21 w =>
        again_9 [t_21] w) <|
      pvv prog (Instr.sliceAt 63 in_2 none none none) w fun t_22 w =>
      ef prog (oBi .append #[25, 25] 25 #[false, false] #[t_22, b_p1]) w fun t_23 w =>
      Calls prog 6 #[t_23] w (Ret fun t_24 w =>
      efv prog (Instr.alloc 23 true (.tuple #[])) w fun h_25 w =>
      efu prog (Instr.storeAt 23 h_25 t_24) w fun u_26 w =>
      dr w fun w =>
      pvv prog (Instr.sliceAt 63 out_3 none none none) w fun t_27 w =>
      pvv prog (Instr.sliceAt 23 h_25 none none none) w fun t_28 w =>
      ef prog (oBi .append #[25, 25] 25 #[false, false] #[t_27, t_28]) w fun t_29 w =>
      Calls prog 6 #[t_29] w (Ret fun t_30 w =>
      efu prog (Instr.storeAt 23 t_0 t_30) w fun u_31 w =>
      ∃ r_32, (do loadVar 23 (← asAddr t_0)).run prog w = .ok r_32 w ∧ K r_32 w))) [(.int .i64 0)] w) fun k_36 =>
  pv prog (oBi .len #[25] 3 #[false] #[key_p0]) w fun t_37 w =>
  pvv prog (binOp .gtr 3 t_37 (.int .i64 64)) w fun t_38 w =>
  cd t_38 (
    Calls prog 6 #[key_p0] w (Ret fun t_39 w =>
    efv prog (Instr.alloc 23 true (.tuple #[])) w fun h_40 w =>
    efu prog (Instr.storeAt 23 h_40 t_39) w fun u_41 w =>
    pvv prog (Instr.sliceAt 23 h_40 none none none) w fun t_42 w =>
    k_36 [t_42] w)) <|
  k_36 [key_p0] w
theorem B9_eq (key_p0 b_p1 : Value) (w : World) (K : Value → World → Prop) : denFn prog Tryd.f9 T9 [key_p0, b_p1] w K = B9 key_p0 b_p1 w K := by kernel_rfl
theorem c9 {key_p0 b_p1 : Value} {w : World} {K : Value → World → Prop} (h : B9 key_p0 b_p1 w K) : Calls prog 9 #[key_p0, b_p1] w (Ret K) :=
  denFn_calls Tryd.func9 T9_ok (Eq.mpr (B9_eq key_p0 b_p1 w K) h)

-- 34 slices.Concat[[]byte,byte]
def T34 : Ann := (.seq .none (.seq .none (.seq (.seq .none (.block (.loop 8386600 [3, 11] (.seq .none (.seq (.seq .none .none) (.meet 4186152 [3] (.block (.seq .none (.seq .none (.seq .none (.seq .none .none))))) .none)))))) (.seq .none (.seq (.seq .none (.block (.loop 34225520960 [6, 27] (.seq .none (.seq (.seq .none .none) (.seq (.block (.seq .none .none)) .none)))))) (.seq .none .none))))))
theorem T34_ok : chkFn prog Tryd.f34 T34 = true := by kernel_rfl
def B34 (slices_p0 : Value) (w : World) (K : Value → World → Prop) : Prop :=
  pv prog (oBi .len #[86] 3 #[false] #[slices_p0]) w fun t_0 w =>
  lp (fun σ w again_3 => pop σ fun size_1 σ => pop σ fun t_2 σ => fin σ <|
    pvv prog (binOp .lss 3 t_2 t_0) w fun t_4 w =>
    cd t_4 (
      jn (fun σ w => pop σ fun size_5 σ => fin σ <|
        pvv prog (binOp .add 3 t_2 (.int .i64 1)) w fun t_6 w =>
        again_3 [size_5, t_6] w) fun k_7 =>
      pvv prog (Instr.indexAt 86 slices_p0 t_2) w fun t_8 w =>
      ldv prog (Instr.loadAt 25 t_8) w fun t_9 w =>
      pv prog (oBi .len #[25] 3 #[false] #[t_9]) w fun t_10 w =>
      pvv prog (binOp .add 3 size_1 t_10) w fun t_11 w =>
      pvv prog (binOp .lss 3 t_11 (.int .i64 0)) w fun t_12 w =>
      cd t_12 (
        pvv prog (Instr.makeInterface 9 (.string ⟨#[108, 101, 110, 32, 111, 117, 116, 32, 111, 102, 32, 114, 97, 110, 103, 101]⟩)) w fun t_13 w =>
        efv prog (Instr.panic t_13) w fun u_14 w =>
        k_7 [t_11] w) <|
      k_7 [t_11] w) <|
    Calls prog 40 #[(.slice none 0 0), size_1] w (Ret fun t_15 w =>
    pv prog (oBi .len #[86] 3 #[false] #[slices_p0]) w fun t_16 w =>
    lp (fun σ w again_19 => pop σ fun newslice_17 σ => pop σ fun t_18 σ => fin σ <|
      pvv prog (binOp .lss 3 t_18 t_16) w fun t_20 w =>
      cd t_20 (
        pvv prog (Instr.indexAt 86 slices_p0 t_18) w fun t_21 w =>
        ldv prog (Instr.loadAt 25 t_21) w fun t_22 w =>
        ef prog (oBi .append #[25, 25] 25 #[false, false] #[newslice_17, t_22]) w fun t_23 w =>
        pvv prog (binOp .add 3 t_18 (.int .i64 1)) w fun t_24 w =>
        again_19 [t_23, t_24] w) <|
      K newslice_17 w) [t_15, (.int .i64 0)] w)) [(.int .i64 0), (.int .i64 0)] w
theorem B34_eq (slices_p0 : Value) (w : World) (K : Value → World → Prop) : denFn prog Tryd.f34 T34 [slices_p0] w K = B34 slices_p0 w K := by kernel_rfl
theorem c34 {slices_p0 : Value} {w : World} {K : Value → World → Prop} (h : B34 slices_p0 w K) : Calls prog 34 #[slices_p0] w (Ret K) :=
  denFn_calls Tryd.func34 T34_ok (Eq.mpr (B34_eq slices_p0 w K) h)

-- 33 holdfast/seal.blocks$1
def T33 : Ann := (.seq .none (.block (.loop 262128 [4] (.seq (.seq (.draw [.op 0 .pure, .op 1 .pure, .op 5 .pure, .op 3 .load, .par [⟨2, .eff, (some 7), []⟩, ⟨4, .eff, (some 9), []⟩, ⟨6, .eff, (some 11), []⟩], .op 7 .eff, .op 8 .eff, .op 9 .eff, .op 10 .eff]) (.seq .none .none)) (.seq (.block .none) .none)))))
theorem T33_ok : chkFn prog Tryd.f33 T33 = true := by kernel_rfl
def B33 (yield_p0 x_p1 x_p2 : Value) (w : World) (K : Value → World → Prop) : Prop :=
  lp (fun σ w again_1 => pop σ fun i_0 σ => fin σ <|
    dr w fun w =>
    pvv prog (Instr.sliceAt 23 x_p1 none none none) w fun t_2 w =>
    bindS (vN (Instr.loadAt 35 x_p2)) fun m_4 => ldv prog (Instr.loadAt 35 x_p2) w fun t_3 w =>
    par 3 w fun J_5 =>
      (∀ (σ : List (Option Value)) (w : World), J_5 σ w → un σ 0 (efv prog (Instr.buildSlice 25 1 #[(0, (.int .u8 115))]) w fun v_6 w => stay prog none m_4 t_3 w <| J_5 (σ.set 0 (some v_6)) w)) ∧
      (∀ (σ : List (Option Value)) (w : World), J_5 σ w → un σ 1 (Calls prog 17 #[t_3] w (Ret fun v_7 w => J_5 (σ.set 1 (some v_7)) w))) ∧
      (∀ (σ : List (Option Value)) (w : World), J_5 σ w → un σ 2 (Calls prog 17 #[i_0] w (Ret fun v_8 w => stay prog none m_4 t_3 w <| J_5 (σ.set 2 (some v_8)) w))) ∧
      ∀ (σ : List (Option Value)) (w : World), J_5 σ w → is σ 0 fun t_9 => is σ 1 fun t_10 => is σ 2 fun t_11 => 
      efv prog (Instr.buildSlice 86 3 #[(0, t_9), (1, t_10), (2, t_11)]) w fun t_12 w => stay prog none m_4 t_3 w <| 
      Calls prog 34 #[t_12] w (Ret fun t_13 w => stay prog none m_4 t_3 w <| 
      Calls prog 9 #[t_2, t_13] w (Ret fun t_14 w => stay prog none m_4 t_3 w <| 
      ef prog (oCall yield_p0 #[t_14]) w fun t_15 w => stay prog none m_4 t_3 w <| 
      cd t_15 (
        pvv prog (binOp .add 35 i_0 (.int .u64 1)) w fun t_16 w =>
        again_1 [t_16] w) <|
      K (.tuple #[]) w))) [(.int .u64 0)] w
theorem B33_eq (yield_p0 x_p1 x_p2 : Value) (w : World) (K : Value → World → Prop) : denFn prog Tryd.f33 T33 [yield_p0, x_p1, x_p2] w K = B33 yield_p0 x_p1 x_p2 w K := by kernel_rfl
theorem c33 {yield_p0 x_p1 x_p2 : Value} {w : World} {K : Value → World → Prop} (h : B33 yield_p0 x_p1 x_p2 w K) : Calls prog 33 #[yield_p0, x_p1, x_p2] w (Ret K) :=
  denFn_calls Tryd.func33 T33_ok (Eq.mpr (B33_eq yield_p0 x_p1 x_p2 w K) h)

-- 28 strings.Count
def T28 : Ann := (.seq .none (.seq (.seq .none (.seq (.seq .none .none) .none)) (.seq (.seq .none (.seq (.seq .none .none) .none)) (.seq .none (.block (.loop 17178820721 [0, 5] (.block (.seq .none (.seq (.seq .none (.seq (.seq .none .none) .none)) (.seq .none .none))))))))))
theorem T28_ok : chkFn prog Tryd.f28 T28 = true := by kernel_rfl
def B28 (s_p0 substr_p1 : Value) (w : World) (K : Value → World → Prop) : Prop :=
  pv prog (oBi .len #[9] 3 #[false] #[substr_p1]) w fun t_0 w =>
  pvv prog (oEq .eql 3 (.tmp 8) (.const (.int .i64 0)) t_0 (.int .i64 0)) w fun t_1 w =>
  cd t_1 (
    Calls prog 35 #[s_p0] w (Ret fun t_2 w =>
    pvv prog (binOp .add 3 t_2 (.int .i64 1)) w fun t_3 w =>
    K t_3 w)) <|
  pv prog (oBi .len #[9] 3 #[false] #[substr_p1]) w fun t_4 w =>
  pvv prog (oEq .eql 3 (.tmp 14) (.const (.int .i64 1)) t_4 (.int .i64 1)) w fun t_5 w =>
  cd t_5 (
    pvv prog (Instr.index 9 substr_p1 (.int .i64 0)) w fun t_6 w =>
    ef prog (oCall (.func (.func 36) #[] #[]) #[s_p0, t_6]) w fun t_7 w =>
    K t_7 w) <|
  lp (fun σ w again_10 => pop σ fun s_8 σ => pop σ fun n_9 σ => fin σ <|
    Calls prog 30 #[s_8, substr_p1] w (Ret fun t_11 w =>
    pvv prog (oEq .eql 3 (.tmp 23) (.const (.int .i64 (-1))) t_11 (.int .i64 (-1))) w fun t_12 w =>
    cd t_12 (
      K n_9 w) <|
    pvv prog (binOp .add 3 n_9 (.int .i64 1)) w fun t_13 w =>
    pv prog (oBi .len #[9] 3 #[false] #[substr_p1]) w fun t_14 w =>
    pvv prog (binOp .add 3 t_11 t_14) w fun t_15 w =>
    pvv prog (Instr.sliceAt 9 s_8 (some t_15) none none) w fun t_16 w =>
    again_10 [t_16, t_13] w)) [s_p0, (.int .i64 0)] w
theorem B28_eq (s_p0 substr_p1 : Value) (w : World) (K : Value → World → Prop) : denFn prog Tryd.f28 T28 [s_p0, substr_p1] w K = B28 s_p0 substr_p1 w K := by kernel_rfl
theorem c28 {s_p0 substr_p1 : Value} {w : World} {K : Value → World → Prop} (h : B28 s_p0 substr_p1 w K) : Calls prog 28 #[s_p0, substr_p1] w (Ret K) :=
  denFn_calls Tryd.func28 T28_ok (Eq.mpr (B28_eq s_p0 substr_p1 w K) h)

-- 18 holdfast/seal.hidden
def T18 : Ann := (.seq .none (.seq .none (.seq (.seq .none (.block (.loop 17177773568 [21] (.seq .none (.seq (.seq .none .none) (.seq (.block (.seq .none .none)) .none)))))) (.seq .none .none))))
theorem T18_ok : chkFn prog Tryd.f18 T18 = true := by kernel_rfl
def B18 (key_p0 once_p1 b_p2 : Value) (w : World) (K : Value → World → Prop) : Prop :=
  efv prog (Instr.box 23 key_p0) w fun key_0 w =>
  ldv prog (Instr.loadAt 23 key_0) w fun t_1 w =>
  pv prog (oBi .len #[25] 3 #[false] #[b_p2]) w fun t_2 w =>
  Calls prog 24 #[t_1, once_p1, t_2] w (Ret fun t_3 w =>
  pvv prog (Instr.extract t_3 0) w fun t_4 w =>
  pvv prog (Instr.extract t_3 1) w fun t_5 w =>
  pv prog (oBi .len #[25] 3 #[false] #[b_p2]) w fun t_6 w =>
  lp (fun σ w again_8 => pop σ fun t_7 σ => fin σ <|
    pvv prog (binOp .lss 3 t_7 t_6) w fun t_9 w =>
    cd t_9 (
      pvv prog (Instr.indexAt 25 b_p2 t_7) w fun t_10 w =>
      ldv prog (Instr.loadAt 5 t_10) w fun t_11 w =>
      pvv prog (Instr.indexAt 25 t_4 t_7) w fun t_12 w =>
      ldv prog (Instr.loadAt 5 t_12) w fun t_13 w =>
      pvv prog (binOp .xor 5 t_13 t_11) w fun t_14 w =>
      pvv prog (Instr.indexAt 25 t_4 t_7) w fun t_15 w =>
      efu prog (Instr.storeAt 5 t_15 t_14) w fun u_16 w =>
      pvv prog (binOp .add 3 t_7 (.int .i64 1)) w fun t_17 w =>
      again_8 [t_17] w) <|
    K t_4 w) [(.int .i64 0)] w)
theorem B18_eq (key_p0 once_p1 b_p2 : Value) (w : World) (K : Value → World → Prop) : denFn prog Tryd.f18 T18 [key_p0, once_p1, b_p2] w K = B18 key_p0 once_p1 b_p2 w K := by kernel_rfl
theorem c18 {key_p0 once_p1 b_p2 : Value} {w : World} {K : Value → World → Prop} (h : B18 key_p0 once_p1 b_p2 w K) : Calls prog 18 #[key_p0, once_p1, b_p2] w (Ret K) :=
  denFn_calls Tryd.func18 T18_ok (Eq.mpr (B18_eq key_p0 once_p1 b_p2 w K) h)

-- 4 holdfast/hash.Derive
def T4 : Ann := (.seq .none (.seq .none (.seq (.seq .none (.seq (.seq .none .none) .none)) (.seq .none .none))))
theorem T4_ok : chkFn prog Tryd.f4 T4 = true := by kernel_rfl
def B4 (key_p0 labels_p1 : Value) (w : World) (K : Value → World → Prop) : Prop :=
  efv prog (Instr.box 23 key_p0) w fun key_0 w =>
  efv prog (Instr.alloc 23 true (.tuple #[])) w fun t_1 w =>
  Calls prog 11 #[labels_p1] w (Ret fun t_2 w =>
  pvv prog (Instr.extract t_2 0) w fun t_3 w =>
  pvv prog (Instr.extract t_2 1) w fun t_4 w =>
  pvv prog (oEq .neq 28 (.tmp 13) (.const (.int .i64 0)) t_4 (.int .i64 0)) w fun t_5 w =>
  cd t_5 (
    pvv prog (Instr.build 23 #[]) w fun t_6 w =>
    efu prog (Instr.storeAt 23 t_1 t_6) w fun u_7 w =>
    ∃ r_8, (do loadVar 23 (← asAddr t_1)).run prog w = .ok r_8 w ∧ K (.tuple #[r_8, t_4]) w) <|
  pvv prog (Instr.sliceAt 23 key_0 none none none) w fun t_9 w =>
  Calls prog 9 #[t_9, t_3] w (Ret fun t_10 w =>
  efu prog (Instr.storeAt 23 t_1 t_10) w fun u_11 w =>
  ∃ r_12, (do loadVar 23 (← asAddr t_1)).run prog w = .ok r_12 w ∧ K (.tuple #[r_12, (.int .i64 0)]) w))
theorem B4_eq (key_p0 labels_p1 : Value) (w : World) (K : Value → World → Prop) : denFn prog Tryd.f4 T4 [key_p0, labels_p1] w K = B4 key_p0 labels_p1 w K := by kernel_rfl
theorem c4 {key_p0 labels_p1 : Value} {w : World} {K : Value → World → Prop} (h : B4 key_p0 labels_p1 w K) : Calls prog 4 #[key_p0, labels_p1] w (Ret K) :=
  denFn_calls Tryd.func4 T4_ok (Eq.mpr (B4_eq key_p0 labels_p1 w K) h)

-- 13 (*strings.Builder).String
def T13 : Ann := (.seq .none (.seq (.draw [.op 0 .pure, .op 1 .pure, .op 2 .pure, .op 5 .pure, .op 6 .pure, .op 7 .pure, .op 3 .load, .op 8 .load, .op 9 .pure, .op 4 .eff, .op 10 .eff, .op 11 .pure]) .none))
theorem T13_ok : chkFn prog Tryd.f13 T13 = true := by kernel_rfl
def B13 (b_p0 : Value) (w : World) (K : Value → World → Prop) : Prop :=
  dr w fun w =>
  pv prog (oNil b_p0) w fun t_0 w =>
  pvv prog (Instr.fieldAt 44 t_0 1) w fun t_1 w =>
  pv prog (oNil b_p0) w fun t_2 w =>
  pvv prog (Instr.fieldAt 44 t_2 1) w fun t_3 w =>
  bindS (vN (Instr.loadAt 25 t_1)) fun m_5 => ldv prog (Instr.loadAt 25 t_1) w fun t_4 w =>
  bindS (vN (Instr.loadAt 25 t_3)) fun m_7 => ldv prog (Instr.loadAt 25 t_3) w fun t_6 w =>
  pv prog (oBi .len #[25] 3 #[false] #[t_6]) w fun t_8 w =>
  ef prog (oBi .unsafeSliceData #[25] 65 #[false] #[t_4]) w fun t_9 w => stay prog none m_7 t_6 w <| 
  ef prog (oBi .unsafeString #[65, 3] 9 #[false, false] #[t_9, t_8]) w fun t_10 w => stay prog none m_7 t_6 w <| stay prog none m_5 t_4 w <| 
  K t_10 w
theorem B13_eq (b_p0 : Value) (w : World) (K : Value → World → Prop) : denFn prog Tryd.f13 T13 [b_p0] w K = B13 b_p0 w K := by kernel_rfl
theorem c13 {b_p0 : Value} {w : World} {K : Value → World → Prop} (h : B13 b_p0 w K) : Calls prog 13 #[b_p0] w (Ret K) :=
  denFn_calls Tryd.func13 T13_ok (Eq.mpr (B13_eq b_p0 w K) h)

-- 12 (*strings.Builder).WriteByte
def T12 : Ann := (.seq .none (.seq .none (.seq .none (.seq .none .none))))
theorem T12_ok : chkFn prog Tryd.f12 T12 = true := by kernel_rfl
def B12 (b_p0 c_p1 : Value) (w : World) (K : Value → World → Prop) : Prop :=
  Calls prog 22 #[b_p0] w (Ret fun t_0 w =>
  pv prog (oNil b_p0) w fun t_1 w =>
  pvv prog (Instr.fieldAt 44 t_1 1) w fun t_2 w =>
  ldv prog (Instr.loadAt 25 t_2) w fun t_3 w =>
  efv prog (Instr.buildSlice 25 1 #[(0, c_p1)]) w fun t_4 w =>
  ef prog (oBi .append #[25, 25] 25 #[false, false] #[t_3, t_4]) w fun t_5 w =>
  pv prog (oNil b_p0) w fun t_6 w =>
  pvv prog (Instr.fieldAt 44 t_6 1) w fun t_7 w =>
  efu prog (Instr.storeAt 25 t_7 t_5) w fun u_8 w =>
  K .nilIface w)
theorem B12_eq (b_p0 c_p1 : Value) (w : World) (K : Value → World → Prop) : denFn prog Tryd.f12 T12 [b_p0, c_p1] w K = B12 b_p0 c_p1 w K := by kernel_rfl
theorem c12 {b_p0 c_p1 : Value} {w : World} {K : Value → World → Prop} (h : B12 b_p0 c_p1 w K) : Calls prog 12 #[b_p0, c_p1] w (Ret K) :=
  denFn_calls Tryd.func12 T12_ok (Eq.mpr (B12_eq b_p0 c_p1 w K) h)

-- 35 unicode/utf8.RuneCountInString
def T35 : Ann := (.seq .none (.seq (.seq .none (.block (.loop 484 [2] (.seq .none (.seq (.seq .none .none) (.block .none)))))) (.seq .none .none)))
theorem T35_ok : chkFn prog Tryd.f35 T35 = true := by kernel_rfl
def B35 (s_p0 : Value) (w : World) (K : Value → World → Prop) : Prop :=
  efv prog (Instr.range 9 s_p0) w fun t_0 w =>
  lp (fun σ w again_2 => pop σ fun n_1 σ => fin σ <|
    efv prog (Instr.next t_0 true 0) w fun t_3 w =>
    pvv prog (Instr.extract t_3 0) w fun t_4 w =>
    cd t_4 (
      pvv prog (binOp .add 3 n_1 (.int .i64 1)) w fun t_5 w =>
      again_2 [t_5] w) <|
    K n_1 w) [(.int .i64 0)] w
theorem B35_eq (s_p0 : Value) (w : World) (K : Value → World → Prop) : denFn prog Tryd.f35 T35 [s_p0] w K = B35 s_p0 w K := by kernel_rfl
theorem c35 {s_p0 : Value} {w : World} {K : Value → World → Prop} (h : B35 s_p0 w K) : Calls prog 35 #[s_p0] w (Ret K) :=
  denFn_calls Tryd.func35 T35_ok (Eq.mpr (B35_eq s_p0 w K) h)

-- 27 holdfast/seal.blocks
def T27 : Ann := (.seq .none (.seq .none .none))
theorem T27_ok : chkFn prog Tryd.f27 T27 = true := by kernel_rfl
def B27 (key_p0 once_p1 : Value) (w : World) (K : Value → World → Prop) : Prop :=
  efv prog (Instr.box 23 key_p0) w fun key_0 w =>
  efv prog (Instr.box 35 once_p1) w fun once_1 w =>
  pvv prog (Instr.makeFunc (.func 33) #[] #[key_0, once_1]) w fun t_2 w =>
  K t_2 w
theorem B27_eq (key_p0 once_p1 : Value) (w : World) (K : Value → World → Prop) : denFn prog Tryd.f27 T27 [key_p0, once_p1] w K = B27 key_p0 once_p1 w K := by kernel_rfl
theorem c27 {key_p0 once_p1 : Value} {w : World} {K : Value → World → Prop} (h : B27 key_p0 once_p1 w K) : Calls prog 27 #[key_p0, once_p1] w (Ret K) :=
  denFn_calls Tryd.func27 T27_ok (Eq.mpr (B27_eq key_p0 once_p1 w K) h)

-- 30 strings.Index
def T30 : Ann := (.seq .none (.seq .none .none))
theorem T30_ok : chkFn prog Tryd.f30 T30 = true := by kernel_rfl
def B30 (s_p0 substr_p1 : Value) (w : World) (K : Value → World → Prop) : Prop :=
  Calls prog 38 #[s_p0, substr_p1] w (Ret fun t_0 w =>
  K t_0 w)
theorem B30_eq (s_p0 substr_p1 : Value) (w : World) (K : Value → World → Prop) : denFn prog Tryd.f30 T30 [s_p0, substr_p1] w K = B30 s_p0 substr_p1 w K := by kernel_rfl
theorem c30 {s_p0 substr_p1 : Value} {w : World} {K : Value → World → Prop} (h : B30 s_p0 substr_p1 w K) : Calls prog 30 #[s_p0, substr_p1] w (Ret K) :=
  denFn_calls Tryd.func30 T30_ok (Eq.mpr (B30_eq s_p0 substr_p1 w K) h)

-- 44 internal/bytealg.Cutover
def T44 : Ann := (.seq .none (.seq .none .none))
theorem T44_ok : chkFn prog Tryd.f44 T44 = true := by kernel_rfl
def B44 (n_p0 : Value) (w : World) (K : Value → World → Prop) : Prop :=
  pvv prog (binOp .add 3 n_p0 (.int .i64 16)) w fun t_0 w =>
  pvv prog (binOp .quo 3 t_0 (.int .i64 8)) w fun t_1 w =>
  K t_1 w
theorem B44_eq (n_p0 : Value) (w : World) (K : Value → World → Prop) : denFn prog Tryd.f44 T44 [n_p0] w K = B44 n_p0 w K := by kernel_rfl
theorem c44 {n_p0 : Value} {w : World} {K : Value → World → Prop} (h : B44 n_p0 w K) : Calls prog 44 #[n_p0] w (Ret K) :=
  denFn_calls Tryd.func44 T44_ok (Eq.mpr (B44_eq n_p0 w K) h)


end Go.Proofs.YtfmoikocokekhaaDoor
