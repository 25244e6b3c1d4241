import Derived.Test.YtjmgkfpjaelilaaHshI
set_option linter.all false
set_option maxRecDepth 100000
namespace Go.Proofs.Ytjmgkfpjaelilaa
open Go Hold
-- 11 holdfast/hash.Sum
def T11 : Ann := (.seq .none (.seq .none (.seq .none (.seq .none (.seq (.block (.loop 33488897 [0] (.seq (.seq .none (.seq .none .none)) (.seq (.block .none) .none)))) (.seq .none (.seq .none (.seq (.seq .none (.block (.loop 281440616972480 [6, 35] (.seq .none (.seq (.seq .none .none) (.seq (.block (.seq .none .none)) .none)))))) (.seq (.block (.loop 143833713099145280 [6] (.seq (.seq .none (.seq .none .none)) (.seq (.block .none) .none)))) (.seq (.seq .none (.block (.loop 618970019354459761297851136 [58] (.seq .none (.seq (.seq .none .none) (.seq (.block (.seq .none .none)) .none)))))) (.seq .none .none)))))))))))
theorem T11_ok : chkFn prog Try.f11 T11 = true := by kernel_rfl
def B11 (b_p0 : Value) (w : World) (K : Value → World → Prop) : Prop :=
  efv prog (Instr.alloc 23 true (.tuple #[])) w fun out_0 w =>
  pvv prog (Instr.build 43 #[(0, (.int .u32 1779033703)), (1, (.int .u32 3144134277)), (2, (.int .u32 1013904242)), (3, (.int .u32 2773480762)), (4, (.int .u32 1359893119)), (5, (.int .u32 2600822924)), (6, (.int .u32 528734635)), (7, (.int .u32 1541459225))]) w fun t_1 w =>
  efv prog (Instr.alloc 43 true (.tuple #[])) w fun h_2 w =>
  efu prog (Instr.storeAt 43 h_2 t_1) w fun u_3 w =>
  Calls prog 24 #[] w (Ret fun t_4 w =>
  pv prog (oBi .len #[24] 3 #[false] #[b_p0]) w fun t_5 w =>
  pvv prog (convert 3 46 t_5) w fun t_6 w =>
  pvv prog (binOp .shl 46 t_6 (.int .u64 3)) w fun t_7 w =>
  lp (fun σ w again_9 => pop σ fun b_8 σ => fin σ <|
    pv prog (oBi .len #[24] 3 #[false] #[b_8]) w fun t_10 w =>
    pvv prog (binOp .geq 3 t_10 (.int .i64 64)) w fun t_11 w =>
    cd t_11 (
      ldv prog (Instr.loadAt 43 h_2) w fun t_12 w =>
      Calls prog 25 #[t_12, t_4, b_8] w (Ret fun t_13 w =>
      efu prog (Instr.storeAt 43 h_2 t_13) w fun u_14 w =>
      pvv prog (Instr.sliceAt 24 b_8 (some (.int .i64 64)) none none) w fun t_15 w =>
      again_9 [t_15] w)) <|
    Calls prog 26 #[b_8] w (Ret fun t_16 w =>
    efv prog (Instr.buildSlice 24 1 #[(0, (.int .u8 128))]) w fun t_17 w =>
    ef prog (oBi .append #[24, 24] 24 #[false, false] #[t_16, t_17]) w fun t_18 w =>
    pv prog (oBi .len #[24] 3 #[false] #[b_8]) w fun t_19 w =>
    pvv prog (binOp .sub 3 (.int .i64 119) t_19) w fun t_20 w =>
    pvv prog (binOp .rem 3 t_20 (.int .i64 64)) w fun t_21 w =>
    ef prog (oBi .append #[24, 3] 24 #[false, false] #[t_18, t_21]) w fun t_22 w =>
    lp (fun σ w again_25 => pop σ fun end_23 σ => pop σ fun t_24 σ => fin σ <|
      pvv prog (binOp .lss 3 t_24 (.int .i64 8)) w fun t_26 w =>
      cd t_26 (
        pvv prog (binOp .mul 3 (.int .i64 8) t_24) w fun t_27 w =>
        pvv prog (binOp .sub 3 (.int .i64 56) t_27) w fun t_28 w =>
        pvv prog (binOp .shr 46 t_7 t_28) w fun t_29 w =>
        pvv prog (convert 46 5 t_29) w fun t_30 w =>
        efv prog (Instr.buildSlice 24 1 #[(0, t_30)]) w fun t_31 w =>
        ef prog (oBi .append #[24, 24] 24 #[false, false] #[end_23, t_31]) w fun t_32 w =>
        pvv prog (binOp .add 3 t_24 (.int .i64 1)) w fun t_33 w =>
        again_25 [t_32, t_33] w) <|
      lp (fun σ w again_35 => pop σ fun end_34 σ => fin σ <|
        pv prog (oBi .len #[24] 3 #[false] #[end_34]) w fun t_36 w =>
        pvv prog (binOp .gtr 3 t_36 (.int .i64 0)) w fun t_37 w =>
        cd t_37 (
          ldv prog (Instr.loadAt 43 h_2) w fun t_38 w =>
          Calls prog 25 #[t_38, t_4, end_34] w (Ret fun t_39 w =>
          efu prog (Instr.storeAt 43 h_2 t_39) w fun u_40 w =>
          pvv prog (Instr.sliceAt 24 end_34 (some (.int .i64 64)) none none) w fun t_41 w =>
          again_35 [t_41] w)) <|
        ldv prog (Instr.loadAt 43 h_2) w fun t_42 w =>
        lp (fun σ w again_44 => pop σ fun t_43 σ => fin σ <|
          pvv prog (binOp .lss 3 t_43 (.int .i64 8)) w fun t_45 w =>
          cd t_45 (
            pvv prog (Instr.index 43 t_42 t_43) w fun t_46 w =>
            pvv prog (binOp .mul 3 (.int .i64 4) t_43) w fun t_47 w =>
            pvv prog (binOp .mul 3 (.int .i64 4) t_43) w fun t_48 w =>
            pvv prog (binOp .add 3 t_48 (.int .i64 1)) w fun t_49 w =>
            pvv prog (binOp .mul 3 (.int .i64 4) t_43) w fun t_50 w =>
            pvv prog (binOp .add 3 t_50 (.int .i64 2)) w fun t_51 w =>
            pvv prog (binOp .mul 3 (.int .i64 4) t_43) w fun t_52 w =>
            pvv prog (binOp .add 3 t_52 (.int .i64 3)) w fun t_53 w =>
            pvv prog (binOp .shr 41 t_46 (.int .u64 24)) w fun t_54 w =>
            pvv prog (convert 41 5 t_54) w fun t_55 w =>
            pvv prog (binOp .shr 41 t_46 (.int .u64 16)) w fun t_56 w =>
            pvv prog (convert 41 5 t_56) w fun t_57 w =>
            pvv prog (binOp .shr 41 t_46 (.int .u64 8)) w fun t_58 w =>
            pvv prog (convert 41 5 t_58) w fun t_59 w =>
            pvv prog (convert 41 5 t_46) w fun t_60 w =>
            pvv prog (Instr.indexAt 23 out_0 t_47) w fun t_61 w =>
            efu prog (Instr.storeAt 5 t_61 t_55) w fun u_62 w =>
            pvv prog (Instr.indexAt 23 out_0 t_49) w fun t_63 w =>
            efu prog (Instr.storeAt 5 t_63 t_57) w fun u_64 w =>
            pvv prog (Instr.indexAt 23 out_0 t_51) w fun t_65 w =>
            efu prog (Instr.storeAt 5 t_65 t_59) w fun u_66 w =>
            pvv prog (Instr.indexAt 23 out_0 t_53) w fun t_67 w =>
            efu prog (Instr.storeAt 5 t_67 t_60) w fun u_68 w =>
            pvv prog (binOp .add 3 t_43 (.int .i64 1)) w fun t_69 w =>
            again_44 [t_69] w) <|
          ldv prog (Instr.loadAt 23 out_0) w fun t_70 w =>
          efu prog (Instr.storeAt 23 out_0 t_70) w fun u_71 w =>
          ∃ r_72, (do loadVar 23 (← asAddr out_0)).run prog w = .ok r_72 w ∧ K r_72 w) [(.int .i64 0)] w) [end_23] w) [t_22, (.int .i64 0)] w)) [b_p0] w)
theorem B11_eq (b_p0 : Value) (w : World) (K : Value → World → Prop) : denFn prog Try.f11 T11 [b_p0] w K = B11 b_p0 w K := by kernel_rfl
theorem c11 {b_p0 : Value} {w : World} {K : Value → World → Prop} (h : B11 b_p0 w K) : Calls prog 11 #[b_p0] w (Ret K) :=
  denFn_calls Try.func11 T11_ok (Eq.mpr (B11_eq b_p0 w K) h)

-- 19 holdfast/holdfastref07.UnHex
def T19 : Ann := (.seq .none (.seq (.seq .none (.seq (.seq .none .none) .none)) (.seq .none (.seq (.seq .none (.block (.loop 144115188075853928 [5] (.seq (.seq .none (.seq .none .none)) (.seq (.block (.seq .none (.meet 140737488322632 [6] (.block (.seq .none (.seq .none (.seq .none (.seq .none (.seq .none .none)))))) .none))) .none))))) (.seq .none .none)))))
theorem T19_ok : chkFn prog Try.f19 T19 = true := by kernel_rfl
def B19 (s_p0 : Value) (w : World) (K : Value → World → Prop) : Prop :=
  efv prog (Instr.alloc 23 true (.tuple #[])) w fun t_0 w =>
  pv prog (oBi .len #[9] 3 #[false] #[s_p0]) w fun t_1 w =>
  pvv prog (oEq .neq 3 (.tmp 8) (.const (.int .i64 64)) t_1 (.int .i64 64)) w fun t_2 w =>
  cd t_2 (
    pvv prog (Instr.build 23 #[]) w fun t_3 w =>
    efu prog (Instr.storeAt 23 t_0 t_3) w fun u_4 w =>
    ∃ r_5, (do loadVar 23 (← asAddr t_0)).run prog w = .ok r_5 w ∧ K (.tuple #[r_5, (.int .i64 3)]) w) <|
  efv prog (Instr.alloc 23 true (.tuple #[])) w fun h_6 w =>
  lp (fun σ w again_8 => pop σ fun i_7 σ => fin σ <|
    pvv prog (binOp .lss 3 i_7 (.int .i64 64)) w fun t_9 w =>
    cd t_9 (
      jn (fun σ w => pop σ fun d_10 σ => fin σ <|
        pvv prog (binOp .quo 3 i_7 (.int .i64 2)) w fun t_11 w =>
        pvv prog (binOp .quo 3 i_7 (.int .i64 2)) w fun t_12 w =>
        pvv prog (Instr.indexAt 23 h_6 t_12) w fun t_13 w =>
        ldv prog (Instr.loadAt 5 t_13) w fun t_14 w =>
        pvv prog (binOp .shl 5 t_14 (.int .u64 4)) w fun t_15 w =>
        pvv prog (binOp .or 5 t_15 d_10) w fun t_16 w =>
        pvv prog (Instr.indexAt 23 h_6 t_11) w fun t_17 w =>
        efu prog (Instr.storeAt 5 t_17 t_16) w fun u_18 w =>
        pvv prog (binOp .add 3 i_7 (.int .i64 1)) w fun t_19 w =>
        again_8 [t_19] w) fun k_20 =>
      pvv prog (Instr.index 9 s_p0 i_7) w fun t_21 w =>
      pvv prog (binOp .geq 5 t_21 (.int .u8 48)) w fun t_22 w =>
      gate (some (t_22, true)) (fun K => K s_p0 w) w fun t_23 w =>
      gate (some (t_22, true)) (fun K => K i_7 w) w fun t_24 w =>
      gate (some (t_22, true)) (fun K => pvv prog (Instr.index 9 t_23 t_24) w K) w fun t_25 w =>
      gate (some (t_22, true)) (fun K => pvv prog (binOp .leq 5 t_25 (.int .u8 57)) w K) w fun t_26 w =>
      pv prog (oPick t_22 t_26 (.bool false)) w fun t_27 w =>
      cd t_27 (
        pvv prog (Instr.index 9 s_p0 i_7) w fun t_28 w =>
        pvv prog (binOp .sub 5 t_28 (.int .u8 48)) w fun t_29 w =>
        k_20 [t_29] w) <|
      pvv prog (Instr.index 9 s_p0 i_7) w fun t_30 w =>
      pvv prog (binOp .geq 5 t_30 (.int .u8 97)) w fun t_31 w =>
      gate (some (t_31, true)) (fun K => K s_p0 w) w fun t_32 w =>
      gate (some (t_31, true)) (fun K => K i_7 w) w fun t_33 w =>
      gate (some (t_31, true)) (fun K => pvv prog (Instr.index 9 t_32 t_33) w K) w fun t_34 w =>
      gate (some (t_31, true)) (fun K => pvv prog (binOp .leq 5 t_34 (.int .u8 102)) w K) w fun t_35 w =>
      pv prog (oPick t_31 t_35 (.bool false)) w fun t_36 w =>
      cd t_36 (
        pvv prog (Instr.index 9 s_p0 i_7) w fun t_37 w =>
        pvv prog (binOp .sub 5 t_37 (.int .u8 97)) w fun t_38 w =>
        pvv prog (binOp .add 5 t_38 (.int .u8 10)) w fun t_39 w =>
        k_20 [t_39] w) <|
      pvv prog (Instr.build 23 #[]) w fun t_40 w =>
      efu prog (Instr.storeAt 23 t_0 t_40) w fun u_41 w =>
      ∃ r_42, (do loadVar 23 (← asAddr t_0)).run prog w = .ok r_42 w ∧ K (.tuple #[r_42, (.int .i64 3)]) w) <|
    ldv prog (Instr.loadAt 23 h_6) w fun t_43 w =>
    efu prog (Instr.storeAt 23 t_0 t_43) w fun u_44 w =>
    ∃ r_45, (do loadVar 23 (← asAddr t_0)).run prog w = .ok r_45 w ∧ K (.tuple #[r_45, (.int .i64 0)]) w) [(.int .i64 0)] w
theorem B19_eq (s_p0 : Value) (w : World) (K : Value → World → Prop) : denFn prog Try.f19 T19 [s_p0] w K = B19 s_p0 w K := by kernel_rfl
theorem c19 {s_p0 : Value} {w : World} {K : Value → World → Prop} (h : B19 s_p0 w K) : Calls prog 19 #[s_p0] w (Ret K) :=
  denFn_calls Try.func19 T19_ok (Eq.mpr (B19_eq s_p0 w K) h)

-- 14 holdfast/hash.Tag
def T14 : Ann := (.seq .none (.meet 64545 [0] (.seq .none (.seq (.seq .none .none) .none)) (.seq .none (.seq .none (.seq .none (.seq (.seq .none (.block (.loop 17178820864 [20] (.seq .none (.seq (.seq .none .none) (.seq (.block (.seq .none (.seq .none .none))) .none)))))) (.seq .none (.seq (.draw [(0, .pure), (1, .pure), (2, .eff), (3, .eff), (4, .eff)]) .none))))))))
theorem T14_ok : chkFn prog Try.f14 T14 = true := by kernel_rfl
def B14 (key_p0 b_p1 : Value) (w : World) (K : Value → World → Prop) : Prop :=
  efv prog (Instr.alloc 23 true (.tuple #[])) w fun t_0 w =>
  jn (fun σ w => pop σ fun key_1 σ => fin σ <|
    efv prog (Instr.alloc 52 true (.tuple #[])) w fun in_2 w =>
    efv prog (Instr.alloc 52 true (.tuple #[])) w fun out_3 w =>
    pvv prog (Instr.sliceAt 52 in_2 none none none) w fun t_4 w =>
    ef prog (oBi .copy #[24, 24] 3 #[false, false] #[t_4, key_1]) w fun t_5 w =>
    ldv prog (Instr.loadAt 52 in_2) w fun t_6 w =>
    efu prog (Instr.storeAt 52 out_3 t_6) w fun u_7 w =>
    lp (fun σ w again_9 => pop σ fun t_8 σ => fin σ <|
      pvv prog (binOp .lss 3 t_8 (.int .i64 64)) w fun t_10 w =>
      cd t_10 (
        pvv prog (Instr.indexAt 52 in_2 t_8) w fun t_11 w =>
        ldv prog (Instr.loadAt 5 t_11) w fun t_12 w =>
        pvv prog (binOp .xor 5 t_12 (.int .u8 54)) w fun t_13 w =>
        pvv prog (Instr.indexAt 52 in_2 t_8) w fun t_14 w =>
        efu prog (Instr.storeAt 5 t_14 t_13) w fun u_15 w =>
        pvv prog (Instr.indexAt 52 out_3 t_8) w fun t_16 w =>
        ldv prog (Instr.loadAt 5 t_16) w fun t_17 w =>
        pvv prog (binOp .xor 5 t_17 (.int .u8 92)) w fun t_18 w =>
        pvv prog (Instr.indexAt 52 out_3 t_8) w fun t_19 w =>
        efu prog (Instr.storeAt 5 t_19 t_18) w fun u_20 w =>
        pvv prog (binOp .add 3 t_8 (.int .i64 1)) w fun t_21 w =>
        again_9 [t_21] w) <|
      pvv prog (Instr.sliceAt 52 in_2 none none none) w fun t_22 w =>
      ef prog (oBi .append #[24, 24] 24 #[false, false] #[t_22, b_p1]) w fun t_23 w =>
      Calls prog 11 #[t_23] w (Ret fun t_24 w =>
      efv prog (Instr.alloc 23 true (.tuple #[])) w fun h_25 w =>
      efu prog (Instr.storeAt 23 h_25 t_24) w fun u_26 w =>
      dr w fun w =>
      pvv prog (Instr.sliceAt 52 out_3 none none none) w fun t_27 w =>
      pvv prog (Instr.sliceAt 23 h_25 none none none) w fun t_28 w =>
      ef prog (oBi .append #[24, 24] 24 #[false, false] #[t_27, t_28]) w fun t_29 w =>
      Calls prog 11 #[t_29] w (Ret fun t_30 w =>
      efu prog (Instr.storeAt 23 t_0 t_30) w fun u_31 w =>
      ∃ r_32, (do loadVar 23 (← asAddr t_0)).run prog w = .ok r_32 w ∧ K r_32 w))) [(.int .i64 0)] w) fun k_36 =>
  pv prog (oBi .len #[24] 3 #[false] #[key_p0]) w fun t_37 w =>
  pvv prog (binOp .gtr 3 t_37 (.int .i64 64)) w fun t_38 w =>
  cd t_38 (
    Calls prog 11 #[key_p0] w (Ret fun t_39 w =>
    efv prog (Instr.alloc 23 true (.tuple #[])) w fun h_40 w =>
    efu prog (Instr.storeAt 23 h_40 t_39) w fun u_41 w =>
    pvv prog (Instr.sliceAt 23 h_40 none none none) w fun t_42 w =>
    k_36 [t_42] w)) <|
  k_36 [key_p0] w
theorem B14_eq (key_p0 b_p1 : Value) (w : World) (K : Value → World → Prop) : denFn prog Try.f14 T14 [key_p0, b_p1] w K = B14 key_p0 b_p1 w K := by kernel_rfl
theorem c14 {key_p0 b_p1 : Value} {w : World} {K : Value → World → Prop} (h : B14 key_p0 b_p1 w K) : Calls prog 14 #[key_p0, b_p1] w (Ret K) :=
  denFn_calls Try.func14 T14_ok (Eq.mpr (B14_eq key_p0 b_p1 w K) h)

-- 18 holdfast/hash.UnHex
def T18 : Ann := (.seq .none (.seq .none (.seq (.seq .none (.seq (.seq .none .none) .none)) (.seq (.seq .none (.block (.loop 2199023251688 [12] (.seq .none (.seq (.seq .none .none) (.seq (.block (.seq .none (.seq (.draw [(0, .pure), (1, .pure), (2, .pure), (3, .pure), (5, .pure), (6, .pure), (7, .pure), (8, .pure), (9, .pure), (4, .eff), (10, .eff), (11, .pure), (12, .pure)]) (.seq (.seq .none (.seq (.seq .none .none) .none)) .none)))) .none)))))) (.seq .none .none)))))
theorem T18_ok : chkFn prog Try.f18 T18 = true := by kernel_rfl
def B18 (s_p0 : Value) (w : World) (K : Value → World → Prop) : Prop :=
  efv prog (Instr.alloc 23 true (.tuple #[])) w fun t_0 w =>
  efv prog (Instr.alloc 23 true (.tuple #[])) w fun h_1 w =>
  pv prog (oBi .len #[9] 3 #[false] #[s_p0]) w fun t_2 w =>
  pvv prog (oEq .neq 3 (.tmp 9) (.const (.int .i64 64)) t_2 (.int .i64 64)) w fun t_3 w =>
  cd t_3 (
    ldv prog (Instr.loadAt 23 h_1) w fun t_4 w =>
    efu prog (Instr.storeAt 23 t_0 t_4) w fun u_5 w =>
    ∃ r_6, (do loadVar 23 (← asAddr t_0)).run prog w = .ok r_6 w ∧ K (.tuple #[r_6, (.int .i64 3)]) w) <|
  lp (fun σ w again_8 => pop σ fun t_7 σ => fin σ <|
    pvv prog (binOp .lss 3 t_7 (.int .i64 32)) w fun t_9 w =>
    cd t_9 (
      dr w fun w =>
      pvv prog (binOp .mul 3 (.int .i64 2) t_7) w fun t_10 w =>
      pvv prog (Instr.index 9 s_p0 t_10) w fun t_11 w =>
      pvv prog (binOp .mul 3 (.int .i64 2) t_7) w fun t_12 w =>
      pvv prog (binOp .add 3 t_12 (.int .i64 1)) w fun t_13 w =>
      pvv prog (Instr.index 9 s_p0 t_13) w fun t_14 w =>
      Calls prog 30 #[(.string ⟨#[48, 49, 50, 51, 52, 53, 54, 55, 56, 57, 97, 98, 99, 100, 101, 102]⟩), t_11] w (Ret fun t_15 w =>
      Calls prog 30 #[(.string ⟨#[48, 49, 50, 51, 52, 53, 54, 55, 56, 57, 97, 98, 99, 100, 101, 102]⟩), t_14] w (Ret fun t_16 w =>
      pvv prog (binOp .lss 3 t_15 (.int .i64 0)) w fun t_17 w =>
      gate (some (t_17, false)) (fun K => K t_16 w) w fun t_18 w =>
      gate (some (t_17, false)) (fun K => pvv prog (binOp .lss 3 t_18 (.int .i64 0)) w K) w fun t_19 w =>
      pv prog (oPick t_17 (.bool true) t_19) w fun t_20 w =>
      cd t_20 (
        pvv prog (Instr.build 23 #[]) w fun t_21 w =>
        efu prog (Instr.storeAt 23 t_0 t_21) w fun u_22 w =>
        ∃ r_23, (do loadVar 23 (← asAddr t_0)).run prog w = .ok r_23 w ∧ K (.tuple #[r_23, (.int .i64 3)]) w) <|
      pvv prog (binOp .shl 3 t_15 (.int .u64 4)) w fun t_24 w =>
      pvv prog (binOp .or 3 t_24 t_16) w fun t_25 w =>
      pvv prog (convert 3 5 t_25) w fun t_26 w =>
      pvv prog (Instr.indexAt 23 h_1 t_7) w fun t_27 w =>
      efu prog (Instr.storeAt 5 t_27 t_26) w fun u_28 w =>
      pvv prog (binOp .add 3 t_7 (.int .i64 1)) w fun t_29 w =>
      again_8 [t_29] w))) <|
    ldv prog (Instr.loadAt 23 h_1) w fun t_32 w =>
    efu prog (Instr.storeAt 23 t_0 t_32) w fun u_33 w =>
    ∃ r_34, (do loadVar 23 (← asAddr t_0)).run prog w = .ok r_34 w ∧ K (.tuple #[r_34, (.int .i64 0)]) w) [(.int .i64 0)] w
theorem B18_eq (s_p0 : Value) (w : World) (K : Value → World → Prop) : denFn prog Try.f18 T18 [s_p0] w K = B18 s_p0 w K := by kernel_rfl
theorem c18 {s_p0 : Value} {w : World} {K : Value → World → Prop} (h : B18 s_p0 w K) : Calls prog 18 #[s_p0] w (Ret K) :=
  denFn_calls Try.func18 T18_ok (Eq.mpr (B18_eq s_p0 w K) h)

-- 22 holdfast/hash.Iterate
def T22 : Ann := (.seq .none (.seq (.block (.seq .none (.seq (.seq .none .none) (.seq .none (.seq (.seq .none .none) .none))))) (.seq .none (.seq (.seq .none (.block (.loop 1090921693184 [33] (.seq .none (.seq (.seq .none .none) (.seq (.block .none) .none)))))) (.seq .none .none)))))
theorem T22_ok : chkFn prog Try.f22 T22 = true := by kernel_rfl
def B22 (password_p0 salt_p1 cost_p2 : Value) (w : World) (K : Value → World → Prop) : Prop :=
  efv prog (Instr.alloc 23 true (.tuple #[])) w fun t_0 w =>
  pv prog (oBi .len #[9] 3 #[false] #[password_p0]) w fun t_1 w =>
  pvv prog (binOp .gtr 3 t_1 (.int .i64 64)) w fun t_2 w =>
  gate (some (t_2, false)) (fun K => K salt_p1 w) w fun t_3 w =>
  gate (some (t_2, false)) (fun K => pv prog (oBi .len #[9] 3 #[false] #[t_3]) w K) w fun t_4 w =>
  gate (some (t_2, false)) (fun K => pvv prog (binOp .gtr 3 t_4 (.int .i64 8)) w K) w fun t_5 w =>
  pv prog (oPick t_2 (.bool true) t_5) w fun t_6 w =>
  cd t_6 (
    pvv prog (Instr.build 23 #[]) w fun t_7 w =>
    efu prog (Instr.storeAt 23 t_0 t_7) w fun u_8 w =>
    ∃ r_9, (do loadVar 23 (← asAddr t_0)).run prog w = .ok r_9 w ∧ K (.tuple #[r_9, (.int .i64 6)]) w) <|
  pvv prog (binOp .lss 3 cost_p2 (.int .i64 1)) w fun t_10 w =>
  gate (some (t_10, false)) (fun K => K cost_p2 w) w fun t_11 w =>
  gate (some (t_10, false)) (fun K => pvv prog (binOp .gtr 3 t_11 (.int .i64 64)) w K) w fun t_12 w =>
  pv prog (oPick t_10 (.bool true) t_12) w fun t_13 w =>
  cd t_13 (
    pvv prog (Instr.build 23 #[]) w fun t_14 w =>
    efu prog (Instr.storeAt 23 t_0 t_14) w fun u_15 w =>
    ∃ r_16, (do loadVar 23 (← asAddr t_0)).run prog w = .ok r_16 w ∧ K (.tuple #[r_16, (.int .i64 2)]) w) <|
  efv prog (convert 9 24 salt_p1) w fun t_17 w =>
  efv prog (convert 9 24 password_p0) w fun t_18 w =>
  Calls prog 14 #[t_17, t_18] w (Ret fun t_19 w =>
  efv prog (Instr.alloc 23 true (.tuple #[])) w fun h_20 w =>
  efu prog (Instr.storeAt 23 h_20 t_19) w fun u_21 w =>
  lp (fun σ w again_23 => pop σ fun t_22 σ => fin σ <|
    pvv prog (binOp .lss 3 t_22 cost_p2) w fun t_24 w =>
    cd t_24 (
      efv prog (convert 9 24 password_p0) w fun t_25 w =>
      pvv prog (Instr.sliceAt 23 h_20 none none none) w fun t_26 w =>
      Calls prog 14 #[t_25, t_26] w (Ret fun t_27 w =>
      efu prog (Instr.storeAt 23 h_20 t_27) w fun u_28 w =>
      pvv prog (binOp .add 3 t_22 (.int .i64 1)) w fun t_29 w =>
      again_23 [t_29] w)) <|
    ldv prog (Instr.loadAt 23 h_20) w fun t_30 w =>
    efu prog (Instr.storeAt 23 t_0 t_30) w fun u_31 w =>
    ∃ r_32, (do loadVar 23 (← asAddr t_0)).run prog w = .ok r_32 w ∧ K (.tuple #[r_32, (.int .i64 0)]) w) [(.int .i64 0)] w)
theorem B22_eq (password_p0 salt_p1 cost_p2 : Value) (w : World) (K : Value → World → Prop) : denFn prog Try.f22 T22 [password_p0, salt_p1, cost_p2] w K = B22 password_p0 salt_p1 cost_p2 w K := by kernel_rfl
theorem c22 {password_p0 salt_p1 cost_p2 : Value} {w : World} {K : Value → World → Prop} (h : B22 password_p0 salt_p1 cost_p2 w K) : Calls prog 22 #[password_p0, salt_p1, cost_p2] w (Ret K) :=
  denFn_calls Try.func22 T22_ok (Eq.mpr (B22_eq password_p0 salt_p1 cost_p2 w K) h)

-- 21 holdfast/holdfastref07.Hex
def T21 : Ann := (.seq .none (.seq .none (.seq (.seq .none (.block (.loop 4294967288 [3, 4] (.seq (.seq .none (.seq .none .none)) (.seq (.block (.draw [(0, .pure), (1, .pure), (2, .pure), (5, .pure), (6, .pure), (11, .pure), (12, .pure), (15, .pure), (16, .pure), (3, .load), (4, .pure), (7, .load), (8, .pure), (9, .pure), (10, .pure), (13, .load), (14, .pure), (17, .load), (18, .pure), (19, .pure), (20, .pure), (21, .pure), (22, .pure), (23, .pure)])) .none))))) (.seq .none .none))))
theorem T21_ok : chkFn prog Try.f21 T21 = true := by kernel_rfl
def B21 (h_p0 : Value) (w : World) (K : Value → World → Prop) : Prop :=
  efv prog (Instr.box 23 h_p0) w fun h_0 w =>
  lp (fun σ w again_3 => pop σ fun s_1 σ => pop σ fun i_2 σ => fin σ <|
    pvv prog (binOp .lss 3 i_2 (.int .i64 32)) w fun t_4 w =>
    cd t_4 (
      dr w fun w =>
      pvv prog (Instr.indexAt 23 h_0 i_2) w fun t_5 w =>
      pvv prog (Instr.indexAt 23 h_0 i_2) w fun t_6 w =>
      pvv prog (Instr.indexAt 23 h_0 i_2) w fun t_7 w =>
      pvv prog (Instr.indexAt 23 h_0 i_2) w fun t_8 w =>
      bindS (vN (Instr.loadAt 5 t_5)) fun m_10 => ldv prog (Instr.loadAt 5 t_5) w fun t_9 w =>
      pvv prog (binOp .shr 5 t_9 (.int .u64 4)) w fun t_11 w =>
      bindS (vN (Instr.loadAt 5 t_6)) fun m_13 => ldv prog (Instr.loadAt 5 t_6) w fun t_12 w =>
      pvv prog (binOp .shr 5 t_12 (.int .u64 4)) w fun t_14 w =>
      pvv prog (binOp .add 5 t_14 (.int .u8 1)) w fun t_15 w =>
      pvv prog (Instr.sliceAt 9 (.string ⟨#[48, 49, 50, 51, 52, 53, 54, 55, 56, 57, 97, 98, 99, 100, 101, 102]⟩) (some t_11) (some t_15) none) w fun t_16 w =>
      bindS (vN (Instr.loadAt 5 t_7)) fun m_18 => ldv prog (Instr.loadAt 5 t_7) w fun t_17 w =>
      pvv prog (binOp .and 5 t_17 (.int .u8 15)) w fun t_19 w =>
      bindS (vN (Instr.loadAt 5 t_8)) fun m_21 => ldv prog (Instr.loadAt 5 t_8) w fun t_20 w =>
      pvv prog (binOp .and 5 t_20 (.int .u8 15)) w fun t_22 w =>
      pvv prog (binOp .add 5 t_22 (.int .u8 1)) w fun t_23 w =>
      pvv prog (Instr.sliceAt 9 (.string ⟨#[48, 49, 50, 51, 52, 53, 54, 55, 56, 57, 97, 98, 99, 100, 101, 102]⟩) (some t_19) (some t_23) none) w fun t_24 w =>
      pvv prog (binOp .add 9 t_16 t_24) w fun t_25 w =>
      pvv prog (binOp .add 9 s_1 t_25) w fun t_26 w =>
      pvv prog (binOp .add 3 i_2 (.int .i64 1)) w fun t_27 w =>
      again_3 [t_26, t_27] w) <|
    K s_1 w) [(.string ⟨#[]⟩), (.int .i64 0)] w
theorem B21_eq (h_p0 : Value) (w : World) (K : Value → World → Prop) : denFn prog Try.f21 T21 [h_p0] w K = B21 h_p0 w K := by kernel_rfl
theorem c21 {h_p0 : Value} {w : World} {K : Value → World → Prop} (h : B21 h_p0 w K) : Calls prog 21 #[h_p0] w (Ret K) :=
  denFn_calls Try.func21 T21_ok (Eq.mpr (B21_eq h_p0 w K) h)

-- 4 holdfast/holdfastlaw07.HashSums
def T4 : Ann := (.seq .none (.seq .none (.seq .none .none)))
theorem T4_ok : chkFn prog Try.f4 T4 = true := by kernel_rfl
def B4 (key_p0 b_p1 : Value) (w : World) (K : Value → World → Prop) : Prop :=
  Calls prog 12 #[key_p0] w (Ret fun t_0 w =>
  Calls prog 12 #[b_p1] w (Ret fun t_1 w =>
  Calls prog 9 #[] w (Ret fun t_2 w =>
  gate (some (t_2, true)) (fun K => K t_1 w) w fun t_3 w =>
  gate (some (t_2, true)) (fun K => Calls prog 11 #[t_3] w (Ret K)) w fun t_4 w =>
  gate (some (t_2, true)) (fun K => K b_p1 w) w fun t_5 w =>
  gate (some (t_2, true)) (fun K => Calls prog 13 #[t_5] w (Ret K)) w fun t_6 w =>
  gate (some (t_2, true)) (fun K => pvv prog (oEq .eql 23 (.tmp 14) (.tmp 16) t_4 t_6) w K) w fun t_7 w =>
  pv prog (oPick t_2 t_7 (.bool false)) w fun t_8 w =>
  gate (some (t_8, true)) (fun K => K t_0 w) w fun t_9 w =>
  gate (some (t_8, true)) (fun K => K t_1 w) w fun t_10 w =>
  gate (some (t_8, true)) (fun K => Calls prog 14 #[t_9, t_10] w (Ret K)) w fun t_11 w =>
  gate (some (t_8, true)) (fun K => K key_p0 w) w fun t_12 w =>
  gate (some (t_8, true)) (fun K => K b_p1 w) w fun t_13 w =>
  gate (some (t_8, true)) (fun K => Calls prog 15 #[t_12, t_13] w (Ret K)) w fun t_14 w =>
  gate (some (t_8, true)) (fun K => pvv prog (oEq .eql 23 (.tmp 22) (.tmp 25) t_11 t_14) w K) w fun t_15 w =>
  pv prog (oPick t_8 t_15 (.bool false)) w fun t_16 w =>
  gate (some (t_16, true)) (fun K => K t_0 w) w fun t_17 w =>
  gate (some (t_16, true)) (fun K => K key_p0 w) w fun t_18 w =>
  gate (some (t_16, true)) (fun K => Calls prog 16 #[t_17, t_18] w (Ret K)) w fun t_19 w =>
  pv prog (oPick t_16 t_19 (.bool false)) w fun t_20 w =>
  gate (some (t_20, true)) (fun K => K t_1 w) w fun t_21 w =>
  gate (some (t_20, true)) (fun K => K b_p1 w) w fun t_22 w =>
  gate (some (t_20, true)) (fun K => Calls prog 16 #[t_21, t_22] w (Ret K)) w fun t_23 w =>
  pv prog (oPick t_20 t_23 (.bool false)) w fun t_24 w =>
  K t_24 w)))
theorem B4_eq (key_p0 b_p1 : Value) (w : World) (K : Value → World → Prop) : denFn prog Try.f4 T4 [key_p0, b_p1] w K = B4 key_p0 b_p1 w K := by kernel_rfl
theorem c4 {key_p0 b_p1 : Value} {w : World} {K : Value → World → Prop} (h : B4 key_p0 b_p1 w K) : Calls prog 4 #[key_p0, b_p1] w (Ret K) :=
  denFn_calls Try.func4 T4_ok (Eq.mpr (B4_eq key_p0 b_p1 w K) h)

-- 9 holdfast/holdfastlaw07.live
def T9 : Ann := (.seq .none (.seq .none .none))
theorem T9_ok : chkFn prog Try.f9 T9 = true := by kernel_rfl
def B9 (w : World) (K : Value → World → Prop) : Prop :=
  Calls prog 11 #[(.slice none 0 0)] w (Ret fun t_0 w =>
  Calls prog 20 #[t_0] w (Ret fun t_1 w =>
  pvv prog (oEq .eql 9 (.tmp 2) (.const (.string ⟨#[101, 51, 98, 48, 99, 52, 52, 50, 57, 56, 102, 99, 49, 99, 49, 52, 57, 97, 102, 98, 102, 52, 99, 56, 57, 57, 54, 102, 98, 57, 50, 52, 50, 55, 97, 101, 52, 49, 101, 52, 54, 52, 57, 98, 57, 51, 52, 99, 97, 52, 57, 53, 57, 57, 49, 98, 55, 56, 53, 50, 98, 56, 53, 53]⟩)) t_1 (.string ⟨#[101, 51, 98, 48, 99, 52, 52, 50, 57, 56, 102, 99, 49, 99, 49, 52, 57, 97, 102, 98, 102, 52, 99, 56, 57, 57, 54, 102, 98, 57, 50, 52, 50, 55, 97, 101, 52, 49, 101, 52, 54, 52, 57, 98, 57, 51, 52, 99, 97, 52, 57, 53, 57, 57, 49, 98, 55, 56, 53, 50, 98, 56, 53, 53]⟩)) w fun t_2 w =>
  gate (some (t_2, true)) (fun K => efv prog (Instr.buildSlice 24 3 #[(0, (.int .u8 97)), (1, (.int .u8 98)), (2, (.int .u8 99))]) w K) w fun t_3 w =>
  gate (some (t_2, true)) (fun K => efv prog (convert 24 24 t_3) w K) w fun t_4 w =>
  gate (some (t_2, true)) (fun K => Calls prog 11 #[t_4] w (Ret K)) w fun t_5 w =>
  gate (some (t_2, true)) (fun K => Calls prog 20 #[t_5] w (Ret K)) w fun t_6 w =>
  gate (some (t_2, true)) (fun K => pvv prog (oEq .eql 9 (.tmp 8) (.const (.string ⟨#[98, 97, 55, 56, 49, 54, 98, 102, 56, 102, 48, 49, 99, 102, 101, 97, 52, 49, 52, 49, 52, 48, 100, 101, 53, 100, 97, 101, 50, 50, 50, 51, 98, 48, 48, 51, 54, 49, 97, 51, 57, 54, 49, 55, 55, 97, 57, 99, 98, 52, 49, 48, 102, 102, 54, 49, 102, 50, 48, 48, 49, 53, 97, 100]⟩)) t_6 (.string ⟨#[98, 97, 55, 56, 49, 54, 98, 102, 56, 102, 48, 49, 99, 102, 101, 97, 52, 49, 52, 49, 52, 48, 100, 101, 53, 100, 97, 101, 50, 50, 50, 51, 98, 48, 48, 51, 54, 49, 97, 51, 57, 54, 49, 55, 55, 97, 57, 99, 98, 52, 49, 48, 102, 102, 54, 49, 102, 50, 48, 48, 49, 53, 97, 100]⟩)) w K) w fun t_7 w =>
  pv prog (oPick t_2 t_7 (.bool false)) w fun t_8 w =>
  K t_8 w))
theorem B9_eq (w : World) (K : Value → World → Prop) : denFn prog Try.f9 T9 [] w K = B9  w K := by kernel_rfl
theorem c9 {w : World} {K : Value → World → Prop} (h : B9  w K) : Calls prog 9 #[] w (Ret K) :=
  denFn_calls Try.func9 T9_ok (Eq.mpr (B9_eq  w K) h)

-- 16 holdfast/holdfastref01.SameBytes
def T16 : Ann := (.seq .none (.seq (.seq .none (.seq (.seq .none .none) .none)) (.seq (.seq .none (.block (.loop 67106864 [5] (.seq (.seq .none (.seq .none .none)) (.seq (.block (.seq (.draw [(0, .pure), (1, .pure), (2, .pure), (4, .pure), (5, .pure), (6, .pure), (3, .load), (7, .load), (8, .pure)]) (.seq (.seq .none .none) .none))) .none))))) (.seq .none .none))))
theorem T16_ok : chkFn prog Try.f16 T16 = true := by kernel_rfl
def B16 (a_p0 b_p1 : Value) (w : World) (K : Value → World → Prop) : Prop :=
  pv prog (oBi .len #[24] 3 #[false] #[a_p0]) w fun t_0 w =>
  pv prog (oBi .len #[24] 3 #[false] #[b_p1]) w fun t_1 w =>
  pvv prog (oEq .neq 3 (.tmp 7) (.tmp 9) t_0 t_1) w fun t_2 w =>
  cd t_2 (
    K (.bool false) w) <|
  lp (fun σ w again_4 => pop σ fun i_3 σ => fin σ <|
    pv prog (oBi .len #[24] 3 #[false] #[a_p0]) w fun t_5 w =>
    pvv prog (binOp .lss 3 i_3 t_5) w fun t_6 w =>
    cd t_6 (
      dr w fun w =>
      pvv prog (Instr.indexAt 24 a_p0 i_3) w fun t_7 w =>
      pvv prog (Instr.indexAt 24 b_p1 i_3) w fun t_8 w =>
      bindS (vN (Instr.loadAt 5 t_7)) fun m_10 => ldv prog (Instr.loadAt 5 t_7) w fun t_9 w =>
      bindS (vN (Instr.loadAt 5 t_8)) fun m_12 => ldv prog (Instr.loadAt 5 t_8) w fun t_11 w =>
      pvv prog (oEq .neq 5 (.tmp 20) (.tmp 24) t_9 t_11) w fun t_13 w =>
      cd t_13 (
        K (.bool false) w) <|
      pvv prog (binOp .add 3 i_3 (.int .i64 1)) w fun t_14 w =>
      again_4 [t_14] w) <|
    K (.bool true) w) [(.int .i64 0)] w
theorem B16_eq (a_p0 b_p1 : Value) (w : World) (K : Value → World → Prop) : denFn prog Try.f16 T16 [a_p0, b_p1] w K = B16 a_p0 b_p1 w K := by kernel_rfl
theorem c16 {a_p0 b_p1 : Value} {w : World} {K : Value → World → Prop} (h : B16 a_p0 b_p1 w K) : Calls prog 16 #[a_p0, b_p1] w (Ret K) :=
  denFn_calls Try.func16 T16_ok (Eq.mpr (B16_eq a_p0 b_p1 w K) h)

-- 20 holdfast/hash.Hex
def T20 : Ann := (.seq .none (.seq .none (.seq (.seq .none (.block (.loop 524192 [7] (.seq .none (.seq (.seq .none .none) (.seq (.block (.seq .none (.seq .none .none))) .none)))))) (.seq .none .none))))
theorem T20_ok : chkFn prog Try.f20 T20 = true := by kernel_rfl
def B20 (h_p0 : Value) (w : World) (K : Value → World → Prop) : Prop :=
  efv prog (Instr.box 23 h_p0) w fun h_0 w =>
  efv prog (Instr.alloc 57 true (.tuple #[])) w fun s_1 w =>
  ldv prog (Instr.loadAt 23 h_0) w fun t_2 w =>
  lp (fun σ w again_4 => pop σ fun t_3 σ => fin σ <|
    pvv prog (binOp .lss 3 t_3 (.int .i64 32)) w fun t_5 w =>
    cd t_5 (
      pvv prog (Instr.index 23 t_2 t_3) w fun t_6 w =>
      pvv prog (binOp .shr 5 t_6 (.int .u64 4)) w fun t_7 w =>
      pvv prog (Instr.index 9 (.string ⟨#[48, 49, 50, 51, 52, 53, 54, 55, 56, 57, 97, 98, 99, 100, 101, 102]⟩) t_7) w fun t_8 w =>
      Calls prog 31 #[s_1, t_8] w (Ret fun t_9 w =>
      pvv prog (binOp .and 5 t_6 (.int .u8 15)) w fun t_10 w =>
      pvv prog (Instr.index 9 (.string ⟨#[48, 49, 50, 51, 52, 53, 54, 55, 56, 57, 97, 98, 99, 100, 101, 102]⟩) t_10) w fun t_11 w =>
      Calls prog 31 #[s_1, t_11] w (Ret fun t_12 w =>
      pvv prog (binOp .add 3 t_3 (.int .i64 1)) w fun t_13 w =>
      again_4 [t_13] w))) <|
    Calls prog 32 #[s_1] w (Ret fun t_14 w =>
    K t_14 w)) [(.int .i64 0)] w
theorem B20_eq (h_p0 : Value) (w : World) (K : Value → World → Prop) : denFn prog Try.f20 T20 [h_p0] w K = B20 h_p0 w K := by kernel_rfl
theorem c20 {h_p0 : Value} {w : World} {K : Value → World → Prop} (h : B20 h_p0 w K) : Calls prog 20 #[h_p0] w (Ret K) :=
  denFn_calls Try.func20 T20_ok (Eq.mpr (B20_eq h_p0 w K) h)

-- 32 (*strings.Builder).String
def T32 : Ann := (.seq .none (.seq (.draw [(0, .pure), (1, .pure), (2, .pure), (5, .pure), (6, .pure), (7, .pure), (3, .load), (8, .load), (9, .pure), (4, .eff), (10, .eff), (11, .pure)]) .none))
theorem T32_ok : chkFn prog Try.f32 T32 = true := by kernel_rfl
def B32 (b_p0 : Value) (w : World) (K : Value → World → Prop) : Prop :=
  dr w fun w =>
  pv prog (oNil b_p0) w fun t_0 w =>
  pvv prog (Instr.fieldAt 57 t_0 1) w fun t_1 w =>
  pv prog (oNil b_p0) w fun t_2 w =>
  pvv prog (Instr.fieldAt 57 t_2 1) w fun t_3 w =>
  bindS (vN (Instr.loadAt 24 t_1)) fun m_5 => ldv prog (Instr.loadAt 24 t_1) w fun t_4 w =>
  bindS (vN (Instr.loadAt 24 t_3)) fun m_7 => ldv prog (Instr.loadAt 24 t_3) w fun t_6 w =>
  pv prog (oBi .len #[24] 3 #[false] #[t_6]) w fun t_8 w =>
  ef prog (oBi .unsafeSliceData #[24] 63 #[false] #[t_4]) w fun t_9 w => stay prog none m_7 t_6 w <| 
  ef prog (oBi .unsafeString #[63, 3] 9 #[false, false] #[t_9, t_8]) w fun t_10 w => stay prog none m_7 t_6 w <| stay prog none m_5 t_4 w <| 
  K t_10 w
theorem B32_eq (b_p0 : Value) (w : World) (K : Value → World → Prop) : denFn prog Try.f32 T32 [b_p0] w K = B32 b_p0 w K := by kernel_rfl
theorem c32 {b_p0 : Value} {w : World} {K : Value → World → Prop} (h : B32 b_p0 w K) : Calls prog 32 #[b_p0] w (Ret K) :=
  denFn_calls Try.func32 T32_ok (Eq.mpr (B32_eq b_p0 w K) h)

-- 31 (*strings.Builder).WriteByte
def T31 : Ann := (.seq .none (.seq .none (.seq .none (.seq .none .none))))
theorem T31_ok : chkFn prog Try.f31 T31 = true := by kernel_rfl
def B31 (b_p0 c_p1 : Value) (w : World) (K : Value → World → Prop) : Prop :=
  Calls prog 35 #[b_p0] w (Ret fun t_0 w =>
  pv prog (oNil b_p0) w fun t_1 w =>
  pvv prog (Instr.fieldAt 57 t_1 1) w fun t_2 w =>
  ldv prog (Instr.loadAt 24 t_2) w fun t_3 w =>
  efv prog (Instr.buildSlice 24 1 #[(0, c_p1)]) w fun t_4 w =>
  ef prog (oBi .append #[24, 24] 24 #[false, false] #[t_3, t_4]) w fun t_5 w =>
  pv prog (oNil b_p0) w fun t_6 w =>
  pvv prog (Instr.fieldAt 57 t_6 1) w fun t_7 w =>
  efu prog (Instr.storeAt 24 t_7 t_5) w fun u_8 w =>
  K .nilIface w)
theorem B31_eq (b_p0 c_p1 : Value) (w : World) (K : Value → World → Prop) : denFn prog Try.f31 T31 [b_p0, c_p1] w K = B31 b_p0 c_p1 w K := by kernel_rfl
theorem c31 {b_p0 c_p1 : Value} {w : World} {K : Value → World → Prop} (h : B31 b_p0 c_p1 w K) : Calls prog 31 #[b_p0, c_p1] w (Ret K) :=
  denFn_calls Try.func31 T31_ok (Eq.mpr (B31_eq b_p0 c_p1 w K) h)

-- 10 holdfast/hash.Chain
def T10 : Ann := (.seq .none (.seq .none .none))
theorem T10_ok : chkFn prog Try.f10 T10 = true := by kernel_rfl
def B10 (h_p0 b_p1 : Value) (w : World) (K : Value → World → Prop) : Prop :=
  efv prog (Instr.box 23 h_p0) w fun h_0 w =>
  efv prog (Instr.alloc 23 true (.tuple #[])) w fun t_1 w =>
  pvv prog (Instr.sliceAt 23 h_0 none none none) w fun t_2 w =>
  ef prog (oBi .append #[24, 24] 24 #[false, false] #[t_2, b_p1]) w fun t_3 w =>
  Calls prog 11 #[t_3] w (Ret fun t_4 w =>
  efu prog (Instr.storeAt 23 t_1 t_4) w fun u_5 w =>
  ∃ r_6, (do loadVar 23 (← asAddr t_1)).run prog w = .ok r_6 w ∧ K r_6 w)
theorem B10_eq (h_p0 b_p1 : Value) (w : World) (K : Value → World → Prop) : denFn prog Try.f10 T10 [h_p0, b_p1] w K = B10 h_p0 b_p1 w K := by kernel_rfl
theorem c10 {h_p0 b_p1 : Value} {w : World} {K : Value → World → Prop} (h : B10 h_p0 b_p1 w K) : Calls prog 10 #[h_p0, b_p1] w (Ret K) :=
  denFn_calls Try.func10 T10_ok (Eq.mpr (B10_eq h_p0 b_p1 w K) h)

-- 33 math/bits.RotateLeft32
def T33 : Ann := (.seq .none (.seq .none (.seq .none .none)))
theorem T33_ok : chkFn prog Try.f33 T33 = true := by kernel_rfl
def B33 (x_p0 k_p1 : Value) (w : World) (K : Value → World → Prop) : Prop :=
  pvv prog (convert 3 47 k_p1) w fun t_0 w =>
  pvv prog (binOp .and 47 t_0 (.int .u64 31)) w fun t_1 w =>
  pvv prog (binOp .shl 41 x_p0 t_1) w fun t_2 w =>
  pvv prog (binOp .sub 47 (.int .u64 32) t_1) w fun t_3 w =>
  pvv prog (binOp .shr 41 x_p0 t_3) w fun t_4 w =>
  pvv prog (binOp .or 41 t_2 t_4) w fun t_5 w =>
  K t_5 w
theorem B33_eq (x_p0 k_p1 : Value) (w : World) (K : Value → World → Prop) : denFn prog Try.f33 T33 [x_p0, k_p1] w K = B33 x_p0 k_p1 w K := by kernel_rfl
theorem c33 {x_p0 k_p1 : Value} {w : World} {K : Value → World → Prop} (h : B33 x_p0 k_p1 w K) : Calls prog 33 #[x_p0, k_p1] w (Ret K) :=
  denFn_calls Try.func33 T33_ok (Eq.mpr (B33_eq x_p0 k_p1 w K) h)

-- 34 internal/stringslite.IndexByte
def T34 : Ann := (.seq .none (.seq .none .none))
theorem T34_ok : chkFn prog Try.f34 T34 = true := by kernel_rfl
def B34 (s_p0 c_p1 : Value) (w : World) (K : Value → World → Prop) : Prop :=
  ef prog (oCall (.func (.func 36) #[] #[]) #[s_p0, c_p1]) w fun t_0 w =>
  K t_0 w
theorem B34_eq (s_p0 c_p1 : Value) (w : World) (K : Value → World → Prop) : denFn prog Try.f34 T34 [s_p0, c_p1] w K = B34 s_p0 c_p1 w K := by kernel_rfl
theorem c34 {s_p0 c_p1 : Value} {w : World} {K : Value → World → Prop} (h : B34 s_p0 c_p1 w K) : Calls prog 34 #[s_p0, c_p1] w (Ret K) :=
  denFn_calls Try.func34 T34_ok (Eq.mpr (B34_eq s_p0 c_p1 w K) h)

-- 30 strings.IndexByte
def T30 : Ann := (.seq .none (.seq .none .none))
theorem T30_ok : chkFn prog Try.f30 T30 = true := by kernel_rfl
def B30 (s_p0 c_p1 : Value) (w : World) (K : Value → World → Prop) : Prop :=
  Calls prog 34 #[s_p0, c_p1] w (Ret fun t_0 w =>
  K t_0 w)
theorem B30_eq (s_p0 c_p1 : Value) (w : World) (K : Value → World → Prop) : denFn prog Try.f30 T30 [s_p0, c_p1] w K = B30 s_p0 c_p1 w K := by kernel_rfl
theorem c30 {s_p0 c_p1 : Value} {w : World} {K : Value → World → Prop} (h : B30 s_p0 c_p1 w K) : Calls prog 30 #[s_p0, c_p1] w (Ret K) :=
  denFn_calls Try.func30 T30_ok (Eq.mpr (B30_eq s_p0 c_p1 w K) h)


end Go.Proofs.Ytjmgkfpjaelilaa
