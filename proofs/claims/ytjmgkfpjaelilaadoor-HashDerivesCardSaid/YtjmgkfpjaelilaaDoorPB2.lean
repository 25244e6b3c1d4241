import Derived.Test.YtjmgkfpjaelilaaDoorPI
set_option linter.all false
set_option maxRecDepth 100000
namespace Go.Proofs.YtjmgkfpjaelilaaDoor
open Go Hold
-- 37 internal/stringslite.Index
def T37 : Ann := (.seq .none (.seq .none (.seq (.block (.seq .none (.seq (.seq .none .none) (.seq .none (.seq (.seq .none .none) (.seq .none (.seq (.seq .none .none) (.seq .none (.seq (.seq .none .none) .none))))))))) (.seq .none (.seq .none (.seq .none (.seq .none (.seq .none (.seq (.block (.loop 11150372599265311570767858992208992677149968 [8, 10] (.seq (.seq .none (.seq .none .none)) (.block (.meet 302230301982152686831888 [8] (.seq .none (.seq (.seq .none (.seq (.seq .none (.seq (.seq .none .none) .none)) .none)) .none)) (.seq (.seq .none (.seq (.seq .none .none) .none)) (.seq .none (.seq .none (.seq .none (.seq (.seq .none (.seq (.seq .none (.seq (.seq .none .none) .none)) (.seq .none .none))) (.seq .none (.seq (.seq .none (.seq (.seq .none (.seq (.seq .none .none) .none)) (.seq .none .none))) .none)))))))))))) (.seq .none .none))))))))))
theorem T37_ok : chkFn prog Tryd.f37 T37 = true := by kernel_rfl
def B37 (s_p0 substr_p1 : Value) (w : World) (K : Value → World → Prop) : Prop :=
  pv prog (oBi .len #[9] 3 #[false] #[substr_p1]) w fun t_0 w =>
  pvv prog (oEq .eql 3 (.tmp 17) (.const (.int .i64 0)) t_0 (.int .i64 0)) w fun t_1 w =>
  gate (some (t_1, false)) (fun K => K substr_p1 w) w fun t_2 w =>
  gate (some (t_1, false)) (fun K => K s_p0 w) w fun t_3 w =>
  gate (some (t_1, false)) (fun K => pvv prog (oEq .eql 9 (.tmp 20) (.tmp 21) t_2 t_3) w K) w fun t_4 w =>
  pv prog (oPick t_1 (.bool true) t_4) w fun t_5 w =>
  cd t_5 (
    K (.int .i64 0) w) <|
  pvv prog (oEq .eql 3 (.tmp 25) (.const (.int .i64 1)) t_0 (.int .i64 1)) w fun t_6 w =>
  cd t_6 (
    pvv prog (Instr.index 9 substr_p1 (.int .i64 0)) w fun t_7 w =>
    Calls prog 40 #[s_p0, t_7] w (Ret fun t_8 w =>
    K t_8 w)) <|
  pv prog (oBi .len #[9] 3 #[false] #[s_p0]) w fun t_9 w =>
  pvv prog (binOp .geq 3 t_0 t_9) w fun t_10 w =>
  cd t_10 (
    K (.int .i64 (-1)) w) <|
  ldv prog (Instr.loadAt 3 (.pointer (some ⟨0, 0, none⟩))) w fun t_11 w =>
  pvv prog (binOp .leq 3 t_0 t_11) w fun t_12 w =>
  gate (some (t_12, true)) (fun K => K s_p0 w) w fun t_13 w =>
  gate (some (t_12, true)) (fun K => pv prog (oBi .len #[9] 3 #[false] #[t_13]) w K) w fun t_14 w =>
  gate (some (t_12, true)) (fun K => pvv prog (binOp .leq 3 t_14 (.int .i64 64)) w K) w fun t_15 w =>
  pv prog (oPick t_12 t_15 (.bool false)) w fun t_16 w =>
  cd t_16 (
    ef prog (oCall (.func (.func 41) #[] #[]) #[s_p0, substr_p1]) w fun t_17 w =>
    K t_17 w) <|
  pvv prog (Instr.index 9 substr_p1 (.int .i64 0)) w fun t_18 w =>
  pvv prog (Instr.index 9 substr_p1 (.int .i64 1)) w fun t_19 w =>
  pv prog (oBi .len #[9] 3 #[false] #[s_p0]) w fun t_20 w =>
  pvv prog (binOp .sub 3 t_20 t_0) w fun t_21 w =>
  pvv prog (binOp .add 3 t_21 (.int .i64 1)) w fun t_22 w =>
  lp (fun σ w again_25 => pop σ fun i_23 σ => pop σ fun fails_24 σ => fin σ <|
    pvv prog (binOp .lss 3 i_23 t_22) w fun t_26 w =>
    cd t_26 (
      jn (fun σ w => pop σ fun i_27 σ => fin σ <|
        pvv prog (binOp .add 3 i_27 (.int .i64 1)) w fun t_28 w =>
        pvv prog (Instr.index 9 s_p0 t_28) w fun t_29 w =>
        pvv prog (oEq .eql 5 (.tmp 81) (.tmp 82) t_29 t_19) w fun t_30 w =>
        gate (some (t_30, true)) (fun K => K s_p0 w) w fun t_31 w =>
        gate (some (t_30, true)) (fun K => K i_27 w) w fun t_32 w =>
        gate (some (t_30, true)) (fun K => K i_27 w) w fun t_33 w =>
        gate (some (t_30, true)) (fun K => K t_0 w) w fun t_34 w =>
        gate (some (t_30, true)) (fun K => pvv prog (binOp .add 3 t_33 t_34) w K) w fun t_35 w =>
        gate (some (t_30, true)) (fun K => pvv prog (Instr.sliceAt 9 t_31 (some t_32) (some t_35) none) w K) w fun t_36 w =>
        gate (some (t_30, true)) (fun K => K substr_p1 w) w fun t_37 w =>
        gate (some (t_30, true)) (fun K => pvv prog (oEq .eql 9 (.tmp 90) (.tmp 91) t_36 t_37) w K) w fun t_38 w =>
        pv prog (oPick t_30 t_38 (.bool false)) w fun t_39 w =>
        cd t_39 (
          K i_27 w) <|
        pvv prog (binOp .add 3 i_27 (.int .i64 1)) w fun t_40 w =>
        pvv prog (binOp .add 3 fails_24 (.int .i64 1)) w fun t_41 w =>
        ldv prog (Instr.loadAt 3 (.pointer (some ⟨0, 0, none⟩))) w fun t_42 w =>
        pvv prog (binOp .leq 3 t_0 t_42) w fun t_43 w =>
        gate (some (t_43, true)) (fun K => K t_41 w) w fun t_44 w =>
        gate (some (t_43, true)) (fun K => K t_40 w) w fun t_45 w =>
        gate (some (t_43, true)) (fun K => Calls prog 42 #[t_45] w (Ret K)) w fun t_46 w =>
        gate (some (t_43, true)) (fun K => pvv prog (binOp .gtr 3 t_44 t_46) w K) w fun t_47 w =>
        pv prog (oPick t_43 t_47 (.bool false)) w fun t_48 w =>
        cd t_48 (
          pvv prog (Instr.sliceAt 9 s_p0 (some t_40) none none) w fun t_49 w =>
          ef prog (oCall (.func (.func 41) #[] #[]) #[t_49, substr_p1]) w fun t_50 w =>
          pvv prog (binOp .geq 3 t_50 (.int .i64 0)) w fun t_51 w =>
          cd t_51 (
            pvv prog (binOp .add 3 t_50 t_40) w fun t_52 w =>
            K t_52 w) <|
          K (.int .i64 (-1)) w) <|
        ldv prog (Instr.loadAt 3 (.pointer (some ⟨0, 0, none⟩))) w fun t_53 w =>
        pvv prog (binOp .gtr 3 t_0 t_53) w fun t_54 w =>
        gate (some (t_54, true)) (fun K => K t_41 w) w fun t_55 w =>
        gate (some (t_54, true)) (fun K => K t_40 w) w fun t_56 w =>
        gate (some (t_54, true)) (fun K => pvv prog (binOp .shr 3 t_56 (.int .u64 4)) w K) w fun t_57 w =>
        gate (some (t_54, true)) (fun K => pvv prog (binOp .add 3 (.int .i64 4) t_57) w K) w fun t_58 w =>
        gate (some (t_54, true)) (fun K => pvv prog (binOp .geq 3 t_55 t_58) w K) w fun t_59 w =>
        pv prog (oPick t_54 t_59 (.bool false)) w fun t_60 w =>
        gate (some (t_60, true)) (fun K => K t_40 w) w fun t_61 w =>
        gate (some (t_60, true)) (fun K => K t_22 w) w fun t_62 w =>
        gate (some (t_60, true)) (fun K => pvv prog (binOp .lss 3 t_61 t_62) w K) w fun t_63 w =>
        pv prog (oPick t_60 t_63 (.bool false)) w fun t_64 w =>
        cd t_64 (
          pvv prog (Instr.sliceAt 9 s_p0 (some t_40) none none) w fun t_65 w =>
          Calls prog 43 #[t_65, substr_p1] w (Ret fun t_66 w =>
          pvv prog (binOp .lss 3 t_66 (.int .i64 0)) w fun t_67 w =>
          cd t_67 (
            K (.int .i64 (-1)) w) <|
          pvv prog (binOp .add 3 t_40 t_66) w fun t_68 w =>
          K t_68 w)) <|
        again_25 [t_40, t_41] w) fun k_69 =>
      pvv prog (Instr.index 9 s_p0 i_23) w fun t_70 w =>
      pvv prog (oEq .neq 5 (.tmp 62) (.tmp 63) t_70 t_18) w fun t_71 w =>
      cd t_71 (
        pvv prog (binOp .add 3 i_23 (.int .i64 1)) w fun t_72 w =>
        pvv prog (Instr.sliceAt 9 s_p0 (some t_72) (some t_22) none) w fun t_73 w =>
        Calls prog 40 #[t_73, t_18] w (Ret fun t_74 w =>
        pvv prog (binOp .lss 3 t_74 (.int .i64 0)) w fun t_75 w =>
        cd t_75 (
          K (.int .i64 (-1)) w) <|
        pvv prog (binOp .add 3 t_74 (.int .i64 1)) w fun t_76 w =>
        pvv prog (binOp .add 3 i_23 t_76) w fun t_77 w =>
        k_69 [t_77] w)) <|
      k_69 [i_23] w) <|
    K (.int .i64 (-1)) w) [(.int .i64 0), (.int .i64 0)] w
theorem B37_eq (s_p0 substr_p1 : Value) (w : World) (K : Value → World → Prop) : denFn prog Tryd.f37 T37 [s_p0, substr_p1] w K = B37 s_p0 substr_p1 w K := by kernel_rfl
theorem c37 {s_p0 substr_p1 : Value} {w : World} {K : Value → World → Prop} (h : B37 s_p0 substr_p1 w K) : Calls prog 37 #[s_p0, substr_p1] w (Ret K) :=
  denFn_calls Tryd.func37 T37_ok (Eq.mpr (B37_eq s_p0 substr_p1 w K) h)

-- 25 strings.Replace
def T25 : Ann := (.seq .none (.seq (.seq .none (.seq (.seq .none .none) .none)) (.meet 274861130504 [3] (.seq .none (.seq .none (.seq (.seq .none .none) (.seq .none (.seq .none .none))))) (.seq .none (.seq .none (.seq .none (.meet 633825300114114137798398244864 [11] (.seq .none (.seq (.seq .none (.block (.loop 18889456924279326119936 [11, 53] (.seq .none (.seq (.seq .none .none) (.seq (.block (.seq .none (.seq .none (.seq .none .none)))) .none)))))) (.seq .none (.seq .none (.block (.loop 633824997882659797091057985536 [11, 78] (.seq .none (.seq (.seq .none .none) (.seq (.block (.seq .none (.seq .none (.seq .none (.seq .none .none))))) .none))))))))) (.seq .none (.seq .none .none)))))))))
theorem T25_ok : chkFn prog Tryd.f25 T25 = true := by kernel_rfl
def B25 (s_p0 old_p1 new_p2 n_p3 : Value) (w : World) (K : Value → World → Prop) : Prop :=
  pvv prog (oEq .eql 9 (.tmp 16) (.tmp 17) old_p1 new_p2) w fun t_0 w =>
  gate (some (t_0, false)) (fun K => K n_p3 w) w fun t_1 w =>
  gate (some (t_0, false)) (fun K => pvv prog (oEq .eql 3 (.tmp 20) (.const (.int .i64 0)) t_1 (.int .i64 0)) w K) w fun t_2 w =>
  pv prog (oPick t_0 (.bool true) t_2) w fun t_3 w =>
  cd t_3 (
    K s_p0 w) <|
  jn (fun σ w => pop σ fun n_4 σ => fin σ <|
    efv prog (Instr.alloc 44 true (.tuple #[])) w fun b_5 w =>
    pv prog (oBi .len #[9] 3 #[false] #[s_p0]) w fun t_6 w =>
    pv prog (oBi .len #[9] 3 #[false] #[new_p2]) w fun t_7 w =>
    pv prog (oBi .len #[9] 3 #[false] #[old_p1]) w fun t_8 w =>
    pvv prog (binOp .sub 3 t_7 t_8) w fun t_9 w =>
    pvv prog (binOp .mul 3 n_4 t_9) w fun t_10 w =>
    pvv prog (binOp .add 3 t_6 t_10) w fun t_11 w =>
    Calls prog 29 #[b_5, t_11] w (Ret fun t_12 w =>
    jn (fun σ w => pop σ fun start_13 σ => fin σ <|
      pvv prog (Instr.sliceAt 9 s_p0 (some start_13) none none) w fun t_14 w =>
      Calls prog 31 #[b_5, t_14] w (Ret fun t_15 w =>
      Calls prog 19 #[b_5] w (Ret fun t_16 w =>
      K t_16 w))) fun k_17 =>
    pv prog (oBi .len #[9] 3 #[false] #[old_p1]) w fun t_18 w =>
    pvv prog (binOp .gtr 3 t_18 (.int .i64 0)) w fun t_19 w =>
    cd t_19 (
      lp (fun σ w again_22 => pop σ fun start_20 σ => pop σ fun t_21 σ => fin σ <|
        pvv prog (binOp .lss 3 t_21 n_4) w fun t_23 w =>
        cd t_23 (
          pvv prog (Instr.sliceAt 9 s_p0 (some start_20) none none) w fun t_24 w =>
          Calls prog 30 #[t_24, old_p1] w (Ret fun t_25 w =>
          pvv prog (binOp .add 3 start_20 t_25) w fun t_26 w =>
          pvv prog (Instr.sliceAt 9 s_p0 (some start_20) (some t_26) none) w fun t_27 w =>
          Calls prog 31 #[b_5, t_27] w (Ret fun t_28 w =>
          Calls prog 31 #[b_5, new_p2] w (Ret fun t_29 w =>
          pv prog (oBi .len #[9] 3 #[false] #[old_p1]) w fun t_30 w =>
          pvv prog (binOp .add 3 t_26 t_30) w fun t_31 w =>
          pvv prog (binOp .add 3 t_21 (.int .i64 1)) w fun t_32 w =>
          again_22 [t_31, t_32] w)))) <|
        k_17 [start_20] w) [(.int .i64 0), (.int .i64 0)] w) <|
    Calls prog 31 #[b_5, new_p2] w (Ret fun t_33 w =>
    pvv prog (binOp .sub 3 n_4 (.int .i64 1)) w fun t_34 w =>
    lp (fun σ w again_37 => pop σ fun start_35 σ => pop σ fun t_36 σ => fin σ <|
      pvv prog (binOp .lss 3 t_36 t_34) w fun t_38 w =>
      cd t_38 (
        pvv prog (Instr.sliceAt 9 s_p0 (some start_35) none none) w fun t_39 w =>
        Calls prog 32 #[t_39] w (Ret fun t_40 w =>
        pvv prog (Instr.extract t_40 0) w fun t_41 w =>
        pvv prog (Instr.extract t_40 1) w fun t_42 w =>
        pvv prog (binOp .add 3 start_35 t_42) w fun t_43 w =>
        pvv prog (Instr.sliceAt 9 s_p0 (some start_35) (some t_43) none) w fun t_44 w =>
        Calls prog 31 #[b_5, t_44] w (Ret fun t_45 w =>
        Calls prog 31 #[b_5, new_p2] w (Ret fun t_46 w =>
        pvv prog (binOp .add 3 t_36 (.int .i64 1)) w fun t_47 w =>
        again_37 [t_43, t_47] w)))) <|
      k_17 [start_35] w) [(.int .i64 0), (.int .i64 0)] w))) fun k_48 =>
  Calls prog 28 #[s_p0, old_p1] w (Ret fun t_49 w =>
  pvv prog (oEq .eql 3 (.tmp 27) (.const (.int .i64 0)) t_49 (.int .i64 0)) w fun t_50 w =>
  cd t_50 (
    K s_p0 w) <|
  pvv prog (binOp .lss 3 n_p3 (.int .i64 0)) w fun t_51 w =>
  gate (some (t_51, false)) (fun K => K t_49 w) w fun t_52 w =>
  gate (some (t_51, false)) (fun K => K n_p3 w) w fun t_53 w =>
  gate (some (t_51, false)) (fun K => pvv prog (binOp .lss 3 t_52 t_53) w K) w fun t_54 w =>
  pv prog (oPick t_51 (.bool true) t_54) w fun t_55 w =>
  cd t_55 (
    k_48 [t_49] w) <|
  k_48 [n_p3] w)
theorem B25_eq (s_p0 old_p1 new_p2 n_p3 : Value) (w : World) (K : Value → World → Prop) : denFn prog Tryd.f25 T25 [s_p0, old_p1, new_p2, n_p3] w K = B25 s_p0 old_p1 new_p2 n_p3 w K := by kernel_rfl
theorem c25 {s_p0 old_p1 new_p2 n_p3 : Value} {w : World} {K : Value → World → Prop} (h : B25 s_p0 old_p1 new_p2 n_p3 w K) : Calls prog 25 #[s_p0, old_p1, new_p2, n_p3] w (Ret K) :=
  denFn_calls Tryd.func25 T25_ok (Eq.mpr (B25_eq s_p0 old_p1 new_p2 n_p3 w K) h)

-- 11 holdfast/holdfastref02.Key
def T11 : Ann := (.seq .none (.seq (.seq .none (.seq (.seq .none .none) .none)) (.seq .none (.seq (.seq .none (.block (.loop 288230376151679100 [4, 5] (.seq (.seq .none (.seq .none .none)) (.seq (.block (.seq (.seq .none (.seq (.seq .none .none) .none)) (.seq (.seq .none (.block (.loop 36028796884746320 [4, 6] (.seq (.seq .none (.seq .none .none)) (.meet 36028728299487248 [4] (.block (.seq .none (.seq .none (.seq .none .none)))) .none))))) .none))) .none))))) (.seq (.seq .none (.seq (.seq .none .none) .none)) (.seq .none .none))))))
theorem T11_ok : chkFn prog Tryd.f11 T11 = true := by kernel_rfl
def B11 (parts_p0 : Value) (w : World) (K : Value → World → Prop) : Prop :=
  pv prog (oBi .len #[24] 3 #[false] #[parts_p0]) w fun t_0 w =>
  pvv prog (binOp .lss 3 t_0 (.int .i64 1)) w fun t_1 w =>
  gate (some (t_1, false)) (fun K => K parts_p0 w) w fun t_2 w =>
  gate (some (t_1, false)) (fun K => pv prog (oBi .len #[24] 3 #[false] #[t_2]) w K) w fun t_3 w =>
  gate (some (t_1, false)) (fun K => pvv prog (binOp .gtr 3 t_3 (.int .i64 8)) w K) w fun t_4 w =>
  pv prog (oPick t_1 (.bool true) t_4) w fun t_5 w =>
  cd t_5 (
    K (.tuple #[(.slice none 0 0), (.int .i64 2)]) w) <|
  lp (fun σ w again_8 => pop σ fun out_6 σ => pop σ fun i_7 σ => fin σ <|
    pv prog (oBi .len #[24] 3 #[false] #[parts_p0]) w fun t_9 w =>
    pvv prog (binOp .lss 3 i_7 t_9) w fun t_10 w =>
    cd t_10 (
      pvv prog (Instr.indexAt 24 parts_p0 i_7) w fun t_11 w =>
      ldv prog (Instr.loadAt 9 t_11) w fun t_12 w =>
      pv prog (oBi .len #[9] 3 #[false] #[t_12]) w fun t_13 w =>
      pvv prog (binOp .gtr 3 t_13 (.int .i64 64)) w fun t_14 w =>
      cd t_14 (
        K (.tuple #[(.slice none 0 0), (.int .i64 6)]) w) <|
      lp (fun σ w again_17 => pop σ fun out_15 σ => pop σ fun k_16 σ => fin σ <|
        pvv prog (Instr.indexAt 24 parts_p0 i_7) w fun t_18 w =>
        ldv prog (Instr.loadAt 9 t_18) w fun t_19 w =>
        pv prog (oBi .len #[9] 3 #[false] #[t_19]) w fun t_20 w =>
        pvv prog (binOp .lss 3 k_16 t_20) w fun t_21 w =>
        cd t_21 (
          jn (fun σ w => pop σ fun out_22 σ => fin σ <|
            pvv prog (binOp .add 3 k_16 (.int .i64 1)) w fun t_23 w =>
            again_17 [out_22, t_23] w) fun k_24 =>
          pvv prog (Instr.indexAt 24 parts_p0 i_7) w fun t_25 w =>
          ldv prog (Instr.loadAt 9 t_25) w fun t_26 w =>
          pvv prog (Instr.index 9 t_26 k_16) w fun t_27 w =>
          efv prog (Instr.buildSlice 25 1 #[(0, t_27)]) w fun t_28 w =>
          ef prog (oBi .append #[25, 25] 25 #[false, false] #[out_15, t_28]) w fun t_29 w =>
          pvv prog (Instr.indexAt 24 parts_p0 i_7) w fun t_30 w =>
          ldv prog (Instr.loadAt 9 t_30) w fun t_31 w =>
          pvv prog (Instr.index 9 t_31 k_16) w fun t_32 w =>
          pvv prog (oEq .eql 5 (.tmp 50) (.const (.int .u8 0)) t_32 (.int .u8 0)) w fun t_33 w =>
          cd t_33 (
            efv prog (Instr.buildSlice 25 1 #[(0, (.int .u8 255))]) w fun t_34 w =>
            ef prog (oBi .append #[25, 25] 25 #[false, false] #[t_29, t_34]) w fun t_35 w =>
            k_24 [t_35] w) <|
          k_24 [t_29] w) <|
        efv prog (Instr.buildSlice 25 2 #[(0, (.int .u8 0)), (1, (.int .u8 1))]) w fun t_36 w =>
        ef prog (oBi .append #[25, 25] 25 #[false, false] #[out_15, t_36]) w fun t_37 w =>
        pvv prog (binOp .add 3 i_7 (.int .i64 1)) w fun t_38 w =>
        again_8 [t_37, t_38] w) [out_6, (.int .i64 0)] w) <|
    pv prog (oBi .len #[25] 3 #[false] #[out_6]) w fun t_39 w =>
    pvv prog (binOp .gtr 3 t_39 (.int .i64 64)) w fun t_40 w =>
    cd t_40 (
      K (.tuple #[(.slice none 0 0), (.int .i64 6)]) w) <|
    K (.tuple #[out_6, (.int .i64 0)]) w) [(.slice none 0 0), (.int .i64 0)] w
theorem B11_eq (parts_p0 : Value) (w : World) (K : Value → World → Prop) : denFn prog Tryd.f11 T11 [parts_p0] w K = B11 parts_p0 w K := by kernel_rfl
theorem c11 {parts_p0 : Value} {w : World} {K : Value → World → Prop} (h : B11 parts_p0 w K) : Calls prog 11 #[parts_p0] w (Ret K) :=
  denFn_calls Tryd.func11 T11_ok (Eq.mpr (B11_eq parts_p0 w K) h)

-- 10 holdfast/hash.Tag
def T10 : Ann := (.seq .none (.meet 64545 [0] (.seq .none (.seq (.seq .none .none) .none)) (.seq .none (.seq .none (.seq .none (.seq (.seq .none (.block (.loop 17178820864 [20] (.seq .none (.seq (.seq .none .none) (.seq (.block (.seq .none (.seq .none .none))) .none)))))) (.seq .none (.seq (.draw [(0, .pure), (1, .pure), (2, .eff), (3, .eff), (4, .eff)]) .none))))))))
theorem T10_ok : chkFn prog Tryd.f10 T10 = true := by kernel_rfl
def B10 (key_p0 b_p1 : Value) (w : World) (K : Value → World → Prop) : Prop :=
  efv prog (Instr.alloc 23 true (.tuple #[])) w fun t_0 w =>
  jn (fun σ w => pop σ fun key_1 σ => fin σ <|
    efv prog (Instr.alloc 41 true (.tuple #[])) w fun in_2 w =>
    efv prog (Instr.alloc 41 true (.tuple #[])) w fun out_3 w =>
    pvv prog (Instr.sliceAt 41 in_2 none none none) w fun t_4 w =>
    ef prog (oBi .copy #[25, 25] 3 #[false, false] #[t_4, key_1]) w fun t_5 w =>
    ldv prog (Instr.loadAt 41 in_2) w fun t_6 w =>
    efu prog (Instr.storeAt 41 out_3 t_6) w fun u_7 w =>
    lp (fun σ w again_9 => pop σ fun t_8 σ => fin σ <|
      pvv prog (binOp .lss 3 t_8 (.int .i64 64)) w fun t_10 w =>
      cd t_10 (
        pvv prog (Instr.indexAt 41 in_2 t_8) w fun t_11 w =>
        ldv prog (Instr.loadAt 5 t_11) w fun t_12 w =>
        pvv prog (binOp .xor 5 t_12 (.int .u8 54)) w fun t_13 w =>
        pvv prog (Instr.indexAt 41 in_2 t_8) w fun t_14 w =>
        efu prog (Instr.storeAt 5 t_14 t_13) w fun u_15 w =>
        pvv prog (Instr.indexAt 41 out_3 t_8) w fun t_16 w =>
        ldv prog (Instr.loadAt 5 t_16) w fun t_17 w =>
        pvv prog (binOp .xor 5 t_17 (.int .u8 92)) w fun t_18 w =>
        pvv prog (Instr.indexAt 41 out_3 t_8) w fun t_19 w =>
        efu prog (Instr.storeAt 5 t_19 t_18) w fun u_20 w =>
        pvv prog (binOp .add 3 t_8 (.int .i64 1)) w fun t_21 w =>
        again_9 [t_21] w) <|
      pvv prog (Instr.sliceAt 41 in_2 none none none) w fun t_22 w =>
      ef prog (oBi .append #[25, 25] 25 #[false, false] #[t_22, b_p1]) w fun t_23 w =>
      Calls prog 15 #[t_23] w (Ret fun t_24 w =>
      efv prog (Instr.alloc 23 true (.tuple #[])) w fun h_25 w =>
      efu prog (Instr.storeAt 23 h_25 t_24) w fun u_26 w =>
      dr w fun w =>
      pvv prog (Instr.sliceAt 41 out_3 none none none) w fun t_27 w =>
      pvv prog (Instr.sliceAt 23 h_25 none none none) w fun t_28 w =>
      ef prog (oBi .append #[25, 25] 25 #[false, false] #[t_27, t_28]) w fun t_29 w =>
      Calls prog 15 #[t_29] w (Ret fun t_30 w =>
      efu prog (Instr.storeAt 23 t_0 t_30) w fun u_31 w =>
      ∃ r_32, (do loadVar 23 (← asAddr t_0)).run prog w = .ok r_32 w ∧ K r_32 w))) [(.int .i64 0)] w) fun k_36 =>
  pv prog (oBi .len #[25] 3 #[false] #[key_p0]) w fun t_37 w =>
  pvv prog (binOp .gtr 3 t_37 (.int .i64 64)) w fun t_38 w =>
  cd t_38 (
    Calls prog 15 #[key_p0] w (Ret fun t_39 w =>
    efv prog (Instr.alloc 23 true (.tuple #[])) w fun h_40 w =>
    efu prog (Instr.storeAt 23 h_40 t_39) w fun u_41 w =>
    pvv prog (Instr.sliceAt 23 h_40 none none none) w fun t_42 w =>
    k_36 [t_42] w)) <|
  k_36 [key_p0] w
theorem B10_eq (key_p0 b_p1 : Value) (w : World) (K : Value → World → Prop) : denFn prog Tryd.f10 T10 [key_p0, b_p1] w K = B10 key_p0 b_p1 w K := by kernel_rfl
theorem c10 {key_p0 b_p1 : Value} {w : World} {K : Value → World → Prop} (h : B10 key_p0 b_p1 w K) : Calls prog 10 #[key_p0, b_p1] w (Ret K) :=
  denFn_calls Tryd.func10 T10_ok (Eq.mpr (B10_eq key_p0 b_p1 w K) h)

-- 9 holdfast/codec.Key
def T9 : Ann := (.seq .none (.seq (.seq .none (.seq (.seq .none .none) .none)) (.seq .none (.seq (.seq .none (.block (.loop 4294836316 [4, 17] (.seq .none (.seq (.seq .none .none) (.seq (.block (.seq .none (.seq (.seq .none (.seq (.seq .none .none) .none)) (.seq .none .none)))) .none)))))) (.seq (.seq .none (.seq (.seq .none .none) .none)) (.seq .none .none))))))
theorem T9_ok : chkFn prog Tryd.f9 T9 = true := by kernel_rfl
def B9 (parts_p0 : Value) (w : World) (K : Value → World → Prop) : Prop :=
  pv prog (oBi .len #[24] 3 #[false] #[parts_p0]) w fun t_0 w =>
  pvv prog (binOp .lss 3 t_0 (.int .i64 1)) w fun t_1 w =>
  gate (some (t_1, false)) (fun K => K parts_p0 w) w fun t_2 w =>
  gate (some (t_1, false)) (fun K => pv prog (oBi .len #[24] 3 #[false] #[t_2]) w K) w fun t_3 w =>
  gate (some (t_1, false)) (fun K => pvv prog (binOp .gtr 3 t_3 (.int .i64 8)) w K) w fun t_4 w =>
  pv prog (oPick t_1 (.bool true) t_4) w fun t_5 w =>
  cd t_5 (
    K (.tuple #[(.slice none 0 0), (.int .i64 2)]) w) <|
  pv prog (oBi .len #[24] 3 #[false] #[parts_p0]) w fun t_6 w =>
  lp (fun σ w again_9 => pop σ fun out_7 σ => pop σ fun t_8 σ => fin σ <|
    pvv prog (binOp .lss 3 t_8 t_6) w fun t_10 w =>
    cd t_10 (
      pvv prog (Instr.indexAt 24 parts_p0 t_8) w fun t_11 w =>
      ldv prog (Instr.loadAt 9 t_11) w fun t_12 w =>
      pv prog (oBi .len #[9] 3 #[false] #[t_12]) w fun t_13 w =>
      pvv prog (binOp .gtr 3 t_13 (.int .i64 64)) w fun t_14 w =>
      cd t_14 (
        K (.tuple #[(.slice none 0 0), (.int .i64 6)]) w) <|
      Calls prog 17 #[t_12, (.string ⟨#[0]⟩), (.string ⟨#[0, 255]⟩)] w (Ret fun t_15 w =>
      ef prog (oBi .append #[25, 9] 25 #[false, false] #[out_7, t_15]) w fun t_16 w =>
      efv prog (Instr.buildSlice 25 2 #[(0, (.int .u8 0)), (1, (.int .u8 1))]) w fun t_17 w =>
      ef prog (oBi .append #[25, 25] 25 #[false, false] #[t_16, t_17]) w fun t_18 w =>
      pvv prog (binOp .add 3 t_8 (.int .i64 1)) w fun t_19 w =>
      again_9 [t_18, t_19] w)) <|
    pv prog (oBi .len #[25] 3 #[false] #[out_7]) w fun t_20 w =>
    pvv prog (binOp .gtr 3 t_20 (.int .i64 64)) w fun t_21 w =>
    cd t_21 (
      K (.tuple #[(.slice none 0 0), (.int .i64 6)]) w) <|
    K (.tuple #[out_7, (.int .i64 0)]) w) [(.slice none 0 0), (.int .i64 0)] w
theorem B9_eq (parts_p0 : Value) (w : World) (K : Value → World → Prop) : denFn prog Tryd.f9 T9 [parts_p0] w K = B9 parts_p0 w K := by kernel_rfl
theorem c9 {parts_p0 : Value} {w : World} {K : Value → World → Prop} (h : B9 parts_p0 w K) : Calls prog 9 #[parts_p0] w (Ret K) :=
  denFn_calls Tryd.func9 T9_ok (Eq.mpr (B9_eq parts_p0 w K) h)

-- 20 holdfast/hash.rounds
def T20 : Ann := (.seq .none (.seq .none .none))
theorem T20_ok : chkFn prog Tryd.f20 T20 = true := by kernel_rfl
def B20 (w : World) (K : Value → World → Prop) : Prop :=
  pvv prog (Instr.build 63 #[(0, (.int .u32 1116352408)), (1, (.int .u32 1899447441)), (2, (.int .u32 3049323471)), (3, (.int .u32 3921009573)), (4, (.int .u32 961987163)), (5, (.int .u32 1508970993)), (6, (.int .u32 2453635748)), (7, (.int .u32 2870763221)), (8, (.int .u32 3624381080)), (9, (.int .u32 310598401)), (10, (.int .u32 607225278)), (11, (.int .u32 1426881987)), (12, (.int .u32 1925078388)), (13, (.int .u32 2162078206)), (14, (.int .u32 2614888103)), (15, (.int .u32 3248222580)), (16, (.int .u32 3835390401)), (17, (.int .u32 4022224774)), (18, (.int .u32 264347078)), (19, (.int .u32 604807628)), (20, (.int .u32 770255983)), (21, (.int .u32 1249150122)), (22, (.int .u32 1555081692)), (23, (.int .u32 1996064986)), (24, (.int .u32 2554220882)), (25, (.int .u32 2821834349)), (26, (.int .u32 2952996808)), (27, (.int .u32 3210313671)), (28, (.int .u32 3336571891)), (29, (.int .u32 3584528711)), (30, (.int .u32 113926993)), (31, (.int .u32 338241895)), (32, (.int .u32 666307205)), (33, (.int .u32 773529912)), (34, (.int .u32 1294757372)), (35, (.int .u32 1396182291)), (36, (.int .u32 1695183700)), (37, (.int .u32 1986661051)), (38, (.int .u32 2177026350)), (39, (.int .u32 2456956037)), (40, (.int .u32 2730485921)), (41, (.int .u32 2820302411)), (42, (.int .u32 3259730800)), (43, (.int .u32 3345764771)), (44, (.int .u32 3516065817)), (45, (.int .u32 3600352804)), (46, (.int .u32 4094571909)), (47, (.int .u32 275423344)), (48, (.int .u32 430227734)), (49, (.int .u32 506948616)), (50, (.int .u32 659060556)), (51, (.int .u32 883997877)), (52, (.int .u32 958139571)), (53, (.int .u32 1322822218)), (54, (.int .u32 1537002063)), (55, (.int .u32 1747873779)), (56, (.int .u32 1955562222)), (57, (.int .u32 2024104815)), (58, (.int .u32 2227730452)), (59, (.int .u32 2361852424)), (60, (.int .u32 2428436474)), (61, (.int .u32 2756734187)), (62, (.int .u32 3204031479)), (63, (.int .u32 3329325298))]) w fun t_0 w =>
  efv prog (Instr.box 63 t_0) w fun t_1 w =>
  K t_1 w
theorem B20_eq (w : World) (K : Value → World → Prop) : denFn prog Tryd.f20 T20 [] w K = B20  w K := by kernel_rfl
theorem c20 {w : World} {K : Value → World → Prop} (h : B20  w K) : Calls prog 20 #[] w (Ret K) :=
  denFn_calls Tryd.func20 T20_ok (Eq.mpr (B20_eq  w K) h)

-- 45 internal/bytealg.hashStr[string]
def T45 : Ann := (.seq .none (.seq .none (.seq (.seq .none (.block (.loop 4193840 [4, 5] (.seq (.seq .none (.seq .none .none)) (.seq (.block .none) .none))))) (.seq .none (.seq (.seq .none (.block (.loop 137422176704 [6, 7, 8] (.seq (.seq .none (.seq .none .none)) (.seq (.block (.meet 16911433792 [6] (.seq .none (.seq .none .none)) .none)) .none))))) (.seq .none .none))))))
theorem T45_ok : chkFn prog Tryd.f45 T45 = true := by kernel_rfl
def B45 (sep_p0 : Value) (w : World) (K : Value → World → Prop) : Prop :=
  lp (fun σ w again_2 => pop σ fun hash_0 σ => pop σ fun i_1 σ => fin σ <|
    pv prog (oBi .len #[9] 3 #[false] #[sep_p0]) w fun t_3 w =>
    pvv prog (binOp .lss 3 i_1 t_3) w fun t_4 w =>
    cd t_4 (
      pvv prog (binOp .mul 50 hash_0 (.int .u32 16777619)) w fun t_5 w =>
      pvv prog (Instr.index 9 sep_p0 i_1) w fun t_6 w =>
      pvv prog (convert 5 50 t_6) w fun t_7 w =>
      pvv prog (binOp .add 50 t_5 t_7) w fun t_8 w =>
      pvv prog (binOp .add 3 i_1 (.int .i64 1)) w fun t_9 w =>
      again_2 [t_8, t_9] w) <|
    pv prog (oBi .len #[9] 3 #[false] #[sep_p0]) w fun t_10 w =>
    lp (fun σ w again_14 => pop σ fun pow_11 σ => pop σ fun sq_12 σ => pop σ fun i_13 σ => fin σ <|
      pvv prog (binOp .gtr 3 i_13 (.int .i64 0)) w fun t_15 w =>
      cd t_15 (
        jn (fun σ w => pop σ fun pow_16 σ => fin σ <|
          pvv prog (binOp .mul 50 sq_12 sq_12) w fun t_17 w =>
          pvv prog (binOp .shr 3 i_13 (.int .u64 1)) w fun t_18 w =>
          again_14 [pow_16, t_17, t_18] w) fun k_19 =>
        pvv prog (binOp .and 3 i_13 (.int .i64 1)) w fun t_20 w =>
        pvv prog (oEq .neq 3 (.tmp 29) (.const (.int .i64 0)) t_20 (.int .i64 0)) w fun t_21 w =>
        cd t_21 (
          pvv prog (binOp .mul 50 pow_11 sq_12) w fun t_22 w =>
          k_19 [t_22] w) <|
        k_19 [pow_11] w) <|
      K (.tuple #[hash_0, pow_11]) w) [(.int .u32 1), (.int .u32 16777619), t_10] w) [(.int .u32 0), (.int .i64 0)] w
theorem B45_eq (sep_p0 : Value) (w : World) (K : Value → World → Prop) : denFn prog Tryd.f45 T45 [sep_p0] w K = B45 sep_p0 w K := by kernel_rfl
theorem c45 {sep_p0 : Value} {w : World} {K : Value → World → Prop} (h : B45 sep_p0 w K) : Calls prog 45 #[sep_p0] w (Ret K) :=
  denFn_calls Tryd.func45 T45_ok (Eq.mpr (B45_eq sep_p0 w K) h)

-- 28 strings.Count
def T28 : Ann := (.seq .none (.seq (.seq .none (.seq (.seq .none .none) .none)) (.seq (.seq .none (.seq (.seq .none .none) .none)) (.seq .none (.block (.loop 17178820721 [0, 5] (.block (.seq .none (.seq (.seq .none (.seq (.seq .none .none) .none)) (.seq .none .none))))))))))
theorem T28_ok : chkFn prog Tryd.f28 T28 = true := by kernel_rfl
def B28 (s_p0 substr_p1 : Value) (w : World) (K : Value → World → Prop) : Prop :=
  pv prog (oBi .len #[9] 3 #[false] #[substr_p1]) w fun t_0 w =>
  pvv prog (oEq .eql 3 (.tmp 8) (.const (.int .i64 0)) t_0 (.int .i64 0)) w fun t_1 w =>
  cd t_1 (
    Calls prog 34 #[s_p0] w (Ret fun t_2 w =>
    pvv prog (binOp .add 3 t_2 (.int .i64 1)) w fun t_3 w =>
    K t_3 w)) <|
  pv prog (oBi .len #[9] 3 #[false] #[substr_p1]) w fun t_4 w =>
  pvv prog (oEq .eql 3 (.tmp 14) (.const (.int .i64 1)) t_4 (.int .i64 1)) w fun t_5 w =>
  cd t_5 (
    pvv prog (Instr.index 9 substr_p1 (.int .i64 0)) w fun t_6 w =>
    ef prog (oCall (.func (.func 35) #[] #[]) #[s_p0, t_6]) w fun t_7 w =>
    K t_7 w) <|
  lp (fun σ w again_10 => pop σ fun s_8 σ => pop σ fun n_9 σ => fin σ <|
    Calls prog 30 #[s_8, substr_p1] w (Ret fun t_11 w =>
    pvv prog (oEq .eql 3 (.tmp 23) (.const (.int .i64 (-1))) t_11 (.int .i64 (-1))) w fun t_12 w =>
    cd t_12 (
      K n_9 w) <|
    pvv prog (binOp .add 3 n_9 (.int .i64 1)) w fun t_13 w =>
    pv prog (oBi .len #[9] 3 #[false] #[substr_p1]) w fun t_14 w =>
    pvv prog (binOp .add 3 t_11 t_14) w fun t_15 w =>
    pvv prog (Instr.sliceAt 9 s_8 (some t_15) none none) w fun t_16 w =>
    again_10 [t_16, t_13] w)) [s_p0, (.int .i64 0)] w
theorem B28_eq (s_p0 substr_p1 : Value) (w : World) (K : Value → World → Prop) : denFn prog Tryd.f28 T28 [s_p0, substr_p1] w K = B28 s_p0 substr_p1 w K := by kernel_rfl
theorem c28 {s_p0 substr_p1 : Value} {w : World} {K : Value → World → Prop} (h : B28 s_p0 substr_p1 w K) : Calls prog 28 #[s_p0, substr_p1] w (Ret K) :=
  denFn_calls Tryd.func28 T28_ok (Eq.mpr (B28_eq s_p0 substr_p1 w K) h)

-- 36 (*strings.Builder).grow
def T36 : Ann := (.seq (.draw [(0, .pure), (1, .pure), (2, .pure), (6, .pure), (9, .pure), (10, .pure), (11, .pure), (3, .load), (4, .pure), (5, .pure), (7, .pure), (12, .load), (13, .pure), (8, .eff), (14, .pure), (15, .pure)]) (.seq .none .none))
theorem T36_ok : chkFn prog Tryd.f36 T36 = true := by kernel_rfl
def B36 (b_p0 n_p1 : Value) (w : World) (K : Value → World → Prop) : Prop :=
  dr w fun w =>
  pv prog (oNil b_p0) w fun t_0 w =>
  pvv prog (Instr.fieldAt 44 t_0 1) w fun t_1 w =>
  pv prog (oNil b_p0) w fun t_2 w =>
  pvv prog (Instr.fieldAt 44 t_2 1) w fun t_3 w =>
  bindS (vN (Instr.loadAt 25 t_1)) fun m_5 => ldv prog (Instr.loadAt 25 t_1) w fun t_4 w =>
  pv prog (oBi .cap #[25] 3 #[false] #[t_4]) w fun t_6 w =>
  pvv prog (binOp .mul 3 (.int .i64 2) t_6) w fun t_7 w =>
  pvv prog (binOp .add 3 t_7 n_p1) w fun t_8 w =>
  bindS (vN (Instr.loadAt 25 t_3)) fun m_10 => ldv prog (Instr.loadAt 25 t_3) w fun t_9 w =>
  pv prog (oBi .len #[25] 3 #[false] #[t_9]) w fun t_11 w =>
  ef prog (oCall (.func (.func 39) #[] #[]) #[t_8]) w fun t_12 w => stay prog none m_10 t_9 w <| stay prog none m_5 t_4 w <| 
  pvv prog (Instr.sliceAt 25 t_12 none (some t_11) none) w fun t_13 w =>
  pv prog (oNil b_p0) w fun t_14 w =>
  pvv prog (Instr.fieldAt 44 t_14 1) w fun t_15 w =>
  ldv prog (Instr.loadAt 25 t_15) w fun t_16 w =>
  ef prog (oBi .copy #[25, 25] 3 #[false, false] #[t_13, t_16]) w fun t_17 w =>
  pv prog (oNil b_p0) w fun t_18 w =>
  pvv prog (Instr.fieldAt 44 t_18 1) w fun t_19 w =>
  efu prog (Instr.storeAt 25 t_19 t_13) w fun u_20 w =>
  K (.tuple #[]) w
theorem B36_eq (b_p0 n_p1 : Value) (w : World) (K : Value → World → Prop) : denFn prog Tryd.f36 T36 [b_p0, n_p1] w K = B36 b_p0 n_p1 w K := by kernel_rfl
theorem c36 {b_p0 n_p1 : Value} {w : World} {K : Value → World → Prop} (h : B36 b_p0 n_p1 w K) : Calls prog 36 #[b_p0, n_p1] w (Ret K) :=
  denFn_calls Tryd.func36 T36_ok (Eq.mpr (B36_eq b_p0 n_p1 w K) h)

-- 26 (*strings.Builder).copyCheck
def T26 : Ann := (.seq .none (.seq .none (.seq .none (.seq .none .none))))
theorem T26_ok : chkFn prog Tryd.f26 T26 = true := by kernel_rfl
def B26 (b_p0 : Value) (w : World) (K : Value → World → Prop) : Prop :=
  pv prog (oNil b_p0) w fun t_0 w =>
  pvv prog (Instr.fieldAt 44 t_0 0) w fun t_1 w =>
  ldv prog (Instr.loadAt 42 t_1) w fun t_2 w =>
  pvv prog (oEq .eql 42 (.tmp 5) (.const (.pointer none)) t_2 (.pointer none)) w fun t_3 w =>
  cd t_3 (
    efv prog (convert 42 70 b_p0) w fun t_4 w =>
    ef prog (oCall (.func (.func 33) #[] #[]) #[t_4]) w fun t_5 w =>
    efv prog (convert 70 42 t_5) w fun t_6 w =>
    pv prog (oNil b_p0) w fun t_7 w =>
    pvv prog (Instr.fieldAt 44 t_7 0) w fun t_8 w =>
    efu prog (Instr.storeAt 42 t_8 t_6) w fun u_9 w =>
    K (.tuple #[]) w) <|
  pv prog (oNil b_p0) w fun t_10 w =>
  pvv prog (Instr.fieldAt 44 t_10 0) w fun t_11 w =>
  ldv prog (Instr.loadAt 42 t_11) w fun t_12 w =>
  pvv prog (oEq .neq 42 (.tmp 17) (.tmp 18) t_12 b_p0) w fun t_13 w =>
  cd t_13 (
    False) <|
  K (.tuple #[]) w
theorem B26_eq (b_p0 : Value) (w : World) (K : Value → World → Prop) : denFn prog Tryd.f26 T26 [b_p0] w K = B26 b_p0 w K := by kernel_rfl
theorem c26 {b_p0 : Value} {w : World} {K : Value → World → Prop} (h : B26 b_p0 w K) : Calls prog 26 #[b_p0] w (Ret K) :=
  denFn_calls Tryd.func26 T26_ok (Eq.mpr (B26_eq b_p0 w K) h)

-- 13 holdfast/holdfastref07.bytesOf
def T13 : Ann := (.seq .none (.seq .none (.seq (.seq .none (.block (.loop 32760 [3, 4] (.seq (.seq .none (.seq .none .none)) (.seq (.block .none) .none))))) (.seq .none .none))))
theorem T13_ok : chkFn prog Tryd.f13 T13 = true := by kernel_rfl
def B13 (h_p0 : Value) (w : World) (K : Value → World → Prop) : Prop :=
  efv prog (Instr.box 23 h_p0) w fun h_0 w =>
  lp (fun σ w again_3 => pop σ fun out_1 σ => pop σ fun i_2 σ => fin σ <|
    pvv prog (binOp .lss 3 i_2 (.int .i64 32)) w fun t_4 w =>
    cd t_4 (
      pvv prog (Instr.indexAt 23 h_0 i_2) w fun t_5 w =>
      ldv prog (Instr.loadAt 5 t_5) w fun t_6 w =>
      efv prog (Instr.buildSlice 25 1 #[(0, t_6)]) w fun t_7 w =>
      ef prog (oBi .append #[25, 25] 25 #[false, false] #[out_1, t_7]) w fun t_8 w =>
      pvv prog (binOp .add 3 i_2 (.int .i64 1)) w fun t_9 w =>
      again_3 [t_8, t_9] w) <|
    K out_1 w) [(.slice none 0 0), (.int .i64 0)] w
theorem B13_eq (h_p0 : Value) (w : World) (K : Value → World → Prop) : denFn prog Tryd.f13 T13 [h_p0] w K = B13 h_p0 w K := by kernel_rfl
theorem c13 {h_p0 : Value} {w : World} {K : Value → World → Prop} (h : B13 h_p0 w K) : Calls prog 13 #[h_p0] w (Ret K) :=
  denFn_calls Tryd.func13 T13_ok (Eq.mpr (B13_eq h_p0 w K) h)

-- 67 gosem.cut.vars
def T67 : Ann := .none
theorem T67_ok : chkFn prog Tryd.f67 T67 = true := by kernel_rfl
def B67 (w : World) (K : Value → World → Prop) : Prop :=
  pvv prog (Instr.build 78 #[(0, (.int .u8 128)), (1, (.int .u8 191))]) w fun t_0 w =>
  pvv prog (Instr.build 78 #[(0, (.int .u8 160)), (1, (.int .u8 191))]) w fun t_1 w =>
  pvv prog (Instr.build 78 #[(0, (.int .u8 128)), (1, (.int .u8 159))]) w fun t_2 w =>
  pvv prog (Instr.build 78 #[(0, (.int .u8 144)), (1, (.int .u8 191))]) w fun t_3 w =>
  pvv prog (Instr.build 78 #[(0, (.int .u8 128)), (1, (.int .u8 143))]) w fun t_4 w =>
  pvv prog (Instr.build 79 #[(0, t_0), (1, t_1), (2, t_2), (3, t_3), (4, t_4)]) w fun t_5 w =>
  efu prog (Instr.storeAt 79 (.pointer (some ⟨2, 0, none⟩)) t_5) w fun u_6 w =>
  K (.tuple #[]) w
theorem B67_eq (w : World) (K : Value → World → Prop) : denFn prog Tryd.f67 T67 [] w K = B67  w K := by kernel_rfl
theorem c67 {w : World} {K : Value → World → Prop} (h : B67  w K) : Calls prog 67 #[] w (Ret K) :=
  denFn_calls Tryd.func67 T67_ok (Eq.mpr (B67_eq  w K) h)

-- 34 unicode/utf8.RuneCountInString
def T34 : Ann := (.seq .none (.seq (.seq .none (.block (.loop 484 [2] (.seq .none (.seq (.seq .none .none) (.block .none)))))) (.seq .none .none)))
theorem T34_ok : chkFn prog Tryd.f34 T34 = true := by kernel_rfl
def B34 (s_p0 : Value) (w : World) (K : Value → World → Prop) : Prop :=
  efv prog (Instr.range 9 s_p0) w fun t_0 w =>
  lp (fun σ w again_2 => pop σ fun n_1 σ => fin σ <|
    efv prog (Instr.next t_0 true 0) w fun t_3 w =>
    pvv prog (Instr.extract t_3 0) w fun t_4 w =>
    cd t_4 (
      pvv prog (binOp .add 3 n_1 (.int .i64 1)) w fun t_5 w =>
      again_2 [t_5] w) <|
    K n_1 w) [(.int .i64 0)] w
theorem B34_eq (s_p0 : Value) (w : World) (K : Value → World → Prop) : denFn prog Tryd.f34 T34 [s_p0] w K = B34 s_p0 w K := by kernel_rfl
theorem c34 {s_p0 : Value} {w : World} {K : Value → World → Prop} (h : B34 s_p0 w K) : Calls prog 34 #[s_p0] w (Ret K) :=
  denFn_calls Tryd.func34 T34_ok (Eq.mpr (B34_eq s_p0 w K) h)

-- 22 bytes.Clone
def T22 : Ann := (.seq .none (.seq (.seq .none (.seq (.seq .none .none) .none)) (.seq .none .none)))
theorem T22_ok : chkFn prog Tryd.f22 T22 = true := by kernel_rfl
def B22 (b_p0 : Value) (w : World) (K : Value → World → Prop) : Prop :=
  pvv prog (oEq .eql 25 (.tmp 3) (.const (.slice none 0 0)) b_p0 (.slice none 0 0)) w fun t_0 w =>
  cd t_0 (
    K (.slice none 0 0) w) <|
  efv prog (Instr.buildSlice 25 0 #[]) w fun t_1 w =>
  ef prog (oBi .append #[25, 25] 25 #[false, false] #[t_1, b_p0]) w fun t_2 w =>
  K t_2 w
theorem B22_eq (b_p0 : Value) (w : World) (K : Value → World → Prop) : denFn prog Tryd.f22 T22 [b_p0] w K = B22 b_p0 w K := by kernel_rfl
theorem c22 {b_p0 : Value} {w : World} {K : Value → World → Prop} (h : B22 b_p0 w K) : Calls prog 22 #[b_p0] w (Ret K) :=
  denFn_calls Tryd.func22 T22_ok (Eq.mpr (B22_eq b_p0 w K) h)

-- 30 strings.Index
def T30 : Ann := (.seq .none (.seq .none .none))
theorem T30_ok : chkFn prog Tryd.f30 T30 = true := by kernel_rfl
def B30 (s_p0 substr_p1 : Value) (w : World) (K : Value → World → Prop) : Prop :=
  Calls prog 37 #[s_p0, substr_p1] w (Ret fun t_0 w =>
  K t_0 w)
theorem B30_eq (s_p0 substr_p1 : Value) (w : World) (K : Value → World → Prop) : denFn prog Tryd.f30 T30 [s_p0, substr_p1] w K = B30 s_p0 substr_p1 w K := by kernel_rfl
theorem c30 {s_p0 substr_p1 : Value} {w : World} {K : Value → World → Prop} (h : B30 s_p0 substr_p1 w K) : Calls prog 30 #[s_p0, substr_p1] w (Ret K) :=
  denFn_calls Tryd.func30 T30_ok (Eq.mpr (B30_eq s_p0 substr_p1 w K) h)

-- 42 internal/bytealg.Cutover
def T42 : Ann := (.seq .none (.seq .none .none))
theorem T42_ok : chkFn prog Tryd.f42 T42 = true := by kernel_rfl
def B42 (n_p0 : Value) (w : World) (K : Value → World → Prop) : Prop :=
  pvv prog (binOp .add 3 n_p0 (.int .i64 16)) w fun t_0 w =>
  pvv prog (binOp .quo 3 t_0 (.int .i64 8)) w fun t_1 w =>
  K t_1 w
theorem B42_eq (n_p0 : Value) (w : World) (K : Value → World → Prop) : denFn prog Tryd.f42 T42 [n_p0] w K = B42 n_p0 w K := by kernel_rfl
theorem c42 {n_p0 : Value} {w : World} {K : Value → World → Prop} (h : B42 n_p0 w K) : Calls prog 42 #[n_p0] w (Ret K) :=
  denFn_calls Tryd.func42 T42_ok (Eq.mpr (B42_eq n_p0 w K) h)


end Go.Proofs.YtjmgkfpjaelilaaDoor
