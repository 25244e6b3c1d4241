import Derived.Test.YtfmoikocokekhaaDoorPI
set_option linter.all false
set_option maxRecDepth 100000
namespace Go.Proofs.YtfmoikocokekhaaDoor
open Go Hold
-- 3 holdfast/holdfasttop.TopKeyed
def T3 : Ann := (.seq .none (.seq .none (.seq .none (.seq (.seq .none (.seq (.seq .none .none) .none)) (.seq .none (.seq (.seq .none (.seq (.seq .none .none) .none)) (.seq (.seq .none (.seq (.seq .none .none) .none)) (.seq .none (.seq .none (.seq .none (.seq .none (.seq .none (.seq (.draw [.op 0 .pure, .op 1 .pure, .op 2 .pure, .op 3 .pure, .op 4 .pure, .op 5 .pure, .op 6 .pure, .op 7 .pure, .op 8 .pure, .op 9 .load, .op 10 .eff, .op 11 .pure, .op 12 .pure, .op 13 .pure, .op 14 .pure, .op 15 .pure, .op 16 .pure, .op 17 .pure, .op 18 .pure, .op 19 .pure, .op 20 .pure, .op 21 .eff, .op 22 .pure, .op 23 .pure, .op 24 .pure]) .none)))))))))))))
theorem T3_ok : chkFn prog Tryd.f3 T3 = true := by kernel_rfl
def B3 (root_p0 x_p1 : Value) (w : World) (K : Value → World → Prop) : Prop :=
  efv prog (Instr.box 23 root_p0) w fun root_0 w =>
  efv prog (Instr.box 27 x_p1) w fun x_1 w =>
  ldv prog (Instr.loadAt 23 root_0) w fun t_2 w =>
  pvv prog (Instr.fieldAt 27 x_1 0) w fun t_3 w =>
  ldv prog (Instr.loadAt 24 t_3) w fun t_4 w =>
  Calls prog 4 #[t_2, t_4] w (Ret fun t_5 w =>
  pvv prog (Instr.extract t_5 0) w fun t_6 w =>
  pvv prog (Instr.extract t_5 1) w fun t_7 w =>
  efv prog (Instr.alloc 23 true (.tuple #[])) w fun k_8 w =>
  efu prog (Instr.storeAt 23 k_8 t_6) w fun u_9 w =>
  ldv prog (Instr.loadAt 23 root_0) w fun t_10 w =>
  pvv prog (Instr.fieldAt 27 x_1 1) w fun t_11 w =>
  ldv prog (Instr.loadAt 24 t_11) w fun t_12 w =>
  Calls prog 4 #[t_10, t_12] w (Ret fun t_13 w =>
  pvv prog (Instr.extract t_13 0) w fun t_14 w =>
  pvv prog (Instr.extract t_13 1) w fun t_15 w =>
  efv prog (Instr.alloc 23 true (.tuple #[])) w fun j_16 w =>
  efu prog (Instr.storeAt 23 j_16 t_14) w fun u_17 w =>
  pvv prog (oEq .neq 28 (.tmp 35) (.const (.int .i64 0)) t_7 (.int .i64 0)) w fun t_18 w =>
  gate (some (t_18, false)) (fun K => K t_15 w) w fun t_19 w =>
  gate (some (t_18, false)) (fun K => pvv prog (oEq .neq 28 (.tmp 38) (.const (.int .i64 0)) t_19 (.int .i64 0)) w K) w fun t_20 w =>
  pv prog (oPick t_18 (.bool true) t_20) w fun t_21 w =>
  cd t_21 (
    Calls prog 6 #[(.slice none 0 0)] w (Ret fun t_22 w =>
    Calls prog 5 #[t_22] w (Ret fun t_23 w =>
    pvv prog (Instr.sliceAt 9 t_23 none (some (.int .i64 4)) none) w fun t_24 w =>
    pvv prog (oEq .eql 9 (.tmp 43) (.const (.string ⟨#[101, 51, 98, 48]⟩)) t_24 (.string ⟨#[101, 51, 98, 48]⟩)) w fun t_25 w =>
    K t_25 w))) <|
  ldv prog (Instr.loadAt 23 k_8) w fun t_26 w =>
  pvv prog (Instr.fieldAt 27 x_1 2) w fun t_27 w =>
  ldv prog (Instr.loadAt 25 t_27) w fun t_28 w =>
  Calls prog 7 #[t_26, (.int .u64 3), t_28] w (Ret fun t_29 w =>
  pvv prog (Instr.extract t_29 0) w fun t_30 w =>
  pvv prog (Instr.extract t_29 1) w fun t_31 w =>
  pvv prog (oEq .neq 28 (.tmp 52) (.const (.int .i64 0)) t_31 (.int .i64 0)) w fun t_32 w =>
  cd t_32 (
    pvv prog (Instr.fieldAt 27 x_1 2) w fun t_33 w =>
    ldv prog (Instr.loadAt 25 t_33) w fun t_34 w =>
    pv prog (oBi .len #[25] 3 #[false] #[t_34]) w fun t_35 w =>
    pvv prog (binOp .gtr 3 t_35 (.int .i64 1024)) w fun t_36 w =>
    K t_36 w) <|
  pv prog (oBi .len #[25] 3 #[false] #[t_30]) w fun t_37 w =>
  pvv prog (binOp .lss 3 t_37 (.int .i64 24)) w fun t_38 w =>
  cd t_38 (
    K (.bool false) w) <|
  ldv prog (Instr.loadAt 23 root_0) w fun t_39 w =>
  pvv prog (Instr.fieldAt 27 x_1 0) w fun t_40 w =>
  ldv prog (Instr.loadAt 24 t_40) w fun t_41 w =>
  Calls prog 4 #[t_39, t_41] w (Ret fun t_42 w =>
  pvv prog (Instr.extract t_42 0) w fun t_43 w =>
  pvv prog (Instr.extract t_42 1) w fun t_44 w =>
  efv prog (Instr.alloc 23 true (.tuple #[])) w fun again_45 w =>
  efu prog (Instr.storeAt 23 again_45 t_43) w fun u_46 w =>
  ldv prog (Instr.loadAt 23 again_45) w fun t_47 w =>
  Calls prog 8 #[t_47, t_30] w (Ret fun t_48 w =>
  pvv prog (Instr.extract t_48 0) w fun t_49 w =>
  pvv prog (Instr.extract t_48 1) w fun t_50 w =>
  pvv prog (Instr.extract t_48 2) w fun t_51 w =>
  ldv prog (Instr.loadAt 23 j_16) w fun t_52 w =>
  Calls prog 8 #[t_52, t_30] w (Ret fun t_53 w =>
  pvv prog (Instr.extract t_53 0) w fun t_54 w =>
  pvv prog (Instr.extract t_53 1) w fun t_55 w =>
  pvv prog (Instr.extract t_53 2) w fun t_56 w =>
  efv prog (Instr.buildSlice 25 1 #[(0, (.int .u8 116))]) w fun t_57 w =>
  pv prog (oBi .len #[25] 3 #[false] #[t_30]) w fun t_58 w =>
  pvv prog (binOp .sub 3 t_58 (.int .i64 16)) w fun t_59 w =>
  pvv prog (Instr.sliceAt 25 t_30 none (some t_59) none) w fun t_60 w =>
  ef prog (oBi .append #[25, 25] 25 #[false, false] #[t_57, t_60]) w fun t_61 w =>
  pvv prog (Instr.sliceAt 23 j_16 none none none) w fun t_62 w =>
  Calls prog 9 #[t_62, t_61] w (Ret fun t_63 w =>
  efv prog (Instr.alloc 23 true (.tuple #[])) w fun tag_64 w =>
  efu prog (Instr.storeAt 23 tag_64 t_63) w fun u_65 w =>
  dr w fun w =>
  pvv prog (oEq .eql 28 (.tmp 92) (.const (.int .i64 0)) t_51 (.int .i64 0)) w fun t_66 w =>
  gate (some (t_66, true)) (fun K => K t_50 w) w fun t_67 w =>
  gate (some (t_66, true)) (fun K => pvv prog (oEq .eql 35 (.tmp 95) (.const (.int .u64 3)) t_67 (.int .u64 3)) w K) w fun t_68 w =>
  pv prog (oPick t_66 t_68 (.bool false)) w fun t_69 w =>
  gate (some (t_69, true)) (fun K => K t_49 w) w fun t_70 w =>
  gate (some (t_69, true)) (fun K => pvv prog (Instr.fieldAt 27 x_1 2) w K) w fun t_71 w =>
  bindS (vN (Instr.loadAt 25 t_71)) fun m_73 => gate (some (t_69, true)) (fun K => ldv prog (Instr.loadAt 25 t_71) w K) w fun t_72 w =>
  gate (some (t_69, true)) (fun K => Calls prog 10 #[t_70, t_72] w (Ret fun s_88 w => K s_88 w)) w fun t_74 w =>
  pv prog (oPick t_69 t_74 (.bool false)) w fun t_75 w =>
  gate (some (t_75, true)) (fun K => K t_56 w) w fun t_76 w =>
  gate (some (t_75, true)) (fun K => pvv prog (oEq .eql 28 (.tmp 105) (.const (.int .i64 0)) t_76 (.int .i64 0)) w K) w fun t_77 w =>
  gate (some (t_75, true)) (fun K => pvv prog (Instr.sliceAt 23 tag_64 none (some (.int .i64 16)) none) w K) w fun t_78 w =>
  gate (some (t_75, true)) (fun K => K t_30 w) w fun t_79 w =>
  gate (some (t_75, true)) (fun K => K t_30 w) w fun t_80 w =>
  gate (some (t_75, true)) (fun K => pv prog (oBi .len #[25] 3 #[false] #[t_80]) w K) w fun t_81 w =>
  gate (some (t_75, true)) (fun K => pvv prog (binOp .sub 3 t_81 (.int .i64 16)) w K) w fun t_82 w =>
  gate (some (t_75, true)) (fun K => pvv prog (Instr.sliceAt 25 t_79 (some t_82) none none) w K) w fun t_83 w =>
  gate (some (t_75, true)) (fun K => Calls prog 10 #[t_78, t_83] w (Ret fun s_87 w => stay prog (some (t_69, true)) m_73 t_72 w <| K s_87 w)) w fun t_84 w =>
  gate (some (t_75, true)) (fun K => pvv prog (oEq .eql 4 (.tmp 106) (.tmp 113) t_77 t_84) w K) w fun t_85 w =>
  pv prog (oPick t_75 t_85 (.bool false)) w fun t_86 w =>
  K t_86 w)))))))
theorem B3_eq (root_p0 x_p1 : Value) (w : World) (K : Value → World → Prop) : denFn prog Tryd.f3 T3 [root_p0, x_p1] w K = B3 root_p0 x_p1 w K := by kernel_rfl
theorem c3 {root_p0 x_p1 : Value} {w : World} {K : Value → World → Prop} (h : B3 root_p0 x_p1 w K) : Calls prog 3 #[root_p0, x_p1] w (Ret K) :=
  denFn_calls Tryd.func3 T3_ok (Eq.mpr (B3_eq root_p0 x_p1 w K) h)

-- 25 strings.Replace
def T25 : Ann := (.seq .none (.seq (.seq .none (.seq (.seq .none .none) .none)) (.meet 274861130504 [3] (.seq .none (.seq .none (.seq (.seq .none .none) (.seq .none (.seq .none .none))))) (.seq .none (.seq .none (.seq .none (.meet 633825300114114137798398244864 [11] (.seq .none (.seq (.seq .none (.block (.loop 18889456924279326119936 [11, 53] (.seq .none (.seq (.seq .none .none) (.seq (.block (.seq .none (.seq .none (.seq .none .none)))) .none)))))) (.seq .none (.seq .none (.block (.loop 633824997882659797091057985536 [11, 78] (.seq .none (.seq (.seq .none .none) (.seq (.block (.seq .none (.seq .none (.seq .none (.seq .none .none))))) .none))))))))) (.seq .none (.seq .none .none)))))))))
theorem T25_ok : chkFn prog Tryd.f25 T25 = true := by kernel_rfl
def B25 (s_p0 old_p1 new_p2 n_p3 : Value) (w : World) (K : Value → World → Prop) : Prop :=
  pvv prog (oEq .eql 9 (.tmp 16) (.tmp 17) old_p1 new_p2) w fun t_0 w =>
  gate (some (t_0, false)) (fun K => K n_p3 w) w fun t_1 w =>
  gate (some (t_0, false)) (fun K => pvv prog (oEq .eql 3 (.tmp 20) (.const (.int .i64 0)) t_1 (.int .i64 0)) w K) w fun t_2 w =>
  pv prog (oPick t_0 (.bool true) t_2) w fun t_3 w =>
  cd t_3 (
    K s_p0 w) <|
  jn (fun σ w => pop σ fun n_4 σ => fin σ <|
    efv prog (Instr.alloc 44 true (.tuple #[])) w fun b_5 w =>
    pv prog (oBi .len #[9] 3 #[false] #[s_p0]) w fun t_6 w =>
    pv prog (oBi .len #[9] 3 #[false] #[new_p2]) w fun t_7 w =>
    pv prog (oBi .len #[9] 3 #[false] #[old_p1]) w fun t_8 w =>
    pvv prog (binOp .sub 3 t_7 t_8) w fun t_9 w =>
    pvv prog (binOp .mul 3 n_4 t_9) w fun t_10 w =>
    pvv prog (binOp .add 3 t_6 t_10) w fun t_11 w =>
    Calls prog 29 #[b_5, t_11] w (Ret fun t_12 w =>
    jn (fun σ w => pop σ fun start_13 σ => fin σ <|
      pvv prog (Instr.sliceAt 9 s_p0 (some start_13) none none) w fun t_14 w =>
      Calls prog 31 #[b_5, t_14] w (Ret fun t_15 w =>
      Calls prog 13 #[b_5] w (Ret fun t_16 w =>
      K t_16 w))) fun k_17 =>
    pv prog (oBi .len #[9] 3 #[false] #[old_p1]) w fun t_18 w =>
    pvv prog (binOp .gtr 3 t_18 (.int .i64 0)) w fun t_19 w =>
    cd t_19 (
      lp (fun σ w again_22 => pop σ fun start_20 σ => pop σ fun t_21 σ => fin σ <|
        pvv prog (binOp .lss 3 t_21 n_4) w fun t_23 w =>
        cd t_23 (
          pvv prog (Instr.sliceAt 9 s_p0 (some start_20) none none) w fun t_24 w =>
          Calls prog 30 #[t_24, old_p1] w (Ret fun t_25 w =>
          pvv prog (binOp .add 3 start_20 t_25) w fun t_26 w =>
          pvv prog (Instr.sliceAt 9 s_p0 (some start_20) (some t_26) none) w fun t_27 w =>
          Calls prog 31 #[b_5, t_27] w (Ret fun t_28 w =>
          Calls prog 31 #[b_5, new_p2] w (Ret fun t_29 w =>
          pv prog (oBi .len #[9] 3 #[false] #[old_p1]) w fun t_30 w =>
          pvv prog (binOp .add 3 t_26 t_30) w fun t_31 w =>
          pvv prog (binOp .add 3 t_21 (.int .i64 1)) w fun t_32 w =>
          again_22 [t_31, t_32] w)))) <|
        k_17 [start_20] w) [(.int .i64 0), (.int .i64 0)] w) <|
    Calls prog 31 #[b_5, new_p2] w (Ret fun t_33 w =>
    pvv prog (binOp .sub 3 n_4 (.int .i64 1)) w fun t_34 w =>
    lp (fun σ w again_37 => pop σ fun start_35 σ => pop σ fun t_36 σ => fin σ <|
      pvv prog (binOp .lss 3 t_36 t_34) w fun t_38 w =>
      cd t_38 (
        pvv prog (Instr.sliceAt 9 s_p0 (some start_35) none none) w fun t_39 w =>
        Calls prog 32 #[t_39] w (Ret fun t_40 w =>
        pvv prog (Instr.extract t_40 0) w fun t_41 w =>
        pvv prog (Instr.extract t_40 1) w fun t_42 w =>
        pvv prog (binOp .add 3 start_35 t_42) w fun t_43 w =>
        pvv prog (Instr.sliceAt 9 s_p0 (some start_35) (some t_43) none) w fun t_44 w =>
        Calls prog 31 #[b_5, t_44] w (Ret fun t_45 w =>
        Calls prog 31 #[b_5, new_p2] w (Ret fun t_46 w =>
        pvv prog (binOp .add 3 t_36 (.int .i64 1)) w fun t_47 w =>
        again_37 [t_43, t_47] w)))) <|
      k_17 [start_35] w) [(.int .i64 0), (.int .i64 0)] w))) fun k_48 =>
  Calls prog 28 #[s_p0, old_p1] w (Ret fun t_49 w =>
  pvv prog (oEq .eql 3 (.tmp 27) (.const (.int .i64 0)) t_49 (.int .i64 0)) w fun t_50 w =>
  cd t_50 (
    K s_p0 w) <|
  pvv prog (binOp .lss 3 n_p3 (.int .i64 0)) w fun t_51 w =>
  gate (some (t_51, false)) (fun K => K t_49 w) w fun t_52 w =>
  gate (some (t_51, false)) (fun K => K n_p3 w) w fun t_53 w =>
  gate (some (t_51, false)) (fun K => pvv prog (binOp .lss 3 t_52 t_53) w K) w fun t_54 w =>
  pv prog (oPick t_51 (.bool true) t_54) w fun t_55 w =>
  cd t_55 (
    k_48 [t_49] w) <|
  k_48 [n_p3] w)
theorem B25_eq (s_p0 old_p1 new_p2 n_p3 : Value) (w : World) (K : Value → World → Prop) : denFn prog Tryd.f25 T25 [s_p0, old_p1, new_p2, n_p3] w K = B25 s_p0 old_p1 new_p2 n_p3 w K := by kernel_rfl
theorem c25 {s_p0 old_p1 new_p2 n_p3 : Value} {w : World} {K : Value → World → Prop} (h : B25 s_p0 old_p1 new_p2 n_p3 w K) : Calls prog 25 #[s_p0, old_p1, new_p2, n_p3] w (Ret K) :=
  denFn_calls Tryd.func25 T25_ok (Eq.mpr (B25_eq s_p0 old_p1 new_p2 n_p3 w K) h)

-- 24 holdfast/seal.Stream
def T24 : Ann := (.seq .none (.seq (.seq .none (.seq (.seq .none .none) .none)) (.seq .none (.seq (.seq .none (.block (.range .none (.block (.seq (.seq .none (.seq .none .none)) (.draw [.op 1 .pure, .op 0 .load, .op 2 .eff, .op 3 .eff])))))) (.seq .none .none)))))
theorem T24_ok : chkFn prog Tryd.f24 T24 = true := by kernel_rfl
def B24 (key_p0 once_p1 n_p2 : Value) (w : World) (K : Value → World → Prop) : Prop :=
  efv prog (Instr.box 23 key_p0) w fun key_0 w =>
  efv prog (Instr.box 3 n_p2) w fun n_1 w =>
  ldv prog (Instr.loadAt 3 n_1) w fun t_2 w =>
  pvv prog (binOp .lss 3 t_2 (.int .i64 0)) w fun t_3 w =>
  gate (some (t_3, false)) (fun K => ldv prog (Instr.loadAt 3 n_1) w K) w fun t_4 w =>
  gate (some (t_3, false)) (fun K => pvv prog (binOp .gtr 3 t_4 (.int .i64 1024)) w K) w fun t_5 w =>
  pv prog (oPick t_3 (.bool true) t_5) w fun t_6 w =>
  cd t_6 (
    K (.tuple #[(.slice none 0 0), (.int .i64 2)]) w) <|
  efv prog (Instr.alloc 25 true (.tuple #[])) w fun out_7 w =>
  ldv prog (Instr.loadAt 23 key_0) w fun t_8 w =>
  Calls prog 27 #[t_8, once_p1] w (Ret fun t_9 w =>
  rng prog 1 t_9 (fun σ w bg_11 ex_12 => pop σ fun t_10 σ => fin σ <|
    efv prog (Instr.alloc 23 true (.tuple #[])) w fun b_13 w =>
    efu prog (Instr.storeAt 23 b_13 t_10) w fun u_14 w =>
    bg_11 w fun w =>
    ldv prog (Instr.loadAt 25 out_7) w fun t_15 w =>
    pv prog (oBi .len #[25] 3 #[false] #[t_15]) w fun t_16 w =>
    ldv prog (Instr.loadAt 3 n_1) w fun t_17 w =>
    pvv prog (binOp .geq 3 t_16 t_17) w fun t_18 w =>
    cd t_18 (
      ex_12 (.exit 0) w) <|
    dr w fun w =>
    pvv prog (Instr.sliceAt 23 b_13 none none none) w fun t_19 w =>
    bindS (vN (Instr.loadAt 25 out_7)) fun m_21 => ldv prog (Instr.loadAt 25 out_7) w fun t_20 w =>
    ef prog (oBi .append #[25, 25] 25 #[false, false] #[t_20, t_19]) w fun t_22 w =>
    efu prog (Instr.storeAt 25 out_7 t_22) w fun u_23 w =>
    ex_12 .normal w) w fun p_27 D_26 w =>
  jump (
    ldv prog (Instr.loadAt 25 out_7) w fun t_28 w =>
    ldv prog (Instr.loadAt 3 n_1) w fun t_29 w =>
    pvv prog (Instr.sliceAt 25 t_28 none (some t_29) none) w fun t_30 w =>
    und [D_26] w fun w => K (.tuple #[t_30, (.int .i64 0)]) w) (
    und [D_26] w fun w => K (.tuple #[(.slice none 0 0), (.int .i64 0)]) w) [(0, ldv prog (Instr.loadAt 25 out_7) w fun t_31 w =>
    ldv prog (Instr.loadAt 3 n_1) w fun t_32 w =>
    pvv prog (Instr.sliceAt 25 t_31 none (some t_32) none) w fun t_33 w =>
    und [D_26] w fun w => K (.tuple #[t_33, (.int .i64 0)]) w)] p_27)
theorem B24_eq (key_p0 once_p1 n_p2 : Value) (w : World) (K : Value → World → Prop) : denFn prog Tryd.f24 T24 [key_p0, once_p1, n_p2] w K = B24 key_p0 once_p1 n_p2 w K := by kernel_rfl
theorem c24 {key_p0 once_p1 n_p2 : Value} {w : World} {K : Value → World → Prop} (h : B24 key_p0 once_p1 n_p2 w K) : Calls prog 24 #[key_p0, once_p1, n_p2] w (Ret K) :=
  denFn_calls Tryd.func24 T24_ok (Eq.mpr (B24_eq key_p0 once_p1 n_p2 w K) h)

-- 11 holdfast/codec.Key
def T11 : Ann := (.seq .none (.seq (.seq .none (.seq (.seq .none .none) .none)) (.seq .none (.seq (.seq .none (.block (.loop 4294836316 [4, 17] (.seq .none (.seq (.seq .none .none) (.seq (.block (.seq .none (.seq (.seq .none (.seq (.seq .none .none) .none)) (.seq .none .none)))) .none)))))) (.seq (.seq .none (.seq (.seq .none .none) .none)) (.seq .none .none))))))
theorem T11_ok : chkFn prog Tryd.f11 T11 = true := by kernel_rfl
def B11 (parts_p0 : Value) (w : World) (K : Value → World → Prop) : Prop :=
  pv prog (oBi .len #[24] 3 #[false] #[parts_p0]) w fun t_0 w =>
  pvv prog (binOp .lss 3 t_0 (.int .i64 1)) w fun t_1 w =>
  gate (some (t_1, false)) (fun K => K parts_p0 w) w fun t_2 w =>
  gate (some (t_1, false)) (fun K => pv prog (oBi .len #[24] 3 #[false] #[t_2]) w K) w fun t_3 w =>
  gate (some (t_1, false)) (fun K => pvv prog (binOp .gtr 3 t_3 (.int .i64 8)) w K) w fun t_4 w =>
  pv prog (oPick t_1 (.bool true) t_4) w fun t_5 w =>
  cd t_5 (
    K (.tuple #[(.slice none 0 0), (.int .i64 2)]) w) <|
  pv prog (oBi .len #[24] 3 #[false] #[parts_p0]) w fun t_6 w =>
  lp (fun σ w again_9 => pop σ fun out_7 σ => pop σ fun t_8 σ => fin σ <|
    pvv prog (binOp .lss 3 t_8 t_6) w fun t_10 w =>
    cd t_10 (
      pvv prog (Instr.indexAt 24 parts_p0 t_8) w fun t_11 w =>
      ldv prog (Instr.loadAt 9 t_11) w fun t_12 w =>
      pv prog (oBi .len #[9] 3 #[false] #[t_12]) w fun t_13 w =>
      pvv prog (binOp .gtr 3 t_13 (.int .i64 64)) w fun t_14 w =>
      cd t_14 (
        K (.tuple #[(.slice none 0 0), (.int .i64 6)]) w) <|
      Calls prog 21 #[t_12, (.string ⟨#[0]⟩), (.string ⟨#[0, 255]⟩)] w (Ret fun t_15 w =>
      ef prog (oBi .append #[25, 9] 25 #[false, false] #[out_7, t_15]) w fun t_16 w =>
      efv prog (Instr.buildSlice 25 2 #[(0, (.int .u8 0)), (1, (.int .u8 1))]) w fun t_17 w =>
      ef prog (oBi .append #[25, 25] 25 #[false, false] #[t_16, t_17]) w fun t_18 w =>
      pvv prog (binOp .add 3 t_8 (.int .i64 1)) w fun t_19 w =>
      again_9 [t_18, t_19] w)) <|
    pv prog (oBi .len #[25] 3 #[false] #[out_7]) w fun t_20 w =>
    pvv prog (binOp .gtr 3 t_20 (.int .i64 64)) w fun t_21 w =>
    cd t_21 (
      K (.tuple #[(.slice none 0 0), (.int .i64 6)]) w) <|
    K (.tuple #[out_7, (.int .i64 0)]) w) [(.slice none 0 0), (.int .i64 0)] w
theorem B11_eq (parts_p0 : Value) (w : World) (K : Value → World → Prop) : denFn prog Tryd.f11 T11 [parts_p0] w K = B11 parts_p0 w K := by kernel_rfl
theorem c11 {parts_p0 : Value} {w : World} {K : Value → World → Prop} (h : B11 parts_p0 w K) : Calls prog 11 #[parts_p0] w (Ret K) :=
  denFn_calls Tryd.func11 T11_ok (Eq.mpr (B11_eq parts_p0 w K) h)

-- 47 internal/bytealg.hashStr[string]
def T47 : Ann := (.seq .none (.seq .none (.seq (.seq .none (.block (.loop 4193840 [4, 5] (.seq (.seq .none (.seq .none .none)) (.seq (.block .none) .none))))) (.seq .none (.seq (.seq .none (.block (.loop 137422176704 [6, 7, 8] (.seq (.seq .none (.seq .none .none)) (.seq (.block (.meet 16911433792 [6] (.seq .none (.seq .none .none)) .none)) .none))))) (.seq .none .none))))))
theorem T47_ok : chkFn prog Tryd.f47 T47 = true := by kernel_rfl
def B47 (sep_p0 : Value) (w : World) (K : Value → World → Prop) : Prop :=
  lp (fun σ w again_2 => pop σ fun hash_0 σ => pop σ fun i_1 σ => fin σ <|
    pv prog (oBi .len #[9] 3 #[false] #[sep_p0]) w fun t_3 w =>
    pvv prog (binOp .lss 3 i_1 t_3) w fun t_4 w =>
    cd t_4 (
      pvv prog (binOp .mul 50 hash_0 (.int .u32 16777619)) w fun t_5 w =>
      pvv prog (Instr.index 9 sep_p0 i_1) w fun t_6 w =>
      pvv prog (convert 5 50 t_6) w fun t_7 w =>
      pvv prog (binOp .add 50 t_5 t_7) w fun t_8 w =>
      pvv prog (binOp .add 3 i_1 (.int .i64 1)) w fun t_9 w =>
      again_2 [t_8, t_9] w) <|
    pv prog (oBi .len #[9] 3 #[false] #[sep_p0]) w fun t_10 w =>
    lp (fun σ w again_14 => pop σ fun pow_11 σ => pop σ fun sq_12 σ => pop σ fun i_13 σ => fin σ <|
      pvv prog (binOp .gtr 3 i_13 (.int .i64 0)) w fun t_15 w =>
      cd t_15 (
        jn (fun σ w => pop σ fun pow_16 σ => fin σ <|
          pvv prog (binOp .mul 50 sq_12 sq_12) w fun t_17 w =>
          pvv prog (binOp .shr 3 i_13 (.int .u64 1)) w fun t_18 w =>
          again_14 [pow_16, t_17, t_18] w) fun k_19 =>
        pvv prog (binOp .and 3 i_13 (.int .i64 1)) w fun t_20 w =>
        pvv prog (oEq .neq 3 (.tmp 29) (.const (.int .i64 0)) t_20 (.int .i64 0)) w fun t_21 w =>
        cd t_21 (
          pvv prog (binOp .mul 50 pow_11 sq_12) w fun t_22 w =>
          k_19 [t_22] w) <|
        k_19 [pow_11] w) <|
      K (.tuple #[hash_0, pow_11]) w) [(.int .u32 1), (.int .u32 16777619), t_10] w) [(.int .u32 0), (.int .i64 0)] w
theorem B47_eq (sep_p0 : Value) (w : World) (K : Value → World → Prop) : denFn prog Tryd.f47 T47 [sep_p0] w K = B47 sep_p0 w K := by kernel_rfl
theorem c47 {sep_p0 : Value} {w : World} {K : Value → World → Prop} (h : B47 sep_p0 w K) : Calls prog 47 #[sep_p0] w (Ret K) :=
  denFn_calls Tryd.func47 T47_ok (Eq.mpr (B47_eq sep_p0 w K) h)

-- 29 (*strings.Builder).Grow
def T29 : Ann := (.seq .none (.meet 448 [] (.seq .none (.seq .none .none)) (.seq (.draw [.op 0 .pure, .op 1 .pure, .op 2 .pure, .op 5 .pure, .op 6 .pure, .op 7 .pure, .op 11 .pure, .op 3 .load, .op 4 .pure, .op 8 .load, .op 9 .pure, .op 10 .pure, .op 12 .pure]) (.seq .none .none))))
theorem T29_ok : chkFn prog Tryd.f29 T29 = true := by kernel_rfl
def B29 (b_p0 n_p1 : Value) (w : World) (K : Value → World → Prop) : Prop :=
  Calls prog 22 #[b_p0] w (Ret fun t_0 w =>
  jn (fun σ w => fin σ <|
    dr w fun w =>
    pv prog (oNil b_p0) w fun t_1 w =>
    pvv prog (Instr.fieldAt 44 t_1 1) w fun t_2 w =>
    pv prog (oNil b_p0) w fun t_3 w =>
    pvv prog (Instr.fieldAt 44 t_3 1) w fun t_4 w =>
    bindS (vN (Instr.loadAt 25 t_2)) fun m_6 => ldv prog (Instr.loadAt 25 t_2) w fun t_5 w =>
    pv prog (oBi .cap #[25] 3 #[false] #[t_5]) w fun t_7 w =>
    bindS (vN (Instr.loadAt 25 t_4)) fun m_9 => ldv prog (Instr.loadAt 25 t_4) w fun t_8 w =>
    pv prog (oBi .len #[25] 3 #[false] #[t_8]) w fun t_10 w =>
    pvv prog (binOp .sub 3 t_7 t_10) w fun t_11 w =>
    pvv prog (binOp .lss 3 t_11 n_p1) w fun t_12 w =>
    cd t_12 (
      Calls prog 37 #[b_p0, n_p1] w (Ret fun t_13 w =>
      K (.tuple #[]) w)) <|
    K (.tuple #[]) w) fun k_14 =>
  pvv prog (binOp .lss 3 n_p1 (.int .i64 0)) w fun t_15 w =>
  cd t_15 (
    pvv prog (Instr.makeInterface 9 (.string ⟨#[115, 116, 114, 105, 110, 103, 115, 46, 66, 117, 105, 108, 100, 101, 114, 46, 71, 114, 111, 119, 58, 32, 110, 101, 103, 97, 116, 105, 118, 101, 32, 99, 111, 117, 110, 116]⟩)) w fun t_16 w =>
    efv prog (Instr.panic t_16) w fun u_17 w =>
    k_14 [] w) <|
  k_14 [] w)
theorem B29_eq (b_p0 n_p1 : Value) (w : World) (K : Value → World → Prop) : denFn prog Tryd.f29 T29 [b_p0, n_p1] w K = B29 b_p0 n_p1 w K := by kernel_rfl
theorem c29 {b_p0 n_p1 : Value} {w : World} {K : Value → World → Prop} (h : B29 b_p0 n_p1 w K) : Calls prog 29 #[b_p0, n_p1] w (Ret K) :=
  denFn_calls Tryd.func29 T29_ok (Eq.mpr (B29_eq b_p0 n_p1 w K) h)

-- 7 holdfast/seal.Seal
def T7 : Ann := (.seq .none (.seq (.seq .none (.seq (.seq .none .none) .none)) (.seq (.draw [.op 0 .pure, .op 3 .pure, .op 4 .pure, .op 2 .load, .op 1 .eff, .op 5 .eff, .op 6 .eff, .op 7 .pure]) (.seq .none (.seq .none .none)))))
theorem T7_ok : chkFn prog Tryd.f7 T7 = true := by kernel_rfl
def B7 (key_p0 once_p1 plain_p2 : Value) (w : World) (K : Value → World → Prop) : Prop :=
  efv prog (Instr.box 23 key_p0) w fun key_0 w =>
  pv prog (oBi .len #[25] 3 #[false] #[plain_p2]) w fun t_1 w =>
  pvv prog (binOp .gtr 3 t_1 (.int .i64 1024)) w fun t_2 w =>
  cd t_2 (
    K (.tuple #[(.slice none 0 0), (.int .i64 6)]) w) <|
  dr w fun w =>
  bindS (vN (Instr.loadAt 23 key_0)) fun m_4 => ldv prog (Instr.loadAt 23 key_0) w fun t_3 w =>
  Calls prog 17 #[once_p1] w (Ret fun t_5 w => stay prog none m_4 t_3 w <| 
  Calls prog 18 #[t_3, once_p1, plain_p2] w (Ret fun t_6 w =>
  ef prog (oBi .append #[25, 25] 25 #[false, false] #[t_5, t_6]) w fun t_7 w => stay prog none m_4 t_3 w <| 
  ldv prog (Instr.loadAt 23 key_0) w fun t_8 w =>
  Calls prog 19 #[t_8, t_7] w (Ret fun t_9 w =>
  efv prog (Instr.alloc 60 true (.tuple #[])) w fun t_10 w =>
  efu prog (Instr.storeAt 60 t_10 t_9) w fun u_11 w =>
  pvv prog (Instr.sliceAt 60 t_10 none none none) w fun t_12 w =>
  ef prog (oBi .append #[25, 25] 25 #[false, false] #[t_7, t_12]) w fun t_13 w =>
  K (.tuple #[t_13, (.int .i64 0)]) w)))
theorem B7_eq (key_p0 once_p1 plain_p2 : Value) (w : World) (K : Value → World → Prop) : denFn prog Tryd.f7 T7 [key_p0, once_p1, plain_p2] w K = B7 key_p0 once_p1 plain_p2 w K := by kernel_rfl
theorem c7 {key_p0 once_p1 plain_p2 : Value} {w : World} {K : Value → World → Prop} (h : B7 key_p0 once_p1 plain_p2 w K) : Calls prog 7 #[key_p0, once_p1, plain_p2] w (Ret K) :=
  denFn_calls Tryd.func7 T7_ok (Eq.mpr (B7_eq key_p0 once_p1 plain_p2 w K) h)

-- 5 holdfast/hash.Hex
def T5 : Ann := (.seq .none (.seq .none (.seq (.seq .none (.block (.loop 524192 [7] (.seq .none (.seq (.seq .none .none) (.seq (.block (.seq .none (.seq .none .none))) .none)))))) (.seq .none .none))))
theorem T5_ok : chkFn prog Tryd.f5 T5 = true := by kernel_rfl
def B5 (h_p0 : Value) (w : World) (K : Value → World → Prop) : Prop :=
  efv prog (Instr.box 23 h_p0) w fun h_0 w =>
  efv prog (Instr.alloc 44 true (.tuple #[])) w fun s_1 w =>
  ldv prog (Instr.loadAt 23 h_0) w fun t_2 w =>
  lp (fun σ w again_4 => pop σ fun t_3 σ => fin σ <|
    pvv prog (binOp .lss 3 t_3 (.int .i64 32)) w fun t_5 w =>
    cd t_5 (
      pvv prog (Instr.index 23 t_2 t_3) w fun t_6 w =>
      pvv prog (binOp .shr 5 t_6 (.int .u64 4)) w fun t_7 w =>
      pvv prog (Instr.index 9 (.string ⟨#[48, 49, 50, 51, 52, 53, 54, 55, 56, 57, 97, 98, 99, 100, 101, 102]⟩) t_7) w fun t_8 w =>
      Calls prog 12 #[s_1, t_8] w (Ret fun t_9 w =>
      pvv prog (binOp .and 5 t_6 (.int .u8 15)) w fun t_10 w =>
      pvv prog (Instr.index 9 (.string ⟨#[48, 49, 50, 51, 52, 53, 54, 55, 56, 57, 97, 98, 99, 100, 101, 102]⟩) t_10) w fun t_11 w =>
      Calls prog 12 #[s_1, t_11] w (Ret fun t_12 w =>
      pvv prog (binOp .add 3 t_3 (.int .i64 1)) w fun t_13 w =>
      again_4 [t_13] w))) <|
    Calls prog 13 #[s_1] w (Ret fun t_14 w =>
    K t_14 w)) [(.int .i64 0)] w
theorem B5_eq (h_p0 : Value) (w : World) (K : Value → World → Prop) : denFn prog Tryd.f5 T5 [h_p0] w K = B5 h_p0 w K := by kernel_rfl
theorem c5 {h_p0 : Value} {w : World} {K : Value → World → Prop} (h : B5 h_p0 w K) : Calls prog 5 #[h_p0] w (Ret K) :=
  denFn_calls Tryd.func5 T5_ok (Eq.mpr (B5_eq h_p0 w K) h)

-- 17 holdfast/seal.eight
def T17 : Ann := (.seq .none (.seq .none (.seq (.seq .none (.block (.loop 2096912 [8] (.seq .none (.seq (.seq .none .none) (.seq (.block (.seq .none .none)) .none)))))) (.seq .none .none))))
theorem T17_ok : chkFn prog Tryd.f17 T17 = true := by kernel_rfl
def B17 (n_p0 : Value) (w : World) (K : Value → World → Prop) : Prop :=
  efv prog (Instr.makeSlice 25 (.int .i64 8) (.int .i64 8)) w fun t_0 w =>
  pv prog (oBi .len #[25] 3 #[false] #[t_0]) w fun t_1 w =>
  lp (fun σ w again_3 => pop σ fun t_2 σ => fin σ <|
    pvv prog (binOp .lss 3 t_2 t_1) w fun t_4 w =>
    cd t_4 (
      pvv prog (binOp .mul 3 (.int .i64 8) t_2) w fun t_5 w =>
      pvv prog (binOp .sub 3 (.int .i64 56) t_5) w fun t_6 w =>
      pvv prog (binOp .shr 35 n_p0 t_6) w fun t_7 w =>
      pvv prog (convert 35 5 t_7) w fun t_8 w =>
      pvv prog (Instr.indexAt 25 t_0 t_2) w fun t_9 w =>
      efu prog (Instr.storeAt 5 t_9 t_8) w fun u_10 w =>
      pvv prog (binOp .add 3 t_2 (.int .i64 1)) w fun t_11 w =>
      again_3 [t_11] w) <|
    K t_0 w) [(.int .i64 0)] w
theorem B17_eq (n_p0 : Value) (w : World) (K : Value → World → Prop) : denFn prog Tryd.f17 T17 [n_p0] w K = B17 n_p0 w K := by kernel_rfl
theorem c17 {n_p0 : Value} {w : World} {K : Value → World → Prop} (h : B17 n_p0 w K) : Calls prog 17 #[n_p0] w (Ret K) :=
  denFn_calls Tryd.func17 T17_ok (Eq.mpr (B17_eq n_p0 w K) h)

-- 31 (*strings.Builder).WriteString
def T31 : Ann := (.seq .none (.seq .none (.seq .none (.seq .none .none))))
theorem T31_ok : chkFn prog Tryd.f31 T31 = true := by kernel_rfl
def B31 (b_p0 s_p1 : Value) (w : World) (K : Value → World → Prop) : Prop :=
  Calls prog 22 #[b_p0] w (Ret fun t_0 w =>
  pv prog (oNil b_p0) w fun t_1 w =>
  pvv prog (Instr.fieldAt 44 t_1 1) w fun t_2 w =>
  ldv prog (Instr.loadAt 25 t_2) w fun t_3 w =>
  ef prog (oBi .append #[25, 9] 25 #[false, false] #[t_3, s_p1]) w fun t_4 w =>
  pv prog (oNil b_p0) w fun t_5 w =>
  pvv prog (Instr.fieldAt 44 t_5 1) w fun t_6 w =>
  efu prog (Instr.storeAt 25 t_6 t_4) w fun u_7 w =>
  pv prog (oBi .len #[9] 3 #[false] #[s_p1]) w fun t_8 w =>
  K (.tuple #[t_8, .nilIface]) w)
theorem B31_eq (b_p0 s_p1 : Value) (w : World) (K : Value → World → Prop) : denFn prog Tryd.f31 T31 [b_p0, s_p1] w K = B31 b_p0 s_p1 w K := by kernel_rfl
theorem c31 {b_p0 s_p1 : Value} {w : World} {K : Value → World → Prop} (h : B31 b_p0 s_p1 w K) : Calls prog 31 #[b_p0, s_p1] w (Ret K) :=
  denFn_calls Tryd.func31 T31_ok (Eq.mpr (B31_eq b_p0 s_p1 w K) h)

-- 20 holdfast/seal.Size
def T20 : Ann := (.seq .none (.seq (.seq .none (.seq (.seq .none .none) .none)) (.seq .none .none)))
theorem T20_ok : chkFn prog Tryd.f20 T20 = true := by kernel_rfl
def B20 (plain_p0 : Value) (w : World) (K : Value → World → Prop) : Prop :=
  pvv prog (binOp .lss 3 plain_p0 (.int .i64 0)) w fun t_0 w =>
  gate (some (t_0, false)) (fun K => K plain_p0 w) w fun t_1 w =>
  gate (some (t_0, false)) (fun K => pvv prog (binOp .gtr 3 t_1 (.int .i64 1024)) w K) w fun t_2 w =>
  pv prog (oPick t_0 (.bool true) t_2) w fun t_3 w =>
  cd t_3 (
    K (.int .i64 0) w) <|
  pvv prog (binOp .add 3 plain_p0 (.int .i64 24)) w fun t_4 w =>
  K t_4 w
theorem B20_eq (plain_p0 : Value) (w : World) (K : Value → World → Prop) : denFn prog Tryd.f20 T20 [plain_p0] w K = B20 plain_p0 w K := by kernel_rfl
theorem c20 {plain_p0 : Value} {w : World} {K : Value → World → Prop} (h : B20 plain_p0 w K) : Calls prog 20 #[plain_p0] w (Ret K) :=
  denFn_calls Tryd.func20 T20_ok (Eq.mpr (B20_eq plain_p0 w K) h)

-- 16 bytes.Clone
def T16 : Ann := (.seq .none (.seq (.seq .none (.seq (.seq .none .none) .none)) (.seq .none .none)))
theorem T16_ok : chkFn prog Tryd.f16 T16 = true := by kernel_rfl
def B16 (b_p0 : Value) (w : World) (K : Value → World → Prop) : Prop :=
  pvv prog (oEq .eql 25 (.tmp 3) (.const (.slice none 0 0)) b_p0 (.slice none 0 0)) w fun t_0 w =>
  cd t_0 (
    K (.slice none 0 0) w) <|
  efv prog (Instr.buildSlice 25 0 #[]) w fun t_1 w =>
  ef prog (oBi .append #[25, 25] 25 #[false, false] #[t_1, b_p0]) w fun t_2 w =>
  K t_2 w
theorem B16_eq (b_p0 : Value) (w : World) (K : Value → World → Prop) : denFn prog Tryd.f16 T16 [b_p0] w K = B16 b_p0 w K := by kernel_rfl
theorem c16 {b_p0 : Value} {w : World} {K : Value → World → Prop} (h : B16 b_p0 w K) : Calls prog 16 #[b_p0] w (Ret K) :=
  denFn_calls Tryd.func16 T16_ok (Eq.mpr (B16_eq b_p0 w K) h)

-- 21 strings.ReplaceAll
def T21 : Ann := (.seq .none (.seq .none .none))
theorem T21_ok : chkFn prog Tryd.f21 T21 = true := by kernel_rfl
def B21 (s_p0 old_p1 new_p2 : Value) (w : World) (K : Value → World → Prop) : Prop :=
  Calls prog 25 #[s_p0, old_p1, new_p2, (.int .i64 (-1))] w (Ret fun t_0 w =>
  K t_0 w)
theorem B21_eq (s_p0 old_p1 new_p2 : Value) (w : World) (K : Value → World → Prop) : denFn prog Tryd.f21 T21 [s_p0, old_p1, new_p2] w K = B21 s_p0 old_p1 new_p2 w K := by kernel_rfl
theorem c21 {s_p0 old_p1 new_p2 : Value} {w : World} {K : Value → World → Prop} (h : B21 s_p0 old_p1 new_p2 w K) : Calls prog 21 #[s_p0, old_p1, new_p2] w (Ret K) :=
  denFn_calls Tryd.func21 T21_ok (Eq.mpr (B21_eq s_p0 old_p1 new_p2 w K) h)


end Go.Proofs.YtfmoikocokekhaaDoor
