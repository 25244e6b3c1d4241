import Derived.Test.YtjmgkfpjaelilaaHshI
set_option linter.all false
set_option maxRecDepth 100000
namespace Go.Proofs.Ytjmgkfpjaelilaa
open Go Hold
-- 6 holdfast/holdfastlaw07.HashDigits
def T6 : Ann := (.seq .none (.seq .none (.seq .none (.seq .none (.seq (.draw [(0, .eff), (1, .pure), (2, .load), (3, .load), (4, .pure), (5, .pure), (6, .pure), (7, .pure), (8, .pure), (9, .pure), (10, .pure), (11, .pure), (12, .pure), (13, .pure), (14, .pure), (15, .pure), (16, .load), (17, .load), (18, .pure), (19, .pure), (20, .pure), (21, .load), (23, .load), (22, .eff), (24, .eff), (25, .pure), (26, .pure), (27, .pure), (28, .load), (29, .load), (31, .load), (32, .load), (33, .pure), (30, .eff), (34, .pure), (35, .pure), (36, .pure), (37, .load), (38, .load), (39, .eff), (40, .pure), (41, .pure)]) .none)))))
theorem T6_ok : chkFn prog Try.f6 T6 = true := by kernel_rfl
def B6 (h_p0 g_p1 s_p2 : Value) (w : World) (K : Value → World → Prop) : Prop :=
  efv prog (Instr.box 23 h_p0) w fun h_0 w =>
  efv prog (Instr.box 23 g_p1) w fun g_1 w =>
  Calls prog 18 #[s_p2] w (Ret fun t_2 w =>
  pvv prog (Instr.extract t_2 0) w fun t_3 w =>
  pvv prog (Instr.extract t_2 1) w fun t_4 w =>
  efv prog (Instr.alloc 23 true (.tuple #[])) w fun x_5 w =>
  efu prog (Instr.storeAt 23 x_5 t_3) w fun u_6 w =>
  Calls prog 19 #[s_p2] w (Ret fun t_7 w =>
  pvv prog (Instr.extract t_7 0) w fun t_8 w =>
  pvv prog (Instr.extract t_7 1) w fun t_9 w =>
  efv prog (Instr.alloc 23 true (.tuple #[])) w fun y_10 w =>
  efu prog (Instr.storeAt 23 y_10 t_8) w fun u_11 w =>
  ldv prog (Instr.loadAt 23 h_0) w fun t_12 w =>
  Calls prog 20 #[t_12] w (Ret fun t_13 w =>
  Calls prog 18 #[t_13] w (Ret fun t_14 w =>
  pvv prog (Instr.extract t_14 0) w fun t_15 w =>
  pvv prog (Instr.extract t_14 1) w fun t_16 w =>
  efv prog (Instr.alloc 23 true (.tuple #[])) w fun back_17 w =>
  efu prog (Instr.storeAt 23 back_17 t_15) w fun u_18 w =>
  dr w fun w =>
  Calls prog 9 #[] w (Ret fun t_19 w =>
  bindS (vN (Instr.loadAt 23 x_5)) fun m_21 => gate (some (t_19, true)) (fun K => ldv prog (Instr.loadAt 23 x_5) w K) w fun t_20 w =>
  bindS (vN (Instr.loadAt 23 y_10)) fun m_23 => gate (some (t_19, true)) (fun K => ldv prog (Instr.loadAt 23 y_10) w K) w fun t_22 w =>
  gate (some (t_19, true)) (fun K => pvv prog (oEq .eql 23 (.tmp 31) (.tmp 32) t_20 t_22) w K) w fun t_24 w =>
  pv prog (oPick t_19 t_24 (.bool false)) w fun t_25 w =>
  gate (some (t_25, true)) (fun K => K t_4 w) w fun t_26 w =>
  gate (some (t_25, true)) (fun K => K t_9 w) w fun t_27 w =>
  gate (some (t_25, true)) (fun K => pvv prog (oEq .eql 33 (.tmp 36) (.tmp 37) t_26 t_27) w K) w fun t_28 w =>
  pv prog (oPick t_25 t_28 (.bool false)) w fun t_29 w =>
  gate (some (t_29, true)) (fun K => K t_16 w) w fun t_30 w =>
  gate (some (t_29, true)) (fun K => pvv prog (oEq .eql 33 (.tmp 41) (.const (.int .i64 0)) t_30 (.int .i64 0)) w K) w fun t_31 w =>
  pv prog (oPick t_29 t_31 (.bool false)) w fun t_32 w =>
  bindS (vN (Instr.loadAt 23 back_17)) fun m_34 => gate (some (t_32, true)) (fun K => ldv prog (Instr.loadAt 23 back_17) w K) w fun t_33 w =>
  bindS (vN (Instr.loadAt 23 h_0)) fun m_36 => gate (some (t_32, true)) (fun K => ldv prog (Instr.loadAt 23 h_0) w K) w fun t_35 w =>
  gate (some (t_32, true)) (fun K => pvv prog (oEq .eql 23 (.tmp 45) (.tmp 46) t_33 t_35) w K) w fun t_37 w =>
  pv prog (oPick t_32 t_37 (.bool false)) w fun t_38 w =>
  bindS (vN (Instr.loadAt 23 h_0)) fun m_40 => gate (some (t_38, true)) (fun K => ldv prog (Instr.loadAt 23 h_0) w K) w fun t_39 w =>
  bindS (vN (Instr.loadAt 23 h_0)) fun m_42 => gate (some (t_38, true)) (fun K => ldv prog (Instr.loadAt 23 h_0) w K) w fun t_41 w =>
  gate (some (t_38, true)) (fun K => Calls prog 20 #[t_39] w (Ret fun s_68 w => stay prog (some (t_38, true)) m_42 t_41 w <| stay prog (some (t_32, true)) m_36 t_35 w <| stay prog (some (t_32, true)) m_34 t_33 w <| stay prog (some (t_19, true)) m_23 t_22 w <| stay prog (some (t_19, true)) m_21 t_20 w <| K s_68 w)) w fun t_43 w =>
  gate (some (t_38, true)) (fun K => Calls prog 21 #[t_41] w (Ret fun s_67 w => stay prog (some (t_38, true)) m_40 t_39 w <| stay prog (some (t_32, true)) m_36 t_35 w <| stay prog (some (t_32, true)) m_34 t_33 w <| stay prog (some (t_19, true)) m_23 t_22 w <| stay prog (some (t_19, true)) m_21 t_20 w <| K s_67 w)) w fun t_44 w =>
  gate (some (t_38, true)) (fun K => pvv prog (oEq .eql 9 (.tmp 51) (.tmp 53) t_43 t_44) w K) w fun t_45 w =>
  pv prog (oPick t_38 t_45 (.bool false)) w fun t_46 w =>
  bindS (vN (Instr.loadAt 23 h_0)) fun m_48 => gate (some (t_46, true)) (fun K => ldv prog (Instr.loadAt 23 h_0) w K) w fun t_47 w =>
  bindS (vN (Instr.loadAt 23 g_1)) fun m_50 => gate (some (t_46, true)) (fun K => ldv prog (Instr.loadAt 23 g_1) w K) w fun t_49 w =>
  bindS (vN (Instr.loadAt 23 h_0)) fun m_52 => gate (some (t_46, true)) (fun K => ldv prog (Instr.loadAt 23 h_0) w K) w fun t_51 w =>
  bindS (vN (Instr.loadAt 23 g_1)) fun m_54 => gate (some (t_46, true)) (fun K => ldv prog (Instr.loadAt 23 g_1) w K) w fun t_53 w =>
  gate (some (t_46, true)) (fun K => pvv prog (oEq .eql 23 (.tmp 60) (.tmp 61) t_51 t_53) w K) w fun t_55 w =>
  gate (some (t_46, true)) (fun K => Calls prog 17 #[t_47, t_49] w (Ret fun s_66 w => stay prog (some (t_46, true)) m_54 t_53 w <| stay prog (some (t_46, true)) m_52 t_51 w <| stay prog (some (t_38, true)) m_42 t_41 w <| stay prog (some (t_38, true)) m_40 t_39 w <| stay prog (some (t_32, true)) m_36 t_35 w <| stay prog (some (t_32, true)) m_34 t_33 w <| stay prog (some (t_19, true)) m_23 t_22 w <| stay prog (some (t_19, true)) m_21 t_20 w <| K s_66 w)) w fun t_56 w =>
  gate (some (t_46, true)) (fun K => pvv prog (oEq .eql 4 (.tmp 59) (.tmp 62) t_56 t_55) w K) w fun t_57 w =>
  pv prog (oPick t_46 t_57 (.bool false)) w fun t_58 w =>
  bindS (vN (Instr.loadAt 23 g_1)) fun m_60 => gate (some (t_58, true)) (fun K => ldv prog (Instr.loadAt 23 g_1) w K) w fun t_59 w =>
  bindS (vN (Instr.loadAt 23 g_1)) fun m_62 => gate (some (t_58, true)) (fun K => ldv prog (Instr.loadAt 23 g_1) w K) w fun t_61 w =>
  gate (some (t_58, true)) (fun K => Calls prog 17 #[t_59, t_61] w (Ret fun s_65 w => stay prog (some (t_46, true)) m_54 t_53 w <| stay prog (some (t_46, true)) m_52 t_51 w <| stay prog (some (t_46, true)) m_50 t_49 w <| stay prog (some (t_46, true)) m_48 t_47 w <| stay prog (some (t_38, true)) m_42 t_41 w <| stay prog (some (t_38, true)) m_40 t_39 w <| stay prog (some (t_32, true)) m_36 t_35 w <| stay prog (some (t_32, true)) m_34 t_33 w <| stay prog (some (t_19, true)) m_23 t_22 w <| stay prog (some (t_19, true)) m_21 t_20 w <| K s_65 w)) w fun t_63 w =>
  pv prog (oPick t_58 t_63 (.bool false)) w fun t_64 w =>
  K t_64 w)))))
theorem B6_eq (h_p0 g_p1 s_p2 : Value) (w : World) (K : Value → World → Prop) : denFn prog Try.f6 T6 [h_p0, g_p1, s_p2] w K = B6 h_p0 g_p1 s_p2 w K := by kernel_rfl
theorem c6 {h_p0 g_p1 s_p2 : Value} {w : World} {K : Value → World → Prop} (h : B6 h_p0 g_p1 s_p2 w K) : Calls prog 6 #[h_p0, g_p1, s_p2] w (Ret K) :=
  denFn_calls Try.func6 T6_ok (Eq.mpr (B6_eq h_p0 g_p1 s_p2 w K) h)

-- 8 holdfast/holdfastlaw07.HashRounds
def T8 : Ann := (.seq .none (.seq .none (.seq .none (.seq .none (.seq (.seq .none (.seq (.seq .none .none) .none)) (.seq (.draw [(0, .eff), (1, .pure), (3, .pure), (5, .pure), (2, .load), (4, .eff), (6, .eff), (7, .eff), (8, .pure), (9, .pure)]) .none))))))
theorem T8_ok : chkFn prog Try.f8 T8 = true := by kernel_rfl
def B8 (password_p0 salt_p1 cost_p2 : Value) (w : World) (K : Value → World → Prop) : Prop :=
  pvv prog (convert 5 3 cost_p2) w fun t_0 w =>
  pvv prog (binOp .rem 3 t_0 (.int .i64 62)) w fun t_1 w =>
  pvv prog (binOp .add 3 t_1 (.int .i64 1)) w fun t_2 w =>
  Calls prog 22 #[password_p0, salt_p1, t_2] w (Ret fun t_3 w =>
  pvv prog (Instr.extract t_3 0) w fun t_4 w =>
  pvv prog (Instr.extract t_3 1) w fun t_5 w =>
  efv prog (Instr.alloc 23 true (.tuple #[])) w fun a_6 w =>
  efu prog (Instr.storeAt 23 a_6 t_4) w fun u_7 w =>
  pvv prog (binOp .add 3 t_2 (.int .i64 1)) w fun t_8 w =>
  Calls prog 22 #[password_p0, salt_p1, t_8] w (Ret fun t_9 w =>
  pvv prog (Instr.extract t_9 0) w fun t_10 w =>
  pvv prog (Instr.extract t_9 1) w fun t_11 w =>
  efv prog (Instr.alloc 23 true (.tuple #[])) w fun b_12 w =>
  efu prog (Instr.storeAt 23 b_12 t_10) w fun u_13 w =>
  pvv prog (oEq .neq 33 (.tmp 31) (.const (.int .i64 0)) t_5 (.int .i64 0)) w fun t_14 w =>
  gate (some (t_14, false)) (fun K => K t_11 w) w fun t_15 w =>
  gate (some (t_14, false)) (fun K => pvv prog (oEq .neq 33 (.tmp 34) (.const (.int .i64 0)) t_15 (.int .i64 0)) w K) w fun t_16 w =>
  pv prog (oPick t_14 (.bool true) t_16) w fun t_17 w =>
  cd t_17 (
    Calls prog 9 #[] w (Ret fun t_18 w =>
    gate (some (t_18, true)) (fun K => K t_5 w) w fun t_19 w =>
    gate (some (t_18, true)) (fun K => pvv prog (oEq .eql 33 (.tmp 39) (.const (.int .i64 6)) t_19 (.int .i64 6)) w K) w fun t_20 w =>
    pv prog (oPick t_18 t_20 (.bool false)) w fun t_21 w =>
    gate (some (t_21, true)) (fun K => K t_11 w) w fun t_22 w =>
    gate (some (t_21, true)) (fun K => pvv prog (oEq .eql 33 (.tmp 43) (.const (.int .i64 6)) t_22 (.int .i64 6)) w K) w fun t_23 w =>
    pv prog (oPick t_21 t_23 (.bool false)) w fun t_24 w =>
    K t_24 w)) <|
  dr w fun w =>
  Calls prog 9 #[] w (Ret fun t_25 w =>
  gate (some (t_25, true)) (fun K => K password_p0 w) w fun t_26 w =>
  gate (some (t_25, true)) (fun K => pvv prog (Instr.sliceAt 23 a_6 none none none) w K) w fun t_27 w =>
  bindS (vN (Instr.loadAt 23 b_12)) fun m_29 => gate (some (t_25, true)) (fun K => ldv prog (Instr.loadAt 23 b_12) w K) w fun t_28 w =>
  gate (some (t_25, true)) (fun K => efv prog (convert 9 24 t_26) w fun s_36 w => stay prog (some (t_25, true)) m_29 t_28 w <| K s_36 w) w fun t_30 w =>
  gate (some (t_25, true)) (fun K => Calls prog 14 #[t_30, t_27] w (Ret fun s_35 w => stay prog (some (t_25, true)) m_29 t_28 w <| K s_35 w)) w fun t_31 w =>
  gate (some (t_25, true)) (fun K => Calls prog 17 #[t_28, t_31] w (Ret fun s_34 w => K s_34 w)) w fun t_32 w =>
  pv prog (oPick t_25 t_32 (.bool false)) w fun t_33 w =>
  K t_33 w)))
theorem B8_eq (password_p0 salt_p1 cost_p2 : Value) (w : World) (K : Value → World → Prop) : denFn prog Try.f8 T8 [password_p0, salt_p1, cost_p2] w K = B8 password_p0 salt_p1 cost_p2 w K := by kernel_rfl
theorem c8 {password_p0 salt_p1 cost_p2 : Value} {w : World} {K : Value → World → Prop} (h : B8 password_p0 salt_p1 cost_p2 w K) : Calls prog 8 #[password_p0, salt_p1, cost_p2] w (Ret K) :=
  denFn_calls Try.func8 T8_ok (Eq.mpr (B8_eq password_p0 salt_p1 cost_p2 w K) h)

-- 15 holdfast/holdfastref07.Tag
def T15 : Ann := (.seq .none (.seq .none (.seq .none (.meet 258080 [5] (.seq .none (.seq .none .none)) (.seq (.block (.loop 16515104 [5] (.seq (.seq .none (.seq .none .none)) (.block .none)))) (.seq .none (.seq (.seq .none (.block (.loop 17592169267648 [6, 7, 8] (.seq (.seq .none (.seq .none .none)) (.seq (.block (.seq .none .none)) .none))))) (.seq .none (.seq .none (.seq .none .none))))))))))
theorem T15_ok : chkFn prog Try.f15 T15 = true := by kernel_rfl
def B15 (key_p0 b_p1 : Value) (w : World) (K : Value → World → Prop) : Prop :=
  efv prog (Instr.alloc 23 true (.tuple #[])) w fun t_0 w =>
  ef prog (oBi .append #[24, 24] 24 #[false, false] #[(.slice none 0 0), key_p0]) w fun t_1 w =>
  jn (fun σ w => pop σ fun k_2 σ => fin σ <|
    lp (fun σ w again_4 => pop σ fun k_3 σ => fin σ <|
      pv prog (oBi .len #[24] 3 #[false] #[k_3]) w fun t_5 w =>
      pvv prog (binOp .lss 3 t_5 (.int .i64 64)) w fun t_6 w =>
      cd t_6 (
        efv prog (Instr.buildSlice 24 1 #[(0, (.int .u8 0))]) w fun t_7 w =>
        ef prog (oBi .append #[24, 24] 24 #[false, false] #[k_3, t_7]) w fun t_8 w =>
        again_4 [t_8] w) <|
      lp (fun σ w again_12 => pop σ fun in_9 σ => pop σ fun out_10 σ => pop σ fun i_11 σ => fin σ <|
        pvv prog (binOp .lss 3 i_11 (.int .i64 64)) w fun t_13 w =>
        cd t_13 (
          pvv prog (Instr.indexAt 24 k_3 i_11) w fun t_14 w =>
          ldv prog (Instr.loadAt 5 t_14) w fun t_15 w =>
          pvv prog (binOp .xor 5 t_15 (.int .u8 54)) w fun t_16 w =>
          efv prog (Instr.buildSlice 24 1 #[(0, t_16)]) w fun t_17 w =>
          ef prog (oBi .append #[24, 24] 24 #[false, false] #[in_9, t_17]) w fun t_18 w =>
          pvv prog (Instr.indexAt 24 k_3 i_11) w fun t_19 w =>
          ldv prog (Instr.loadAt 5 t_19) w fun t_20 w =>
          pvv prog (binOp .xor 5 t_20 (.int .u8 92)) w fun t_21 w =>
          efv prog (Instr.buildSlice 24 1 #[(0, t_21)]) w fun t_22 w =>
          ef prog (oBi .append #[24, 24] 24 #[false, false] #[out_10, t_22]) w fun t_23 w =>
          pvv prog (binOp .add 3 i_11 (.int .i64 1)) w fun t_24 w =>
          again_12 [t_18, t_23, t_24] w) <|
        ef prog (oBi .append #[24, 24] 24 #[false, false] #[in_9, b_p1]) w fun t_25 w =>
        Calls prog 13 #[t_25] w (Ret fun t_26 w =>
        Calls prog 29 #[t_26] w (Ret fun t_27 w =>
        ef prog (oBi .append #[24, 24] 24 #[false, false] #[out_10, t_27]) w fun t_28 w =>
        Calls prog 13 #[t_28] w (Ret fun t_29 w =>
        efu prog (Instr.storeAt 23 t_0 t_29) w fun u_30 w =>
        ∃ r_31, (do loadVar 23 (← asAddr t_0)).run prog w = .ok r_31 w ∧ K r_31 w)))) [(.slice none 0 0), (.slice none 0 0), (.int .i64 0)] w) [k_2] w) fun k_32 =>
  pv prog (oBi .len #[24] 3 #[false] #[t_1]) w fun t_33 w =>
  pvv prog (binOp .gtr 3 t_33 (.int .i64 64)) w fun t_34 w =>
  cd t_34 (
    Calls prog 13 #[key_p0] w (Ret fun t_35 w =>
    Calls prog 29 #[t_35] w (Ret fun t_36 w =>
    k_32 [t_36] w))) <|
  k_32 [t_1] w
theorem B15_eq (key_p0 b_p1 : Value) (w : World) (K : Value → World → Prop) : denFn prog Try.f15 T15 [key_p0, b_p1] w K = B15 key_p0 b_p1 w K := by kernel_rfl
theorem c15 {key_p0 b_p1 : Value} {w : World} {K : Value → World → Prop} (h : B15 key_p0 b_p1 w K) : Calls prog 15 #[key_p0, b_p1] w (Ret K) :=
  denFn_calls Try.func15 T15_ok (Eq.mpr (B15_eq key_p0 b_p1 w K) h)

-- 23 holdfast/holdfastref07.Iterate
def T23 : Ann := (.seq .none (.seq (.seq .none (.seq (.seq .none .none) .none)) (.seq (.seq .none (.seq (.seq .none .none) .none)) (.seq .none (.seq (.seq .none (.block (.loop 2196875772416 [9] (.seq (.seq .none (.seq .none .none)) (.seq (.block .none) .none))))) (.seq .none .none))))))
theorem T23_ok : chkFn prog Try.f23 T23 = true := by kernel_rfl
def B23 (password_p0 salt_p1 cost_p2 : Value) (w : World) (K : Value → World → Prop) : Prop :=
  efv prog (Instr.alloc 23 true (.tuple #[])) w fun t_0 w =>
  pv prog (oBi .len #[9] 3 #[false] #[password_p0]) w fun t_1 w =>
  pvv prog (binOp .gtr 3 t_1 (.int .i64 64)) w fun t_2 w =>
  gate (some (t_2, false)) (fun K => K salt_p1 w) w fun t_3 w =>
  gate (some (t_2, false)) (fun K => pv prog (oBi .len #[9] 3 #[false] #[t_3]) w K) w fun t_4 w =>
  gate (some (t_2, false)) (fun K => pvv prog (binOp .gtr 3 t_4 (.int .i64 8)) w K) w fun t_5 w =>
  pv prog (oPick t_2 (.bool true) t_5) w fun t_6 w =>
  cd t_6 (
    pvv prog (Instr.build 23 #[]) w fun t_7 w =>
    efu prog (Instr.storeAt 23 t_0 t_7) w fun u_8 w =>
    ∃ r_9, (do loadVar 23 (← asAddr t_0)).run prog w = .ok r_9 w ∧ K (.tuple #[r_9, (.int .i64 6)]) w) <|
  pvv prog (binOp .lss 3 cost_p2 (.int .i64 1)) w fun t_10 w =>
  gate (some (t_10, false)) (fun K => K cost_p2 w) w fun t_11 w =>
  gate (some (t_10, false)) (fun K => pvv prog (binOp .gtr 3 t_11 (.int .i64 64)) w K) w fun t_12 w =>
  pv prog (oPick t_10 (.bool true) t_12) w fun t_13 w =>
  cd t_13 (
    pvv prog (Instr.build 23 #[]) w fun t_14 w =>
    efu prog (Instr.storeAt 23 t_0 t_14) w fun u_15 w =>
    ∃ r_16, (do loadVar 23 (← asAddr t_0)).run prog w = .ok r_16 w ∧ K (.tuple #[r_16, (.int .i64 2)]) w) <|
  efv prog (convert 9 24 salt_p1) w fun t_17 w =>
  efv prog (convert 9 24 password_p0) w fun t_18 w =>
  Calls prog 15 #[t_17, t_18] w (Ret fun t_19 w =>
  efv prog (Instr.alloc 23 true (.tuple #[])) w fun h_20 w =>
  efu prog (Instr.storeAt 23 h_20 t_19) w fun u_21 w =>
  lp (fun σ w again_23 => pop σ fun i_22 σ => fin σ <|
    pvv prog (binOp .lss 3 i_22 cost_p2) w fun t_24 w =>
    cd t_24 (
      efv prog (convert 9 24 password_p0) w fun t_25 w =>
      ldv prog (Instr.loadAt 23 h_20) w fun t_26 w =>
      Calls prog 29 #[t_26] w (Ret fun t_27 w =>
      Calls prog 15 #[t_25, t_27] w (Ret fun t_28 w =>
      efu prog (Instr.storeAt 23 h_20 t_28) w fun u_29 w =>
      pvv prog (binOp .add 3 i_22 (.int .i64 1)) w fun t_30 w =>
      again_23 [t_30] w))) <|
    ldv prog (Instr.loadAt 23 h_20) w fun t_31 w =>
    efu prog (Instr.storeAt 23 t_0 t_31) w fun u_32 w =>
    ∃ r_33, (do loadVar 23 (← asAddr t_0)).run prog w = .ok r_33 w ∧ K (.tuple #[r_33, (.int .i64 0)]) w) [(.int .i64 0)] w)
theorem B23_eq (password_p0 salt_p1 cost_p2 : Value) (w : World) (K : Value → World → Prop) : denFn prog Try.f23 T23 [password_p0, salt_p1, cost_p2] w K = B23 password_p0 salt_p1 cost_p2 w K := by kernel_rfl
theorem c23 {password_p0 salt_p1 cost_p2 : Value} {w : World} {K : Value → World → Prop} (h : B23 password_p0 salt_p1 cost_p2 w K) : Calls prog 23 #[password_p0, salt_p1, cost_p2] w (Ret K) :=
  denFn_calls Try.func23 T23_ok (Eq.mpr (B23_eq password_p0 salt_p1 cost_p2 w K) h)

-- 5 holdfast/holdfastlaw07.HashBlocks
def T5 : Ann := (.seq .none (.seq .none (.seq (.seq .none (.seq (.seq .none (.seq (.draw [(0, .eff), (1, .pure), (3, .pure), (4, .pure), (2, .load), (5, .eff), (6, .eff), (7, .pure), (8, .pure)]) .none)) .none)) (.seq .none (.seq .none (.seq (.draw [(0, .eff), (1, .pure), (3, .pure), (4, .pure), (2, .load), (5, .eff), (6, .eff), (7, .pure), (8, .pure)]) .none))))))
theorem T5_ok : chkFn prog Try.f5 T5 = true := by kernel_rfl
def B5 (key_p0 b_p1 : Value) (w : World) (K : Value → World → Prop) : Prop :=
  Calls prog 14 #[key_p0, b_p1] w (Ret fun t_0 w =>
  efv prog (Instr.alloc 23 true (.tuple #[])) w fun x_1 w =>
  efu prog (Instr.storeAt 23 x_1 t_0) w fun u_2 w =>
  pv prog (oBi .len #[24] 3 #[false] #[key_p0]) w fun t_3 w =>
  pvv prog (binOp .gtr 3 t_3 (.int .i64 64)) w fun t_4 w =>
  cd t_4 (
    Calls prog 11 #[key_p0] w (Ret fun t_5 w =>
    efv prog (Instr.alloc 23 true (.tuple #[])) w fun h_6 w =>
    efu prog (Instr.storeAt 23 h_6 t_5) w fun u_7 w =>
    dr w fun w =>
    Calls prog 9 #[] w (Ret fun t_8 w =>
    gate (some (t_8, true)) (fun K => pvv prog (Instr.sliceAt 23 h_6 none none none) w K) w fun t_9 w =>
    gate (some (t_8, true)) (fun K => K b_p1 w) w fun t_10 w =>
    bindS (vN (Instr.loadAt 23 x_1)) fun m_12 => gate (some (t_8, true)) (fun K => ldv prog (Instr.loadAt 23 x_1) w K) w fun t_11 w =>
    gate (some (t_8, true)) (fun K => Calls prog 14 #[t_9, t_10] w (Ret fun s_17 w => stay prog (some (t_8, true)) m_12 t_11 w <| K s_17 w)) w fun t_13 w =>
    gate (some (t_8, true)) (fun K => Calls prog 17 #[t_11, t_13] w (Ret fun s_16 w => K s_16 w)) w fun t_14 w =>
    pv prog (oPick t_8 t_14 (.bool false)) w fun t_15 w =>
    K t_15 w))) <|
  efv prog (Instr.makeSlice 24 (.int .i64 64) (.int .i64 64)) w fun t_19 w =>
  ef prog (oBi .copy #[24, 24] 3 #[false, false] #[t_19, key_p0]) w fun t_20 w =>
  dr w fun w =>
  Calls prog 9 #[] w (Ret fun t_21 w =>
  gate (some (t_21, true)) (fun K => K t_19 w) w fun t_22 w =>
  gate (some (t_21, true)) (fun K => K b_p1 w) w fun t_23 w =>
  bindS (vN (Instr.loadAt 23 x_1)) fun m_25 => gate (some (t_21, true)) (fun K => ldv prog (Instr.loadAt 23 x_1) w K) w fun t_24 w =>
  gate (some (t_21, true)) (fun K => Calls prog 14 #[t_22, t_23] w (Ret fun s_30 w => stay prog (some (t_21, true)) m_25 t_24 w <| K s_30 w)) w fun t_26 w =>
  gate (some (t_21, true)) (fun K => Calls prog 17 #[t_24, t_26] w (Ret fun s_29 w => K s_29 w)) w fun t_27 w =>
  pv prog (oPick t_21 t_27 (.bool false)) w fun t_28 w =>
  K t_28 w))
theorem B5_eq (key_p0 b_p1 : Value) (w : World) (K : Value → World → Prop) : denFn prog Try.f5 T5 [key_p0, b_p1] w K = B5 key_p0 b_p1 w K := by kernel_rfl
theorem c5 {key_p0 b_p1 : Value} {w : World} {K : Value → World → Prop} (h : B5 key_p0 b_p1 w K) : Calls prog 5 #[key_p0, b_p1] w (Ret K) :=
  denFn_calls Try.func5 T5_ok (Eq.mpr (B5_eq key_p0 b_p1 w K) h)

-- 24 holdfast/hash.rounds
def T24 : Ann := (.seq .none (.seq .none .none))
theorem T24_ok : chkFn prog Try.f24 T24 = true := by kernel_rfl
def B24 (w : World) (K : Value → World → Prop) : Prop :=
  pvv prog (Instr.build 62 #[(0, (.int .u32 1116352408)), (1, (.int .u32 1899447441)), (2, (.int .u32 3049323471)), (3, (.int .u32 3921009573)), (4, (.int .u32 961987163)), (5, (.int .u32 1508970993)), (6, (.int .u32 2453635748)), (7, (.int .u32 2870763221)), (8, (.int .u32 3624381080)), (9, (.int .u32 310598401)), (10, (.int .u32 607225278)), (11, (.int .u32 1426881987)), (12, (.int .u32 1925078388)), (13, (.int .u32 2162078206)), (14, (.int .u32 2614888103)), (15, (.int .u32 3248222580)), (16, (.int .u32 3835390401)), (17, (.int .u32 4022224774)), (18, (.int .u32 264347078)), (19, (.int .u32 604807628)), (20, (.int .u32 770255983)), (21, (.int .u32 1249150122)), (22, (.int .u32 1555081692)), (23, (.int .u32 1996064986)), (24, (.int .u32 2554220882)), (25, (.int .u32 2821834349)), (26, (.int .u32 2952996808)), (27, (.int .u32 3210313671)), (28, (.int .u32 3336571891)), (29, (.int .u32 3584528711)), (30, (.int .u32 113926993)), (31, (.int .u32 338241895)), (32, (.int .u32 666307205)), (33, (.int .u32 773529912)), (34, (.int .u32 1294757372)), (35, (.int .u32 1396182291)), (36, (.int .u32 1695183700)), (37, (.int .u32 1986661051)), (38, (.int .u32 2177026350)), (39, (.int .u32 2456956037)), (40, (.int .u32 2730485921)), (41, (.int .u32 2820302411)), (42, (.int .u32 3259730800)), (43, (.int .u32 3345764771)), (44, (.int .u32 3516065817)), (45, (.int .u32 3600352804)), (46, (.int .u32 4094571909)), (47, (.int .u32 275423344)), (48, (.int .u32 430227734)), (49, (.int .u32 506948616)), (50, (.int .u32 659060556)), (51, (.int .u32 883997877)), (52, (.int .u32 958139571)), (53, (.int .u32 1322822218)), (54, (.int .u32 1537002063)), (55, (.int .u32 1747873779)), (56, (.int .u32 1955562222)), (57, (.int .u32 2024104815)), (58, (.int .u32 2227730452)), (59, (.int .u32 2361852424)), (60, (.int .u32 2428436474)), (61, (.int .u32 2756734187)), (62, (.int .u32 3204031479)), (63, (.int .u32 3329325298))]) w fun t_0 w =>
  efv prog (Instr.box 62 t_0) w fun t_1 w =>
  K t_1 w
theorem B24_eq (w : World) (K : Value → World → Prop) : denFn prog Try.f24 T24 [] w K = B24  w K := by kernel_rfl
theorem c24 {w : World} {K : Value → World → Prop} (h : B24  w K) : Calls prog 24 #[] w (Ret K) :=
  denFn_calls Try.func24 T24_ok (Eq.mpr (B24_eq  w K) h)

-- 27 holdfast/holdfastref07.constants
def T27 : Ann := (.seq .none (.seq .none .none))
theorem T27_ok : chkFn prog Try.f27 T27 = true := by kernel_rfl
def B27 (w : World) (K : Value → World → Prop) : Prop :=
  efv prog (Instr.buildSlice 49 64 #[(0, (.int .u32 1116352408)), (1, (.int .u32 1899447441)), (2, (.int .u32 3049323471)), (3, (.int .u32 3921009573)), (4, (.int .u32 961987163)), (5, (.int .u32 1508970993)), (6, (.int .u32 2453635748)), (7, (.int .u32 2870763221)), (8, (.int .u32 3624381080)), (9, (.int .u32 310598401)), (10, (.int .u32 607225278)), (11, (.int .u32 1426881987)), (12, (.int .u32 1925078388)), (13, (.int .u32 2162078206)), (14, (.int .u32 2614888103)), (15, (.int .u32 3248222580)), (16, (.int .u32 3835390401)), (17, (.int .u32 4022224774)), (18, (.int .u32 264347078)), (19, (.int .u32 604807628)), (20, (.int .u32 770255983)), (21, (.int .u32 1249150122)), (22, (.int .u32 1555081692)), (23, (.int .u32 1996064986)), (24, (.int .u32 2554220882)), (25, (.int .u32 2821834349)), (26, (.int .u32 2952996808)), (27, (.int .u32 3210313671)), (28, (.int .u32 3336571891)), (29, (.int .u32 3584528711)), (30, (.int .u32 113926993)), (31, (.int .u32 338241895)), (32, (.int .u32 666307205)), (33, (.int .u32 773529912)), (34, (.int .u32 1294757372)), (35, (.int .u32 1396182291)), (36, (.int .u32 1695183700)), (37, (.int .u32 1986661051)), (38, (.int .u32 2177026350)), (39, (.int .u32 2456956037)), (40, (.int .u32 2730485921)), (41, (.int .u32 2820302411)), (42, (.int .u32 3259730800)), (43, (.int .u32 3345764771)), (44, (.int .u32 3516065817)), (45, (.int .u32 3600352804)), (46, (.int .u32 4094571909)), (47, (.int .u32 275423344)), (48, (.int .u32 430227734)), (49, (.int .u32 506948616)), (50, (.int .u32 659060556)), (51, (.int .u32 883997877)), (52, (.int .u32 958139571)), (53, (.int .u32 1322822218)), (54, (.int .u32 1537002063)), (55, (.int .u32 1747873779)), (56, (.int .u32 1955562222)), (57, (.int .u32 2024104815)), (58, (.int .u32 2227730452)), (59, (.int .u32 2361852424)), (60, (.int .u32 2428436474)), (61, (.int .u32 2756734187)), (62, (.int .u32 3204031479)), (63, (.int .u32 3329325298))]) w fun t_0 w =>
  K t_0 w
theorem B27_eq (w : World) (K : Value → World → Prop) : denFn prog Try.f27 T27 [] w K = B27  w K := by kernel_rfl
theorem c27 {w : World} {K : Value → World → Prop} (h : B27  w K) : Calls prog 27 #[] w (Ret K) :=
  denFn_calls Try.func27 T27_ok (Eq.mpr (B27_eq  w K) h)

-- 3 holdfast/holdfastlaw07.HashParts
def T3 : Ann := (.seq .none (.seq .none (.seq (.seq .none (.block (.loop 131040 [5, 6] (.seq (.seq .none (.seq .none .none)) (.seq (.block .none) .none))))) (.seq .none (.seq .none .none)))))
theorem T3_ok : chkFn prog Try.f3 T3 = true := by kernel_rfl
def B3 (h_p0 b_p1 : Value) (w : World) (K : Value → World → Prop) : Prop :=
  efv prog (Instr.box 23 h_p0) w fun h_0 w =>
  lp (fun σ w again_3 => pop σ fun all_1 σ => pop σ fun i_2 σ => fin σ <|
    pvv prog (binOp .lss 3 i_2 (.int .i64 32)) w fun t_4 w =>
    cd t_4 (
      pvv prog (Instr.indexAt 23 h_0 i_2) w fun t_5 w =>
      ldv prog (Instr.loadAt 5 t_5) w fun t_6 w =>
      efv prog (Instr.buildSlice 24 1 #[(0, t_6)]) w fun t_7 w =>
      ef prog (oBi .append #[24, 24] 24 #[false, false] #[all_1, t_7]) w fun t_8 w =>
      pvv prog (binOp .add 3 i_2 (.int .i64 1)) w fun t_9 w =>
      again_3 [t_8, t_9] w) <|
    ef prog (oBi .append #[24, 24] 24 #[false, false] #[all_1, b_p1]) w fun t_10 w =>
    Calls prog 9 #[] w (Ret fun t_11 w =>
    gate (some (t_11, true)) (fun K => ldv prog (Instr.loadAt 23 h_0) w K) w fun t_12 w =>
    gate (some (t_11, true)) (fun K => K b_p1 w) w fun t_13 w =>
    gate (some (t_11, true)) (fun K => Calls prog 10 #[t_12, t_13] w (Ret K)) w fun t_14 w =>
    gate (some (t_11, true)) (fun K => K t_10 w) w fun t_15 w =>
    gate (some (t_11, true)) (fun K => Calls prog 11 #[t_15] w (Ret K)) w fun t_16 w =>
    gate (some (t_11, true)) (fun K => pvv prog (oEq .eql 23 (.tmp 24) (.tmp 26) t_14 t_16) w K) w fun t_17 w =>
    pv prog (oPick t_11 t_17 (.bool false)) w fun t_18 w =>
    K t_18 w)) [(.slice none 0 0), (.int .i64 0)] w
theorem B3_eq (h_p0 b_p1 : Value) (w : World) (K : Value → World → Prop) : denFn prog Try.f3 T3 [h_p0, b_p1] w K = B3 h_p0 b_p1 w K := by kernel_rfl
theorem c3 {h_p0 b_p1 : Value} {w : World} {K : Value → World → Prop} (h : B3 h_p0 b_p1 w K) : Calls prog 3 #[h_p0, b_p1] w (Ret K) :=
  denFn_calls Try.func3 T3_ok (Eq.mpr (B3_eq h_p0 b_p1 w K) h)

-- 7 holdfast/holdfastlaw07.HashIterates
def T7 : Ann := (.seq .none (.seq .none (.seq .none (.seq .none .none))))
theorem T7_ok : chkFn prog Try.f7 T7 = true := by kernel_rfl
def B7 (password_p0 salt_p1 cost_p2 : Value) (w : World) (K : Value → World → Prop) : Prop :=
  Calls prog 22 #[password_p0, salt_p1, cost_p2] w (Ret fun t_0 w =>
  pvv prog (Instr.extract t_0 0) w fun t_1 w =>
  pvv prog (Instr.extract t_0 1) w fun t_2 w =>
  efv prog (Instr.alloc 23 true (.tuple #[])) w fun a_3 w =>
  efu prog (Instr.storeAt 23 a_3 t_1) w fun u_4 w =>
  Calls prog 23 #[password_p0, salt_p1, cost_p2] w (Ret fun t_5 w =>
  pvv prog (Instr.extract t_5 0) w fun t_6 w =>
  pvv prog (Instr.extract t_5 1) w fun t_7 w =>
  efv prog (Instr.alloc 23 true (.tuple #[])) w fun b_8 w =>
  efu prog (Instr.storeAt 23 b_8 t_6) w fun u_9 w =>
  Calls prog 9 #[] w (Ret fun t_10 w =>
  gate (some (t_10, true)) (fun K => ldv prog (Instr.loadAt 23 a_3) w K) w fun t_11 w =>
  gate (some (t_10, true)) (fun K => ldv prog (Instr.loadAt 23 b_8) w K) w fun t_12 w =>
  gate (some (t_10, true)) (fun K => pvv prog (oEq .eql 23 (.tmp 27) (.tmp 28) t_11 t_12) w K) w fun t_13 w =>
  pv prog (oPick t_10 t_13 (.bool false)) w fun t_14 w =>
  gate (some (t_14, true)) (fun K => K t_2 w) w fun t_15 w =>
  gate (some (t_14, true)) (fun K => K t_7 w) w fun t_16 w =>
  gate (some (t_14, true)) (fun K => pvv prog (oEq .eql 33 (.tmp 32) (.tmp 33) t_15 t_16) w K) w fun t_17 w =>
  pv prog (oPick t_14 t_17 (.bool false)) w fun t_18 w =>
  K t_18 w)))
theorem B7_eq (password_p0 salt_p1 cost_p2 : Value) (w : World) (K : Value → World → Prop) : denFn prog Try.f7 T7 [password_p0, salt_p1, cost_p2] w K = B7 password_p0 salt_p1 cost_p2 w K := by kernel_rfl
theorem c7 {password_p0 salt_p1 cost_p2 : Value} {w : World} {K : Value → World → Prop} (h : B7 password_p0 salt_p1 cost_p2 w K) : Calls prog 7 #[password_p0, salt_p1, cost_p2] w (Ret K) :=
  denFn_calls Try.func7 T7_ok (Eq.mpr (B7_eq password_p0 salt_p1 cost_p2 w K) h)

-- 17 holdfast/hash.Same
def T17 : Ann := (.seq .none (.seq .none (.seq (.seq .none (.block (.loop 1048544 [5, 7] (.seq .none (.seq (.seq .none .none) (.seq (.block (.seq .none (.draw [(0, .pure), (1, .pure), (2, .pure), (4, .pure), (5, .pure), (3, .load), (6, .load), (7, .pure), (8, .pure), (9, .pure)]))) .none)))))) (.seq .none .none))))
theorem T17_ok : chkFn prog Try.f17 T17 = true := by kernel_rfl
def B17 (a_p0 b_p1 : Value) (w : World) (K : Value → World → Prop) : Prop :=
  efv prog (Instr.box 23 a_p0) w fun a_0 w =>
  efv prog (Instr.box 23 b_p1) w fun b_1 w =>
  lp (fun σ w again_4 => pop σ fun d_2 σ => pop σ fun t_3 σ => fin σ <|
    pvv prog (binOp .lss 3 t_3 (.int .i64 32)) w fun t_5 w =>
    cd t_5 (
      dr w fun w =>
      pvv prog (Instr.indexAt 23 a_0 t_3) w fun t_6 w =>
      pvv prog (Instr.indexAt 23 b_1 t_3) w fun t_7 w =>
      bindS (vN (Instr.loadAt 5 t_6)) fun m_9 => ldv prog (Instr.loadAt 5 t_6) w fun t_8 w =>
      bindS (vN (Instr.loadAt 5 t_7)) fun m_11 => ldv prog (Instr.loadAt 5 t_7) w fun t_10 w =>
      pvv prog (binOp .xor 5 t_8 t_10) w fun t_12 w =>
      pvv prog (binOp .or 5 d_2 t_12) w fun t_13 w =>
      pvv prog (binOp .add 3 t_3 (.int .i64 1)) w fun t_14 w =>
      again_4 [t_13, t_14] w) <|
    pvv prog (oEq .eql 5 (.tmp 20) (.const (.int .u8 0)) d_2 (.int .u8 0)) w fun t_15 w =>
    K t_15 w) [(.int .u8 0), (.int .i64 0)] w
theorem B17_eq (a_p0 b_p1 : Value) (w : World) (K : Value → World → Prop) : denFn prog Try.f17 T17 [a_p0, b_p1] w K = B17 a_p0 b_p1 w K := by kernel_rfl
theorem c17 {a_p0 b_p1 : Value} {w : World} {K : Value → World → Prop} (h : B17 a_p0 b_p1 w K) : Calls prog 17 #[a_p0, b_p1] w (Ret K) :=
  denFn_calls Try.func17 T17_ok (Eq.mpr (B17_eq a_p0 b_p1 w K) h)

-- 35 (*strings.Builder).copyCheck
def T35 : Ann := (.seq .none (.seq .none (.seq .none (.seq .none .none))))
theorem T35_ok : chkFn prog Try.f35 T35 = true := by kernel_rfl
def B35 (b_p0 : Value) (w : World) (K : Value → World → Prop) : Prop :=
  pv prog (oNil b_p0) w fun t_0 w =>
  pvv prog (Instr.fieldAt 57 t_0 0) w fun t_1 w =>
  ldv prog (Instr.loadAt 55 t_1) w fun t_2 w =>
  pvv prog (oEq .eql 55 (.tmp 5) (.const (.pointer none)) t_2 (.pointer none)) w fun t_3 w =>
  cd t_3 (
    efv prog (convert 55 64 b_p0) w fun t_4 w =>
    ef prog (oCall (.func (.func 37) #[] #[]) #[t_4]) w fun t_5 w =>
    efv prog (convert 64 55 t_5) w fun t_6 w =>
    pv prog (oNil b_p0) w fun t_7 w =>
    pvv prog (Instr.fieldAt 57 t_7 0) w fun t_8 w =>
    efu prog (Instr.storeAt 55 t_8 t_6) w fun u_9 w =>
    K (.tuple #[]) w) <|
  pv prog (oNil b_p0) w fun t_10 w =>
  pvv prog (Instr.fieldAt 57 t_10 0) w fun t_11 w =>
  ldv prog (Instr.loadAt 55 t_11) w fun t_12 w =>
  pvv prog (oEq .neq 55 (.tmp 17) (.tmp 18) t_12 b_p0) w fun t_13 w =>
  cd t_13 (
    False) <|
  K (.tuple #[]) w
theorem B35_eq (b_p0 : Value) (w : World) (K : Value → World → Prop) : denFn prog Try.f35 T35 [b_p0] w K = B35 b_p0 w K := by kernel_rfl
theorem c35 {b_p0 : Value} {w : World} {K : Value → World → Prop} (h : B35 b_p0 w K) : Calls prog 35 #[b_p0] w (Ret K) :=
  denFn_calls Try.func35 T35_ok (Eq.mpr (B35_eq b_p0 w K) h)

-- 29 holdfast/holdfastref07.bytesOf
def T29 : Ann := (.seq .none (.seq .none (.seq (.seq .none (.block (.loop 32760 [3, 4] (.seq (.seq .none (.seq .none .none)) (.seq (.block .none) .none))))) (.seq .none .none))))
theorem T29_ok : chkFn prog Try.f29 T29 = true := by kernel_rfl
def B29 (h_p0 : Value) (w : World) (K : Value → World → Prop) : Prop :=
  efv prog (Instr.box 23 h_p0) w fun h_0 w =>
  lp (fun σ w again_3 => pop σ fun out_1 σ => pop σ fun i_2 σ => fin σ <|
    pvv prog (binOp .lss 3 i_2 (.int .i64 32)) w fun t_4 w =>
    cd t_4 (
      pvv prog (Instr.indexAt 23 h_0 i_2) w fun t_5 w =>
      ldv prog (Instr.loadAt 5 t_5) w fun t_6 w =>
      efv prog (Instr.buildSlice 24 1 #[(0, t_6)]) w fun t_7 w =>
      ef prog (oBi .append #[24, 24] 24 #[false, false] #[out_1, t_7]) w fun t_8 w =>
      pvv prog (binOp .add 3 i_2 (.int .i64 1)) w fun t_9 w =>
      again_3 [t_8, t_9] w) <|
    K out_1 w) [(.slice none 0 0), (.int .i64 0)] w
theorem B29_eq (h_p0 : Value) (w : World) (K : Value → World → Prop) : denFn prog Try.f29 T29 [h_p0] w K = B29 h_p0 w K := by kernel_rfl
theorem c29 {h_p0 : Value} {w : World} {K : Value → World → Prop} (h : B29 h_p0 w K) : Calls prog 29 #[h_p0] w (Ret K) :=
  denFn_calls Try.func29 T29_ok (Eq.mpr (B29_eq h_p0 w K) h)

-- 28 holdfast/holdfastref07.turn
def T28 : Ann := (.seq .none (.seq (.draw [(0, .pure), (1, .pure), (2, .pure), (3, .pure), (4, .pure), (5, .pure), (6, .pure), (7, .pure), (8, .pure)]) .none))
theorem T28_ok : chkFn prog Try.f28 T28 = true := by kernel_rfl
def B28 (x_p0 n_p1 : Value) (w : World) (K : Value → World → Prop) : Prop :=
  dr w fun w =>
  pvv prog (binOp .shr 41 x_p0 n_p1) w fun t_0 w =>
  pvv prog (binOp .sub 3 (.int .i64 32) n_p1) w fun t_1 w =>
  pvv prog (binOp .shl 41 x_p0 t_1) w fun t_2 w =>
  pvv prog (binOp .or 41 t_0 t_2) w fun t_3 w =>
  K t_3 w
theorem B28_eq (x_p0 n_p1 : Value) (w : World) (K : Value → World → Prop) : denFn prog Try.f28 T28 [x_p0, n_p1] w K = B28 x_p0 n_p1 w K := by kernel_rfl
theorem c28 {x_p0 n_p1 : Value} {w : World} {K : Value → World → Prop} (h : B28 x_p0 n_p1 w K) : Calls prog 28 #[x_p0, n_p1] w (Ret K) :=
  denFn_calls Try.func28 T28_ok (Eq.mpr (B28_eq x_p0 n_p1 w K) h)

-- 26 bytes.Clone
def T26 : Ann := (.seq .none (.seq (.seq .none (.seq (.seq .none .none) .none)) (.seq .none .none)))
theorem T26_ok : chkFn prog Try.f26 T26 = true := by kernel_rfl
def B26 (b_p0 : Value) (w : World) (K : Value → World → Prop) : Prop :=
  pvv prog (oEq .eql 24 (.tmp 3) (.const (.slice none 0 0)) b_p0 (.slice none 0 0)) w fun t_0 w =>
  cd t_0 (
    K (.slice none 0 0) w) <|
  efv prog (Instr.buildSlice 24 0 #[]) w fun t_1 w =>
  ef prog (oBi .append #[24, 24] 24 #[false, false] #[t_1, b_p0]) w fun t_2 w =>
  K t_2 w
theorem B26_eq (b_p0 : Value) (w : World) (K : Value → World → Prop) : denFn prog Try.f26 T26 [b_p0] w K = B26 b_p0 w K := by kernel_rfl
theorem c26 {b_p0 : Value} {w : World} {K : Value → World → Prop} (h : B26 b_p0 w K) : Calls prog 26 #[b_p0] w (Ret K) :=
  denFn_calls Try.func26 T26_ok (Eq.mpr (B26_eq b_p0 w K) h)

-- 12 holdfast/holdfastref01.Copy
def T12 : Ann := (.seq .none (.seq .none (.seq .none .none)))
theorem T12_ok : chkFn prog Try.f12 T12 = true := by kernel_rfl
def B12 (b_p0 : Value) (w : World) (K : Value → World → Prop) : Prop :=
  ef prog (oBi .append #[24, 24] 24 #[false, false] #[(.slice none 0 0), b_p0]) w fun t_0 w =>
  K t_0 w
theorem B12_eq (b_p0 : Value) (w : World) (K : Value → World → Prop) : denFn prog Try.f12 T12 [b_p0] w K = B12 b_p0 w K := by kernel_rfl
theorem c12 {b_p0 : Value} {w : World} {K : Value → World → Prop} (h : B12 b_p0 w K) : Calls prog 12 #[b_p0] w (Ret K) :=
  denFn_calls Try.func12 T12_ok (Eq.mpr (B12_eq b_p0 w K) h)


end Go.Proofs.Ytjmgkfpjaelilaa
