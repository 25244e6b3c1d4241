import Derived.Test.YtmnaalpjhkkglaaDoorPI
set_option linter.all false
set_option maxRecDepth 100000
namespace Go.Proofs.YtmnaalpjhkkglaaDoor
open Go Hold
-- 4 holdfast/holdfasttop.TopNoted
def T4 : Ann := (.seq .none (.seq .none (.seq (.seq .none (.seq (.seq .none .none) .none)) (.seq .none (.seq (.seq .none (.block (.loop 332306998946228968225951765053374436 [5, 6] (.seq (.seq .none (.seq .none .none)) (.meet 332306998946228968225951747890282404 [5] (.block (.seq .none (.seq .none (.seq .none (.meet 302231452651857479991808 [9] (.seq .none (.block (.seq .none (.seq .none (.meet 258254417031933722624 [65] (.seq .none (.seq .none .none)) (.seq (.draw [.op 0 .pure, .op 2 .pure, .op 3 .pure, .op 4 .pure, .op 5 .pure, .op 1 .load, .op 6 .load, .op 7 .pure, .op 8 .pure, .op 9 .eff, .op 10 .pure]) .none)))))) (.meet 2475577847115856892504575012 [5] (.seq .none (.seq (.seq (.seq .none (.seq .none (.seq (.seq .none .none) .none))) .none) .none)) (.seq .none (.seq .none (.seq (.seq .none (.seq .none (.seq (.seq .none .none) .none))) .none))))))))) .none))))) (.seq .none .none))))))
theorem T4_ok : chkFn prog Tryd.f4 T4 = true := by kernel_rfl
def B4 (l_p0 : Value) (w : World) (K : Value → World → Prop) : Prop :=
  Calls prog 12 #[] w (Ret fun t_0 w =>
  Calls prog 13 #[] w (Ret fun t_1 w =>
  pvv prog (oEq .eql 41 (.tmp 18) (.const (.pointer none)) t_0 (.pointer none)) w fun t_2 w =>
  gate (some (t_2, false)) (fun K => K t_1 w) w fun t_3 w =>
  gate (some (t_2, false)) (fun K => pvv prog (oEq .eql 43 (.tmp 21) (.const (.pointer none)) t_3 (.pointer none)) w K) w fun t_4 w =>
  pv prog (oPick t_2 (.bool true) t_4) w fun t_5 w =>
  cd t_5 (
    K (.bool false) w) <|
  lp (fun σ w again_8 => pop σ fun done_6 σ => pop σ fun i_7 σ => fin σ <|
    pv prog (oBi .len #[25] 3 #[false] #[l_p0]) w fun t_9 w =>
    pvv prog (binOp .lss 3 i_7 t_9) w fun t_10 w =>
    gate (some (t_10, true)) (fun K => K i_7 w) w fun t_11 w =>
    gate (some (t_10, true)) (fun K => pvv prog (binOp .lss 3 t_11 (.int .i64 60)) w K) w fun t_12 w =>
    pv prog (oPick t_10 t_12 (.bool false)) w fun t_13 w =>
    cd t_13 (
      jn (fun σ w => pop σ fun done_14 σ => fin σ <|
        pvv prog (binOp .add 3 i_7 (.int .i64 1)) w fun t_15 w =>
        again_8 [done_14, t_15] w) fun k_16 =>
      pvv prog (Instr.indexAt 25 l_p0 i_7) w fun t_17 w =>
      ldv prog (Instr.loadAt 5 t_17) w fun t_18 w =>
      pvv prog (binOp .rem 5 t_18 (.int .u8 5)) w fun t_19 w =>
      pvv prog (binOp .add 5 (.int .u8 97) t_19) w fun t_20 w =>
      efv prog (Instr.buildSlice 25 1 #[(0, t_20)]) w fun t_21 w =>
      efv prog (convert 25 9 t_21) w fun t_22 w =>
      pvv prog (Instr.indexAt 25 l_p0 i_7) w fun t_23 w =>
      ldv prog (Instr.loadAt 5 t_23) w fun t_24 w =>
      pvv prog (binOp .rem 5 t_24 (.int .u8 3)) w fun t_25 w =>
      pvv prog (binOp .add 5 (.int .u8 117) t_25) w fun t_26 w =>
      efv prog (Instr.buildSlice 25 1 #[(0, t_26)]) w fun t_27 w =>
      efv prog (convert 25 9 t_27) w fun t_28 w =>
      pvv prog (Instr.build 46 #[(0, (.string ⟨#[116]⟩)), (1, t_28)]) w fun t_29 w =>
      efv prog (Instr.alloc 46 true (.tuple #[])) w fun o_30 w =>
      efu prog (Instr.storeAt 46 o_30 t_29) w fun u_31 w =>
      jn (fun σ w => pop σ fun e_32 σ => fin σ <|
        jn (fun σ w => pop σ fun done_33 σ => fin σ <|
          ldv prog (Instr.loadAt 46 o_30) w fun t_34 w =>
          Calls prog 18 #[t_0, t_34, t_22] w (Ret fun t_35 w =>
          pvv prog (Instr.extract t_35 0) w fun t_36 w =>
          pvv prog (Instr.extract t_35 1) w fun t_37 w =>
          efv prog (Instr.alloc 53 true (.tuple #[])) w fun a_38 w =>
          efu prog (Instr.storeAt 53 a_38 t_36) w fun u_39 w =>
          pvv prog (oEq .eql 28 (.tmp 98) (.const (.int .i64 0)) t_37 (.int .i64 0)) w fun t_40 w =>
          cd t_40 (
            Calls prog 19 #[t_0, (.string ⟨#[116]⟩), t_22] w (Ret fun t_41 w =>
            pvv prog (Instr.extract t_41 0) w fun t_42 w =>
            pvv prog (Instr.extract t_41 1) w fun t_43 w =>
            efv prog (Instr.alloc 50 true (.tuple #[])) w fun x_44 w =>
            efu prog (Instr.storeAt 50 x_44 t_42) w fun u_45 w =>
            pvv prog (oEq .neq 28 (.tmp 106) (.const (.int .i64 0)) t_43 (.int .i64 0)) w fun t_46 w =>
            gate (some (t_46, false)) (fun K => pvv prog (Instr.fieldAt 53 a_38 2) w K) w fun t_47 w =>
            gate (some (t_46, false)) (fun K => ldv prog (Instr.loadAt 48 t_47) w K) w fun t_48 w =>
            gate (some (t_46, false)) (fun K => pvv prog (Instr.fieldAt 50 x_44 3) w K) w fun t_49 w =>
            gate (some (t_46, false)) (fun K => ldv prog (Instr.loadAt 48 t_49) w K) w fun t_50 w =>
            gate (some (t_46, false)) (fun K => pvv prog (binOp .and 48 t_48 t_50) w K) w fun t_51 w =>
            gate (some (t_46, false)) (fun K => pvv prog (Instr.fieldAt 53 a_38 2) w K) w fun t_52 w =>
            gate (some (t_46, false)) (fun K => ldv prog (Instr.loadAt 48 t_52) w K) w fun t_53 w =>
            gate (some (t_46, false)) (fun K => pvv prog (oEq .neq 48 (.tmp 113) (.tmp 115) t_51 t_53) w K) w fun t_54 w =>
            pv prog (oPick t_46 (.bool true) t_54) w fun t_55 w =>
            cd t_55 (
              K (.bool false) w) <|
            k_16 [done_33] w)) <|
          k_16 [done_33] w)) fun k_56 =>
        pvv prog (oEq .eql 28 (.tmp 78) (.const (.int .i64 0)) e_32 (.int .i64 0)) w fun t_57 w =>
        cd t_57 (
          Calls prog 17 #[t_1, i_7, (.string ⟨#[103, 114, 97, 110, 116]⟩), t_22] w (Ret fun t_58 w =>
          pvv prog (Instr.extract t_58 0) w fun t_59 w =>
          pvv prog (Instr.extract t_58 1) w fun t_60 w =>
          efv prog (Instr.alloc 56 true (.tuple #[])) w fun t_61 w =>
          efu prog (Instr.storeAt 56 t_61 t_59) w fun u_62 w =>
          pvv prog (oEq .neq 28 (.tmp 87) (.const (.int .i64 0)) t_60 (.int .i64 0)) w fun t_63 w =>
          cd t_63 (
            K (.bool false) w) <|
          pvv prog (binOp .add 3 done_6 (.int .i64 1)) w fun t_64 w =>
          k_56 [t_64] w)) <|
        k_56 [done_6] w) fun k_65 =>
      pvv prog (Instr.indexAt 25 l_p0 i_7) w fun t_66 w =>
      ldv prog (Instr.loadAt 5 t_66) w fun t_67 w =>
      pvv prog (binOp .rem 5 t_67 (.int .u8 4)) w fun t_68 w =>
      pvv prog (oEq .eql 5 (.tmp 55) (.const (.int .u8 0)) t_68 (.int .u8 0)) w fun t_69 w =>
      cd t_69 (
        pvv prog (Instr.build 50 #[(0, (.string ⟨#[116]⟩)), (1, t_22), (3, (.int .u8 15))]) w fun t_70 w =>
        Calls prog 14 #[t_0, t_70] w (Ret fun t_71 w =>
        k_65 [t_71] w)) <|
      jn (fun σ w => pop σ fun t_72 σ => fin σ <|
        cd t_72 (
          dr w fun w =>
          pvv prog (Instr.indexAt 25 l_p0 i_7) w fun t_73 w =>
          bindS (vN (Instr.loadAt 46 o_30)) fun m_75 => ldv prog (Instr.loadAt 46 o_30) w fun t_74 w =>
          bindS (vN (Instr.loadAt 5 t_73)) fun m_77 => ldv prog (Instr.loadAt 5 t_73) w fun t_76 w =>
          pvv prog (binOp .rem 5 t_76 (.int .u8 16)) w fun t_78 w =>
          pvv prog (Instr.build 53 #[(0, t_74), (1, t_22), (2, t_78)]) w fun t_79 w =>
          Calls prog 15 #[t_0, t_79] w (Ret fun t_80 w => stay prog none m_77 t_76 w <| stay prog none m_75 t_74 w <| 
          k_65 [t_80] w)) <|
        Calls prog 16 #[t_0, (.string ⟨#[116]⟩), t_22] w (Ret fun t_82 w =>
        k_65 [t_82] w)) fun k_83 =>
      pvv prog (oEq .eql 5 (.tmp 55) (.const (.int .u8 1)) t_68 (.int .u8 1)) w fun t_84 w =>
      cd t_84 (
        k_83 [t_84] w) <|
      pvv prog (oEq .eql 5 (.tmp 55) (.const (.int .u8 2)) t_68 (.int .u8 2)) w fun t_85 w =>
      k_83 [t_85] w) <|
    Calls prog 20 #[t_1] w (Ret fun t_86 w =>
    pvv prog (oEq .eql 3 (.tmp 119) (.tmp 120) t_86 done_6) w fun t_87 w =>
    gate (some (t_87, true)) (fun K => K t_1 w) w fun t_88 w =>
    gate (some (t_87, true)) (fun K => Calls prog 21 #[t_88] w (Ret K)) w fun t_89 w =>
    gate (some (t_87, true)) (fun K => pvv prog (oEq .eql 28 (.tmp 124) (.const (.int .i64 0)) t_89 (.int .i64 0)) w K) w fun t_90 w =>
    pv prog (oPick t_87 t_90 (.bool false)) w fun t_91 w =>
    gate (some (t_91, true)) (fun K => K t_1 w) w fun t_92 w =>
    gate (some (t_91, true)) (fun K => Calls prog 22 #[t_92] w (Ret K)) w fun t_93 w =>
    gate (some (t_91, true)) (fun K => pv prog (oBi .len #[65] 3 #[false] #[t_93]) w K) w fun t_94 w =>
    gate (some (t_91, true)) (fun K => K done_6 w) w fun t_95 w =>
    gate (some (t_91, true)) (fun K => pvv prog (oEq .eql 3 (.tmp 130) (.tmp 131) t_94 t_95) w K) w fun t_96 w =>
    pv prog (oPick t_91 t_96 (.bool false)) w fun t_97 w =>
    K t_97 w)) [(.int .i64 0), (.int .i64 0)] w))
theorem B4_eq (l_p0 : Value) (w : World) (K : Value → World → Prop) : denFn prog Tryd.f4 T4 [l_p0] w K = B4 l_p0 w K := by kernel_rfl
theorem c4 {l_p0 : Value} {w : World} {K : Value → World → Prop} (h : B4 l_p0 w K) : Calls prog 4 #[l_p0] w (Ret K) :=
  denFn_calls Tryd.func4 T4_ok (Eq.mpr (B4_eq l_p0 w K) h)

-- 17 (*holdfast/audit.Chain).Add
def T17 : Ann := (.seq .none (.seq (.block (.seq .none (.seq (.seq .none .none) (.seq .none (.seq (.seq .none .none) (.seq .none (.seq (.seq .none .none) (.seq .none (.seq (.seq .none .none) (.seq .none (.seq (.seq .none .none) .none))))))))))) (.seq .none (.seq (.draw [.op 0 .pure, .op 1 .pure, .op 2 .pure, .op 3 .pure, .op 5 .pure, .op 6 .pure, .op 7 .pure, .op 10 .pure, .op 11 .pure, .op 12 .pure, .op 4 .load, .op 8 .load, .op 9 .pure, .op 13 .load, .op 14 .pure, .op 15 .pure, .op 16 .load, .op 17 .eff, .op 18 .eff, .op 19 .pure, .op 20 .pure, .op 21 .eff]) (.seq (.draw [.op 0 .pure, .op 1 .pure, .op 2 .pure, .op 3 .pure, .op 4 .load, .op 5 .load, .op 6 .eff, .op 7 .pure, .op 8 .pure, .op 9 .eff]) (.seq .none (.seq .none .none)))))))
theorem T17_ok : chkFn prog Tryd.f17 T17 = true := by kernel_rfl
def B17 (c_p0 at_p1 what_p2 who_p3 : Value) (w : World) (K : Value → World → Prop) : Prop :=
  efv prog (Instr.alloc 56 true (.tuple #[])) w fun t_0 w =>
  pvv prog (oEq .eql 43 (.tmp 12) (.const (.pointer none)) c_p0 (.pointer none)) w fun t_1 w =>
  cd t_1 (
    pvv prog (Instr.build 56 #[]) w fun t_2 w =>
    efu prog (Instr.storeAt 56 t_0 t_2) w fun u_3 w =>
    ∃ r_4, (do loadVar 56 (← asAddr t_0)).run prog w = .ok r_4 w ∧ K (.tuple #[r_4, (.int .i64 1)]) w) <|
  pvv prog (binOp .lss 3 at_p1 (.int .i64 0)) w fun t_5 w =>
  gate (some (t_5, false)) (fun K => K at_p1 w) w fun t_6 w =>
  gate (some (t_5, false)) (fun K => pvv prog (binOp .gtr 3 t_6 (.int .i64 1099511627776)) w K) w fun t_7 w =>
  pv prog (oPick t_5 (.bool true) t_7) w fun t_8 w =>
  cd t_8 (
    pvv prog (Instr.build 56 #[]) w fun t_9 w =>
    efu prog (Instr.storeAt 56 t_0 t_9) w fun u_10 w =>
    ∃ r_11, (do loadVar 56 (← asAddr t_0)).run prog w = .ok r_11 w ∧ K (.tuple #[r_11, (.int .i64 2)]) w) <|
  pv prog (oBi .len #[9] 3 #[false] #[what_p2]) w fun t_12 w =>
  pvv prog (binOp .gtr 3 t_12 (.int .i64 12)) w fun t_13 w =>
  gate (some (t_13, false)) (fun K => K who_p3 w) w fun t_14 w =>
  gate (some (t_13, false)) (fun K => pv prog (oBi .len #[9] 3 #[false] #[t_14]) w K) w fun t_15 w =>
  gate (some (t_13, false)) (fun K => pvv prog (binOp .gtr 3 t_15 (.int .i64 30)) w K) w fun t_16 w =>
  pv prog (oPick t_13 (.bool true) t_16) w fun t_17 w =>
  cd t_17 (
    pvv prog (Instr.build 56 #[]) w fun t_18 w =>
    efu prog (Instr.storeAt 56 t_0 t_18) w fun u_19 w =>
    ∃ r_20, (do loadVar 56 (← asAddr t_0)).run prog w = .ok r_20 w ∧ K (.tuple #[r_20, (.int .i64 6)]) w) <|
  pv prog (oNil c_p0) w fun t_21 w =>
  pvv prog (Instr.fieldAt 98 t_21 3) w fun t_22 w =>
  ldv prog (Instr.loadAt 3 t_22) w fun t_23 w =>
  pvv prog (binOp .lss 3 at_p1 t_23) w fun t_24 w =>
  cd t_24 (
    pvv prog (Instr.build 56 #[]) w fun t_25 w =>
    efu prog (Instr.storeAt 56 t_0 t_25) w fun u_26 w =>
    ∃ r_27, (do loadVar 56 (← asAddr t_0)).run prog w = .ok r_27 w ∧ K (.tuple #[r_27, (.int .i64 9)]) w) <|
  pv prog (oNil c_p0) w fun t_28 w =>
  pvv prog (Instr.fieldAt 98 t_28 4) w fun t_29 w =>
  ldv prog (Instr.loadAt 65 t_29) w fun t_30 w =>
  pv prog (oBi .len #[65] 3 #[false] #[t_30]) w fun t_31 w =>
  pvv prog (binOp .geq 3 t_31 (.int .i64 64)) w fun t_32 w =>
  cd t_32 (
    pvv prog (Instr.build 56 #[]) w fun t_33 w =>
    efu prog (Instr.storeAt 56 t_0 t_33) w fun u_34 w =>
    ∃ r_35, (do loadVar 56 (← asAddr t_0)).run prog w = .ok r_35 w ∧ K (.tuple #[r_35, (.int .i64 26)]) w) <|
  Calls prog 20 #[c_p0] w (Ret fun t_36 w =>
  pvv prog (binOp .add 3 t_36 (.int .i64 1)) w fun t_37 w =>
  pvv prog (Instr.build 56 #[(0, t_37), (1, at_p1), (2, what_p2), (3, who_p3)]) w fun t_38 w =>
  efv prog (Instr.alloc 56 true (.tuple #[])) w fun x_39 w =>
  efu prog (Instr.storeAt 56 x_39 t_38) w fun u_40 w =>
  dr w fun w =>
  pv prog (oNil c_p0) w fun t_41 w =>
  pvv prog (Instr.fieldAt 98 t_41 4) w fun t_42 w =>
  pv prog (oNil c_p0) w fun t_43 w =>
  pvv prog (Instr.fieldAt 98 t_43 4) w fun t_44 w =>
  pv prog (oNil c_p0) w fun t_45 w =>
  pvv prog (Instr.fieldAt 98 t_45 4) w fun t_46 w =>
  bindS (vN (Instr.loadAt 65 t_42)) fun m_48 => ldv prog (Instr.loadAt 65 t_42) w fun t_47 w =>
  bindS (vN (Instr.loadAt 65 t_44)) fun m_50 => ldv prog (Instr.loadAt 65 t_44) w fun t_49 w =>
  pv prog (oBi .len #[65] 3 #[false] #[t_49]) w fun t_51 w =>
  bindS (vN (Instr.loadAt 65 t_46)) fun m_53 => ldv prog (Instr.loadAt 65 t_46) w fun t_52 w =>
  pv prog (oBi .len #[65] 3 #[false] #[t_52]) w fun t_54 w =>
  pvv prog (Instr.sliceAt 65 t_47 none (some t_51) (some t_54)) w fun t_55 w =>
  bindS (vN (Instr.loadAt 56 x_39)) fun m_57 => ldv prog (Instr.loadAt 56 x_39) w fun t_56 w =>
  efv prog (Instr.buildSlice 65 1 #[(0, t_56)]) w fun t_58 w => stay prog none m_53 t_52 w <| stay prog none m_50 t_49 w <| stay prog none m_48 t_47 w <| 
  ef prog (oBi .append #[65, 65] 65 #[false, false] #[t_55, t_58]) w fun t_59 w => stay prog none m_57 t_56 w <| stay prog none m_53 t_52 w <| stay prog none m_50 t_49 w <| stay prog none m_48 t_47 w <| 
  pv prog (oNil c_p0) w fun t_60 w =>
  pvv prog (Instr.fieldAt 98 t_60 4) w fun t_61 w =>
  efu prog (Instr.storeAt 65 t_61 t_59) w fun u_62 w =>
  dr w fun w =>
  pv prog (oNil c_p0) w fun t_63 w =>
  pvv prog (Instr.fieldAt 98 t_63 2) w fun t_64 w =>
  bindS (vN (Instr.loadAt 23 t_64)) fun m_66 => ldv prog (Instr.loadAt 23 t_64) w fun t_65 w =>
  bindS (vN (Instr.loadAt 56 x_39)) fun m_68 => ldv prog (Instr.loadAt 56 x_39) w fun t_67 w =>
  Calls prog 39 #[t_65, t_67] w (Ret fun t_69 w =>
  pv prog (oNil c_p0) w fun t_70 w =>
  pvv prog (Instr.fieldAt 98 t_70 2) w fun t_71 w =>
  efu prog (Instr.storeAt 23 t_71 t_69) w fun u_72 w =>
  pv prog (oNil c_p0) w fun t_73 w =>
  pvv prog (Instr.fieldAt 98 t_73 3) w fun t_74 w =>
  efu prog (Instr.storeAt 3 t_74 at_p1) w fun u_75 w =>
  ldv prog (Instr.loadAt 56 x_39) w fun t_76 w =>
  efu prog (Instr.storeAt 56 t_0 t_76) w fun u_77 w =>
  ∃ r_78, (do loadVar 56 (← asAddr t_0)).run prog w = .ok r_78 w ∧ K (.tuple #[r_78, (.int .i64 0)]) w))
theorem B17_eq (c_p0 at_p1 what_p2 who_p3 : Value) (w : World) (K : Value → World → Prop) : denFn prog Tryd.f17 T17 [c_p0, at_p1, what_p2, who_p3] w K = B17 c_p0 at_p1 what_p2 who_p3 w K := by kernel_rfl
theorem c17 {c_p0 at_p1 what_p2 who_p3 : Value} {w : World} {K : Value → World → Prop} (h : B17 c_p0 at_p1 what_p2 who_p3 w K) : Calls prog 17 #[c_p0, at_p1, what_p2, who_p3] w (Ret K) :=
  denFn_calls Tryd.func17 T17_ok (Eq.mpr (B17_eq c_p0 at_p1 what_p2 who_p3 w K) h)

-- 7 holdfast/hash.Sum
def T7 : Ann := (.seq .none (.seq .none (.seq .none (.seq .none (.seq (.block (.loop 33488897 [0] (.seq (.seq .none (.seq .none .none)) (.seq (.block .none) .none)))) (.seq .none (.seq .none (.seq (.seq .none (.block (.loop 281440616972480 [6, 35] (.seq .none (.seq (.seq .none .none) (.seq (.block (.seq .none .none)) .none)))))) (.seq (.block (.loop 143833713099145280 [6] (.seq (.seq .none (.seq .none .none)) (.seq (.block .none) .none)))) (.seq (.seq .none (.block (.loop 618970019354459761297851136 [58] (.seq .none (.seq (.seq .none .none) (.seq (.block (.seq .none .none)) .none)))))) (.seq .none .none)))))))))))
theorem T7_ok : chkFn prog Tryd.f7 T7 = true := by kernel_rfl
def B7 (b_p0 : Value) (w : World) (K : Value → World → Prop) : Prop :=
  efv prog (Instr.alloc 23 true (.tuple #[])) w fun out_0 w =>
  pvv prog (Instr.build 79 #[(0, (.int .u32 1779033703)), (1, (.int .u32 3144134277)), (2, (.int .u32 1013904242)), (3, (.int .u32 2773480762)), (4, (.int .u32 1359893119)), (5, (.int .u32 2600822924)), (6, (.int .u32 528734635)), (7, (.int .u32 1541459225))]) w fun t_1 w =>
  efv prog (Instr.alloc 79 true (.tuple #[])) w fun h_2 w =>
  efu prog (Instr.storeAt 79 h_2 t_1) w fun u_3 w =>
  Calls prog 26 #[] w (Ret fun t_4 w =>
  pv prog (oBi .len #[25] 3 #[false] #[b_p0]) w fun t_5 w =>
  pvv prog (convert 3 35 t_5) w fun t_6 w =>
  pvv prog (binOp .shl 35 t_6 (.int .u64 3)) w fun t_7 w =>
  lp (fun σ w again_9 => pop σ fun b_8 σ => fin σ <|
    pv prog (oBi .len #[25] 3 #[false] #[b_8]) w fun t_10 w =>
    pvv prog (binOp .geq 3 t_10 (.int .i64 64)) w fun t_11 w =>
    cd t_11 (
      ldv prog (Instr.loadAt 79 h_2) w fun t_12 w =>
      Calls prog 27 #[t_12, t_4, b_8] w (Ret fun t_13 w =>
      efu prog (Instr.storeAt 79 h_2 t_13) w fun u_14 w =>
      pvv prog (Instr.sliceAt 25 b_8 (some (.int .i64 64)) none none) w fun t_15 w =>
      again_9 [t_15] w)) <|
    Calls prog 28 #[b_8] w (Ret fun t_16 w =>
    efv prog (Instr.buildSlice 25 1 #[(0, (.int .u8 128))]) w fun t_17 w =>
    ef prog (oBi .append #[25, 25] 25 #[false, false] #[t_16, t_17]) w fun t_18 w =>
    pv prog (oBi .len #[25] 3 #[false] #[b_8]) w fun t_19 w =>
    pvv prog (binOp .sub 3 (.int .i64 119) t_19) w fun t_20 w =>
    pvv prog (binOp .rem 3 t_20 (.int .i64 64)) w fun t_21 w =>
    ef prog (oBi .append #[25, 3] 25 #[false, false] #[t_18, t_21]) w fun t_22 w =>
    lp (fun σ w again_25 => pop σ fun end_23 σ => pop σ fun t_24 σ => fin σ <|
      pvv prog (binOp .lss 3 t_24 (.int .i64 8)) w fun t_26 w =>
      cd t_26 (
        pvv prog (binOp .mul 3 (.int .i64 8) t_24) w fun t_27 w =>
        pvv prog (binOp .sub 3 (.int .i64 56) t_27) w fun t_28 w =>
        pvv prog (binOp .shr 35 t_7 t_28) w fun t_29 w =>
        pvv prog (convert 35 5 t_29) w fun t_30 w =>
        efv prog (Instr.buildSlice 25 1 #[(0, t_30)]) w fun t_31 w =>
        ef prog (oBi .append #[25, 25] 25 #[false, false] #[end_23, t_31]) w fun t_32 w =>
        pvv prog (binOp .add 3 t_24 (.int .i64 1)) w fun t_33 w =>
        again_25 [t_32, t_33] w) <|
      lp (fun σ w again_35 => pop σ fun end_34 σ => fin σ <|
        pv prog (oBi .len #[25] 3 #[false] #[end_34]) w fun t_36 w =>
        pvv prog (binOp .gtr 3 t_36 (.int .i64 0)) w fun t_37 w =>
        cd t_37 (
          ldv prog (Instr.loadAt 79 h_2) w fun t_38 w =>
          Calls prog 27 #[t_38, t_4, end_34] w (Ret fun t_39 w =>
          efu prog (Instr.storeAt 79 h_2 t_39) w fun u_40 w =>
          pvv prog (Instr.sliceAt 25 end_34 (some (.int .i64 64)) none none) w fun t_41 w =>
          again_35 [t_41] w)) <|
        ldv prog (Instr.loadAt 79 h_2) w fun t_42 w =>
        lp (fun σ w again_44 => pop σ fun t_43 σ => fin σ <|
          pvv prog (binOp .lss 3 t_43 (.int .i64 8)) w fun t_45 w =>
          cd t_45 (
            pvv prog (Instr.index 79 t_42 t_43) w fun t_46 w =>
            pvv prog (binOp .mul 3 (.int .i64 4) t_43) w fun t_47 w =>
            pvv prog (binOp .mul 3 (.int .i64 4) t_43) w fun t_48 w =>
            pvv prog (binOp .add 3 t_48 (.int .i64 1)) w fun t_49 w =>
            pvv prog (binOp .mul 3 (.int .i64 4) t_43) w fun t_50 w =>
            pvv prog (binOp .add 3 t_50 (.int .i64 2)) w fun t_51 w =>
            pvv prog (binOp .mul 3 (.int .i64 4) t_43) w fun t_52 w =>
            pvv prog (binOp .add 3 t_52 (.int .i64 3)) w fun t_53 w =>
            pvv prog (binOp .shr 77 t_46 (.int .u64 24)) w fun t_54 w =>
            pvv prog (convert 77 5 t_54) w fun t_55 w =>
            pvv prog (binOp .shr 77 t_46 (.int .u64 16)) w fun t_56 w =>
            pvv prog (convert 77 5 t_56) w fun t_57 w =>
            pvv prog (binOp .shr 77 t_46 (.int .u64 8)) w fun t_58 w =>
            pvv prog (convert 77 5 t_58) w fun t_59 w =>
            pvv prog (convert 77 5 t_46) w fun t_60 w =>
            pvv prog (Instr.indexAt 23 out_0 t_47) w fun t_61 w =>
            efu prog (Instr.storeAt 5 t_61 t_55) w fun u_62 w =>
            pvv prog (Instr.indexAt 23 out_0 t_49) w fun t_63 w =>
            efu prog (Instr.storeAt 5 t_63 t_57) w fun u_64 w =>
            pvv prog (Instr.indexAt 23 out_0 t_51) w fun t_65 w =>
            efu prog (Instr.storeAt 5 t_65 t_59) w fun u_66 w =>
            pvv prog (Instr.indexAt 23 out_0 t_53) w fun t_67 w =>
            efu prog (Instr.storeAt 5 t_67 t_60) w fun u_68 w =>
            pvv prog (binOp .add 3 t_43 (.int .i64 1)) w fun t_69 w =>
            again_44 [t_69] w) <|
          ldv prog (Instr.loadAt 23 out_0) w fun t_70 w =>
          efu prog (Instr.storeAt 23 out_0 t_70) w fun u_71 w =>
          ∃ r_72, (do loadVar 23 (← asAddr out_0)).run prog w = .ok r_72 w ∧ K r_72 w) [(.int .i64 0)] w) [end_23] w) [t_22, (.int .i64 0)] w)) [b_p0] w)
theorem B7_eq (b_p0 : Value) (w : World) (K : Value → World → Prop) : denFn prog Tryd.f7 T7 [b_p0] w K = B7 b_p0 w K := by kernel_rfl
theorem c7 {b_p0 : Value} {w : World} {K : Value → World → Prop} (h : B7 b_p0 w K) : Calls prog 7 #[b_p0] w (Ret K) :=
  denFn_calls Tryd.func7 T7_ok (Eq.mpr (B7_eq b_p0 w K) h)

-- 21 (*holdfast/audit.Chain).Verify
def T21 : Ann := (.seq .none (.seq (.seq .none (.seq (.seq .none .none) .none)) (.seq .none (.seq (.seq .none (.block (.range .none (.block (.seq (.seq (.draw [.op 0 .pure, .op 1 .load, .op 2 .load, .op 3 .pure, .op 4 .pure, .op 5 .pure, .op 6 .load, .op 7 .pure, .op 8 .pure, .op 9 .load, .op 10 .load, .op 11 .pure, .op 12 .pure, .op 13 .load, .op 14 .pure, .op 15 .pure]) (.seq (.seq .none .none) .none)) .none))))) (.seq (.seq (.draw [.op 0 .pure, .op 1 .load, .op 2 .load, .op 3 .pure, .op 4 .pure, .op 5 .load, .op 6 .pure]) (.seq (.seq .none .none) .none)) (.seq .none .none))))))
theorem T21_ok : chkFn prog Tryd.f21 T21 = true := by kernel_rfl
def B21 (c_p0 : Value) (w : World) (K : Value → World → Prop) : Prop :=
  efv prog (Instr.box 43 c_p0) w fun c_0 w =>
  efv prog (Instr.alloc 28 true (.tuple #[])) w fun t_1 w =>
  ldv prog (Instr.loadAt 43 c_0) w fun t_2 w =>
  pvv prog (oEq .eql 43 (.tmp 5) (.const (.pointer none)) t_2 (.pointer none)) w fun t_3 w =>
  cd t_3 (
    efu prog (Instr.storeAt 28 t_1 (.int .i64 1)) w fun u_4 w =>
    ∃ r_5, (do loadVar 28 (← asAddr t_1)).run prog w = .ok r_5 w ∧ K r_5 w) <|
  efv prog (Instr.alloc 96 true (.tuple #[])) w fun last_6 w =>
  ldv prog (Instr.loadAt 43 c_0) w fun t_7 w =>
  Calls prog 40 #[t_7] w (Ret fun t_8 w =>
  rng prog 1 t_8 (fun σ w bg_10 ex_11 => pop σ fun t_9 σ => fin σ <|
    efv prog (Instr.alloc 96 true (.tuple #[])) w fun p_12 w =>
    efu prog (Instr.storeAt 96 p_12 t_9) w fun u_13 w =>
    bg_10 w fun w =>
    dr w fun w =>
    pvv prog (Instr.fieldAt 96 p_12 0) w fun t_14 w =>
    bindS (vN (Instr.loadAt 3 t_14)) fun m_16 => ldv prog (Instr.loadAt 3 t_14) w fun t_15 w =>
    bindS (vN (Instr.loadAt 43 c_0)) fun m_18 => ldv prog (Instr.loadAt 43 c_0) w fun t_17 w =>
    pv prog (oNil t_17) w fun t_19 w =>
    pvv prog (Instr.fieldAt 98 t_19 1) w fun t_20 w =>
    pvv prog (Instr.fieldAt 96 t_20 0) w fun t_21 w =>
    bindS (vN (Instr.loadAt 3 t_21)) fun m_23 => ldv prog (Instr.loadAt 3 t_21) w fun t_22 w =>
    pvv prog (oEq .eql 3 (.tmp 11) (.tmp 16) t_15 t_22) w fun t_24 w =>
    bindS (vN (Instr.loadAt 96 p_12)) fun m_26 => gate (some (t_24, true)) (fun K => ldv prog (Instr.loadAt 96 p_12) w K) w fun t_25 w =>
    bindS (vN (Instr.loadAt 43 c_0)) fun m_28 => gate (some (t_24, true)) (fun K => ldv prog (Instr.loadAt 43 c_0) w K) w fun t_27 w =>
    gate (some (t_24, true)) (fun K => pv prog (oNil t_27) w K) w fun t_29 w =>
    gate (some (t_24, true)) (fun K => pvv prog (Instr.fieldAt 98 t_29 1) w K) w fun t_30 w =>
    bindS (vN (Instr.loadAt 96 t_30)) fun m_32 => gate (some (t_24, true)) (fun K => ldv prog (Instr.loadAt 96 t_30) w K) w fun t_31 w =>
    gate (some (t_24, true)) (fun K => pvv prog (oEq .neq 96 (.tmp 19) (.tmp 23) t_25 t_31) w K) w fun t_33 w =>
    pv prog (oPick t_24 t_33 (.bool false)) w fun t_34 w =>
    cd t_34 (
      efu prog (Instr.storeAt 28 t_1 (.int .i64 15)) w fun u_35 w =>
      ex_11 .ret w) <|
    ldv prog (Instr.loadAt 96 p_12) w fun t_36 w =>
    efu prog (Instr.storeAt 96 last_6 t_36) w fun u_37 w =>
    ex_11 .normal w) w fun p_39 D_38 w =>
  jump (
    dr w fun w =>
    pvv prog (Instr.fieldAt 96 last_6 1) w fun t_40 w =>
    bindS (vN (Instr.loadAt 23 t_40)) fun m_42 => ldv prog (Instr.loadAt 23 t_40) w fun t_41 w =>
    bindS (vN (Instr.loadAt 43 c_0)) fun m_44 => ldv prog (Instr.loadAt 43 c_0) w fun t_43 w =>
    pv prog (oNil t_43) w fun t_45 w =>
    pvv prog (Instr.fieldAt 98 t_45 2) w fun t_46 w =>
    bindS (vN (Instr.loadAt 23 t_46)) fun m_48 => ldv prog (Instr.loadAt 23 t_46) w fun t_47 w =>
    pvv prog (oEq .neq 23 (.tmp 28) (.tmp 32) t_41 t_47) w fun t_49 w =>
    cd t_49 (
      efu prog (Instr.storeAt 28 t_1 (.int .i64 15)) w fun u_50 w =>
      und [D_38] w fun w => ∃ r_51, (do loadVar 28 (← asAddr t_1)).run prog w = .ok r_51 w ∧ K r_51 w) <|
    efu prog (Instr.storeAt 28 t_1 (.int .i64 0)) w fun u_52 w =>
    und [D_38] w fun w => ∃ r_53, (do loadVar 28 (← asAddr t_1)).run prog w = .ok r_53 w ∧ K r_53 w) (
    und [D_38] w fun w => ∃ r_54, (do loadVar 28 (← asAddr t_1)).run prog w = .ok r_54 w ∧ K r_54 w) [] p_39)
theorem B21_eq (c_p0 : Value) (w : World) (K : Value → World → Prop) : denFn prog Tryd.f21 T21 [c_p0] w K = B21 c_p0 w K := by kernel_rfl
theorem c21 {c_p0 : Value} {w : World} {K : Value → World → Prop} (h : B21 c_p0 w K) : Calls prog 21 #[c_p0] w (Ret K) :=
  denFn_calls Tryd.func21 T21_ok (Eq.mpr (B21_eq c_p0 w K) h)

-- 53 (*holdfast/audit.Chain).links$1
def T53 : Ann := (.seq .none (.seq (.seq .none (.seq .none .none)) (.seq .none (.block (.loop 68718952480 [19] (.seq .none (.seq (.seq .none .none) (.seq (.block (.seq .none (.seq (.draw [.op 0 .pure, .op 3 .pure, .op 1 .load, .op 2 .pure, .op 4 .load, .op 5 .load, .op 6 .eff, .op 7 .pure, .op 8 .eff]) (.seq .none (.seq .none .none))))) .none))))))))
theorem T53_ok : chkFn prog Tryd.f53 T53 = true := by kernel_rfl
def B53 (yield_p0 x_p1 : Value) (w : World) (K : Value → World → Prop) : Prop :=
  ldv prog (Instr.loadAt 43 x_p1) w fun t_0 w =>
  pv prog (oNil t_0) w fun t_1 w =>
  pvv prog (Instr.fieldAt 98 t_1 0) w fun t_2 w =>
  ldv prog (Instr.loadAt 96 t_2) w fun t_3 w =>
  efv prog (Instr.alloc 96 true (.tuple #[])) w fun p_4 w =>
  efu prog (Instr.storeAt 96 p_4 t_3) w fun u_5 w =>
  ldv prog (Instr.loadAt 96 p_4) w fun t_6 w =>
  ef prog (oCall yield_p0 #[t_6]) w fun t_7 w =>
  pvv prog (Op.unary .not t_7) w fun t_8 w =>
  cd t_8 (
    K (.tuple #[]) w) <|
  ldv prog (Instr.loadAt 43 x_p1) w fun t_9 w =>
  pv prog (oNil t_9) w fun t_10 w =>
  pvv prog (Instr.fieldAt 98 t_10 4) w fun t_11 w =>
  ldv prog (Instr.loadAt 65 t_11) w fun t_12 w =>
  pv prog (oBi .len #[65] 3 #[false] #[t_12]) w fun t_13 w =>
  lp (fun σ w again_15 => pop σ fun t_14 σ => fin σ <|
    pvv prog (binOp .lss 3 t_14 t_13) w fun t_16 w =>
    cd t_16 (
      pvv prog (Instr.indexAt 65 t_12 t_14) w fun t_17 w =>
      ldv prog (Instr.loadAt 56 t_17) w fun t_18 w =>
      efv prog (Instr.alloc 56 true (.tuple #[])) w fun x_19 w =>
      efu prog (Instr.storeAt 56 x_19 t_18) w fun u_20 w =>
      dr w fun w =>
      pvv prog (Instr.fieldAt 96 p_4 0) w fun t_21 w =>
      pvv prog (Instr.fieldAt 96 p_4 1) w fun t_22 w =>
      bindS (vN (Instr.loadAt 3 t_21)) fun m_24 => ldv prog (Instr.loadAt 3 t_21) w fun t_23 w =>
      pvv prog (binOp .add 3 t_23 (.int .i64 1)) w fun t_25 w =>
      bindS (vN (Instr.loadAt 23 t_22)) fun m_27 => ldv prog (Instr.loadAt 23 t_22) w fun t_26 w =>
      bindS (vN (Instr.loadAt 56 x_19)) fun m_29 => ldv prog (Instr.loadAt 56 x_19) w fun t_28 w =>
      Calls prog 39 #[t_26, t_28] w (Ret fun t_30 w => stay prog none m_24 t_23 w <| 
      pvv prog (Instr.build 96 #[(0, t_25), (1, t_30)]) w fun t_31 w =>
      efu prog (Instr.storeAt 96 p_4 t_31) w fun u_32 w =>
      ldv prog (Instr.loadAt 96 p_4) w fun t_33 w =>
      ef prog (oCall yield_p0 #[t_33]) w fun t_34 w =>
      pvv prog (Op.unary .not t_34) w fun t_35 w =>
      cd t_35 (
        K (.tuple #[]) w) <|
      pvv prog (binOp .add 3 t_14 (.int .i64 1)) w fun t_36 w =>
      again_15 [t_36] w)) <|
    K (.tuple #[]) w) [(.int .i64 0)] w
theorem B53_eq (yield_p0 x_p1 : Value) (w : World) (K : Value → World → Prop) : denFn prog Tryd.f53 T53 [yield_p0, x_p1] w K = B53 yield_p0 x_p1 w K := by kernel_rfl
theorem c53 {yield_p0 x_p1 : Value} {w : World} {K : Value → World → Prop} (h : B53 yield_p0 x_p1 w K) : Calls prog 53 #[yield_p0, x_p1] w (Ret K) :=
  denFn_calls Tryd.func53 T53_ok (Eq.mpr (B53_eq yield_p0 x_p1 w K) h)

-- 77 unicode/utf8.DecodeLastRuneInString
def T77 : Ann := (.seq .none (.seq .none (.seq (.seq .none (.seq (.seq .none .none) .none)) (.seq .none (.seq .none (.seq (.seq .none (.seq (.seq .none .none) .none)) (.seq .none (.meet 17171480608 [5] (.seq .none (.block (.loop 17146314784 [5] (.seq (.seq .none (.seq .none .none)) (.seq (.block (.seq .none (.seq .none .none))) .none))))) (.meet 51539607584 [5] (.seq .none (.seq .none .none)) (.seq .none (.seq (.seq .none (.seq (.seq .none .none) .none)) (.seq .none .none))))))))))))
theorem T77_ok : chkFn prog Tryd.f77 T77 = true := by kernel_rfl
def B77 (s_p0 : Value) (w : World) (K : Value → World → Prop) : Prop :=
  pv prog (oBi .len #[9] 3 #[false] #[s_p0]) w fun t_0 w =>
  pvv prog (oEq .eql 3 (.tmp 9) (.const (.int .i64 0)) t_0 (.int .i64 0)) w fun t_1 w =>
  cd t_1 (
    K (.tuple #[(.int .i32 65533), (.int .i64 0)]) w) <|
  pvv prog (binOp .sub 3 t_0 (.int .i64 1)) w fun t_2 w =>
  pvv prog (Instr.index 9 s_p0 t_2) w fun t_3 w =>
  pvv prog (convert 5 21 t_3) w fun t_4 w =>
  pvv prog (binOp .lss 21 t_4 (.int .i32 128)) w fun t_5 w =>
  cd t_5 (
    K (.tuple #[t_4, (.int .i64 1)]) w) <|
  pvv prog (binOp .sub 3 t_0 (.int .i64 4)) w fun t_6 w =>
  pv prog (oBi .max #[3, 3] 3 #[false, true] #[t_6, (.int .i64 0)]) w fun t_7 w =>
  jn (fun σ w => pop σ fun start_8 σ => fin σ <|
    jn (fun σ w => pop σ fun start_9 σ => fin σ <|
      pvv prog (Instr.sliceAt 9 s_p0 (some start_9) (some t_0) none) w fun t_10 w =>
      Calls prog 72 #[t_10] w (Ret fun t_11 w =>
      pvv prog (Instr.extract t_11 0) w fun t_12 w =>
      pvv prog (Instr.extract t_11 1) w fun t_13 w =>
      pvv prog (binOp .add 3 start_9 t_13) w fun t_14 w =>
      pvv prog (oEq .neq 3 (.tmp 46) (.tmp 47) t_14 t_0) w fun t_15 w =>
      cd t_15 (
        K (.tuple #[(.int .i32 65533), (.int .i64 1)]) w) <|
      K (.tuple #[t_12, t_13]) w)) fun k_16 =>
    pvv prog (binOp .lss 3 start_8 (.int .i64 0)) w fun t_17 w =>
    cd t_17 (
      k_16 [(.int .i64 0)] w) <|
    k_16 [start_8] w) fun k_18 =>
  pvv prog (binOp .sub 3 t_2 (.int .i64 1)) w fun t_19 w =>
  lp (fun σ w again_21 => pop σ fun start_20 σ => fin σ <|
    pvv prog (binOp .geq 3 start_20 t_7) w fun t_22 w =>
    cd t_22 (
      pvv prog (Instr.index 9 s_p0 start_20) w fun t_23 w =>
      Calls prog 97 #[t_23] w (Ret fun t_24 w =>
      cd t_24 (
        k_18 [start_20] w) <|
      pvv prog (binOp .sub 3 start_20 (.int .i64 1)) w fun t_25 w =>
      again_21 [t_25] w)) <|
    k_18 [start_20] w) [t_19] w
theorem B77_eq (s_p0 : Value) (w : World) (K : Value → World → Prop) : denFn prog Tryd.f77 T77 [s_p0] w K = B77 s_p0 w K := by kernel_rfl
theorem c77 {s_p0 : Value} {w : World} {K : Value → World → Prop} (h : B77 s_p0 w K) : Calls prog 77 #[s_p0] w (Ret K) :=
  denFn_calls Tryd.func77 T77_ok (Eq.mpr (B77_eq s_p0 w K) h)

-- 18 (*holdfast/grant.Store).Consent
def T18 : Ann := (.seq .none (.seq (.seq .none (.seq (.seq .none .none) .none)) (.seq (.draw [.op 0 .pure, .op 1 .pure, .op 2 .pure, .op 5 .pure, .op 3 .load, .op 4 .load, .op 6 .pure, .op 7 .load, .op 8 .pure, .op 9 .pure, .op 10 .pure, .op 11 .pure, .op 12 .pure]) (.seq (.seq .none (.seq (.seq .none .none) .none)) (.seq .none .none)))))
theorem T18_ok : chkFn prog Tryd.f18 T18 = true := by kernel_rfl
def B18 (s_p0 o_p1 client_p2 : Value) (w : World) (K : Value → World → Prop) : Prop :=
  efv prog (Instr.box 46 o_p1) w fun o_0 w =>
  efv prog (Instr.alloc 53 true (.tuple #[])) w fun t_1 w =>
  pvv prog (oEq .eql 41 (.tmp 10) (.const (.pointer none)) s_p0 (.pointer none)) w fun t_2 w =>
  cd t_2 (
    pvv prog (Instr.build 53 #[]) w fun t_3 w =>
    efu prog (Instr.storeAt 53 t_1 t_3) w fun u_4 w =>
    ∃ r_5, (do loadVar 53 (← asAddr t_1)).run prog w = .ok r_5 w ∧ K (.tuple #[r_5, (.int .i64 1)]) w) <|
  dr w fun w =>
  pv prog (oNil s_p0) w fun t_6 w =>
  pvv prog (Instr.fieldAt 94 t_6 1) w fun t_7 w =>
  bindS (vN (Instr.loadAt 92 t_7)) fun m_9 => ldv prog (Instr.loadAt 92 t_7) w fun t_8 w =>
  bindS (vN (Instr.loadAt 46 o_0)) fun m_11 => ldv prog (Instr.loadAt 46 o_0) w fun t_10 w =>
  pvv prog (Instr.build 104 #[(0, t_10), (1, client_p2)]) w fun t_12 w =>
  bindS (vN (Instr.lookup 92 t_8 t_12 true)) fun m_14 => ldv prog (Instr.lookup 92 t_8 t_12 true) w fun t_13 w =>
  pvv prog (Instr.extract t_13 0) w fun t_15 w =>
  pvv prog (Instr.extract t_13 1) w fun t_16 w =>
  pvv prog (Op.unary .not t_16) w fun t_17 w =>
  cd t_17 (
    pvv prog (Instr.build 53 #[]) w fun t_18 w =>
    efu prog (Instr.storeAt 53 t_1 t_18) w fun u_19 w =>
    ∃ r_20, (do loadVar 53 (← asAddr t_1)).run prog w = .ok r_20 w ∧ K (.tuple #[r_20, (.int .i64 4)]) w) <|
  ldv prog (Instr.loadAt 46 o_0) w fun t_21 w =>
  pvv prog (Instr.build 53 #[(0, t_21), (1, client_p2), (2, t_15)]) w fun t_22 w =>
  efu prog (Instr.storeAt 53 t_1 t_22) w fun u_23 w =>
  ∃ r_24, (do loadVar 53 (← asAddr t_1)).run prog w = .ok r_24 w ∧ K (.tuple #[r_24, (.int .i64 0)]) w
theorem B18_eq (s_p0 o_p1 client_p2 : Value) (w : World) (K : Value → World → Prop) : denFn prog Tryd.f18 T18 [s_p0, o_p1, client_p2] w K = B18 s_p0 o_p1 client_p2 w K := by kernel_rfl
theorem c18 {s_p0 o_p1 client_p2 : Value} {w : World} {K : Value → World → Prop} (h : B18 s_p0 o_p1 client_p2 w K) : Calls prog 18 #[s_p0, o_p1, client_p2] w (Ret K) :=
  denFn_calls Tryd.func18 T18_ok (Eq.mpr (B18_eq s_p0 o_p1 client_p2 w K) h)

-- 16 (*holdfast/grant.Store).Drop
def T16 : Ann := (.seq .none (.seq .none (.meet 2147418112 [] (.seq .none (.seq (.seq (.draw [.op 0 .pure, .op 1 .pure, .op 2 .pure, .op 3 .load, .op 4 .load, .op 5 .load, .op 6 .pure, .op 7 .eff]) .none) .none)) (.seq .none .none))))
theorem T16_ok : chkFn prog Tryd.f16 T16 = true := by kernel_rfl
def B16 (s_p0 tenant_p1 client_p2 : Value) (w : World) (K : Value → World → Prop) : Prop :=
  efv prog (Instr.box 9 tenant_p1) w fun tenant_0 w =>
  efv prog (Instr.box 9 client_p2) w fun client_1 w =>
  ldv prog (Instr.loadAt 9 tenant_0) w fun t_2 w =>
  ldv prog (Instr.loadAt 9 client_1) w fun t_3 w =>
  Calls prog 35 #[s_p0, t_2, t_3] w (Ret fun t_4 w =>
  pvv prog (Instr.extract t_4 0) w fun t_5 w =>
  pvv prog (Instr.extract t_4 1) w fun t_6 w =>
  efv prog (Instr.alloc 50 true (.tuple #[])) w fun t_7 w =>
  efu prog (Instr.storeAt 50 t_7 t_5) w fun u_8 w =>
  jn (fun σ w => fin σ <|
    K t_6 w) fun k_9 =>
  pvv prog (oEq .eql 28 (.tmp 16) (.const (.int .i64 0)) t_6 (.int .i64 0)) w fun t_10 w =>
  cd t_10 (
    dr w fun w =>
    pv prog (oNil s_p0) w fun t_11 w =>
    pvv prog (Instr.fieldAt 94 t_11 0) w fun t_12 w =>
    bindS (vN (Instr.loadAt 91 t_12)) fun m_14 => ldv prog (Instr.loadAt 91 t_12) w fun t_13 w =>
    bindS (vN (Instr.loadAt 9 tenant_0)) fun m_16 => ldv prog (Instr.loadAt 9 tenant_0) w fun t_15 w =>
    bindS (vN (Instr.loadAt 9 client_1)) fun m_18 => ldv prog (Instr.loadAt 9 client_1) w fun t_17 w =>
    pvv prog (Instr.build 101 #[(0, t_15), (1, t_17)]) w fun t_19 w =>
    ef prog (oBi .delete #[91, 101] 0 #[false, false] #[t_13, t_19]) w fun u_20 w => stay prog none m_18 t_17 w <| stay prog none m_16 t_15 w <| 
    pv prog (oNil s_p0) w fun t_21 w =>
    pvv prog (Instr.fieldAt 94 t_21 1) w fun t_22 w =>
    ldv prog (Instr.loadAt 92 t_22) w fun t_23 w =>
    pvv prog (Instr.makeFunc (.func 38) #[] #[tenant_0, client_1]) w fun t_24 w =>
    Calls prog 37 #[t_23, t_24] w (Ret fun t_25 w =>
    k_9 [] w)) <|
  k_9 [] w)
theorem B16_eq (s_p0 tenant_p1 client_p2 : Value) (w : World) (K : Value → World → Prop) : denFn prog Tryd.f16 T16 [s_p0, tenant_p1, client_p2] w K = B16 s_p0 tenant_p1 client_p2 w K := by kernel_rfl
theorem c16 {s_p0 tenant_p1 client_p2 : Value} {w : World} {K : Value → World → Prop} (h : B16 s_p0 tenant_p1 client_p2 w K) : Calls prog 16 #[s_p0, tenant_p1, client_p2] w (Ret K) :=
  denFn_calls Tryd.func16 T16_ok (Eq.mpr (B16_eq s_p0 tenant_p1 client_p2 w K) h)

-- 86 math/bits.Len32
def T86 : Ann := (.seq .none (.meet 125 [0, 2] (.seq .none (.seq (.seq .none .none) .none)) (.meet 8069 [0, 2] (.seq .none (.seq (.seq .none .none) .none)) (.seq .none .none))))
theorem T86_ok : chkFn prog Tryd.f86 T86 = true := by kernel_rfl
def B86 (x_p0 : Value) (w : World) (K : Value → World → Prop) : Prop :=
  jn (fun σ w => pop σ fun x_0 σ => pop σ fun n_1 σ => fin σ <|
    jn (fun σ w => pop σ fun x_2 σ => pop σ fun n_3 σ => fin σ <|
      pvv prog (convert 77 5 x_2) w fun t_4 w =>
      pvv prog (Instr.index 9 (.string ⟨#[0, 1, 2, 2, 3, 3, 3, 3, 4, 4, 4, 4, 4, 4, 4, 4, 5, 5, 5, 5, 5, 5, 5, 5, 5, 5, 5, 5, 5, 5, 5, 5, 6, 6, 6, 6, 6, 6, 6, 6, 6, 6, 6, 6, 6, 6, 6, 6, 6, 6, 6, 6, 6, 6, 6, 6, 6, 6, 6, 6, 6, 6, 6, 6, 7, 7, 7, 7, 7, 7, 7, 7, 7, 7, 7, 7, 7, 7, 7, 7, 7, 7, 7, 7, 7, 7, 7, 7, 7, 7, 7, 7, 7, 7, 7, 7, 7, 7, 7, 7, 7, 7, 7, 7, 7, 7, 7, 7, 7, 7, 7, 7, 7, 7, 7, 7, 7, 7, 7, 7, 7, 7, 7, 7, 7, 7, 7, 7, 8, 8, 8, 8, 8, 8, 8, 8, 8, 8, 8, 8, 8, 8, 8, 8, 8, 8, 8, 8, 8, 8, 8, 8, 8, 8, 8, 8, 8, 8, 8, 8, 8, 8, 8, 8, 8, 8, 8, 8, 8, 8, 8, 8, 8, 8, 8, 8, 8, 8, 8, 8, 8, 8, 8, 8, 8, 8, 8, 8, 8, 8, 8, 8, 8, 8, 8, 8, 8, 8, 8, 8, 8, 8, 8, 8, 8, 8, 8, 8, 8, 8, 8, 8, 8, 8, 8, 8, 8, 8, 8, 8, 8, 8, 8, 8, 8, 8, 8, 8, 8, 8, 8, 8, 8, 8, 8, 8, 8, 8, 8, 8, 8, 8, 8, 8, 8, 8, 8, 8, 8, 8, 8, 8, 8, 8, 8, 8]⟩) t_4) w fun t_5 w =>
      pvv prog (convert 5 3 t_5) w fun t_6 w =>
      pvv prog (binOp .add 3 n_3 t_6) w fun t_7 w =>
      K t_7 w) fun k_8 =>
    pvv prog (binOp .geq 77 x_0 (.int .u32 256)) w fun t_9 w =>
    cd t_9 (
      pvv prog (binOp .shr 77 x_0 (.int .u64 8)) w fun t_10 w =>
      pvv prog (binOp .add 3 n_1 (.int .i64 8)) w fun t_11 w =>
      k_8 [t_10, t_11] w) <|
    k_8 [x_0, n_1] w) fun k_12 =>
  pvv prog (binOp .geq 77 x_p0 (.int .u32 65536)) w fun t_13 w =>
  cd t_13 (
    pvv prog (binOp .shr 77 x_p0 (.int .u64 16)) w fun t_14 w =>
    k_12 [t_14, (.int .i64 16)] w) <|
  k_12 [x_p0, (.int .i64 0)] w
theorem B86_eq (x_p0 : Value) (w : World) (K : Value → World → Prop) : denFn prog Tryd.f86 T86 [x_p0] w K = B86 x_p0 w K := by kernel_rfl
theorem c86 {x_p0 : Value} {w : World} {K : Value → World → Prop} (h : B86 x_p0 w K) : Calls prog 86 #[x_p0] w (Ret K) :=
  denFn_calls Tryd.func86 T86_ok (Eq.mpr (B86_eq x_p0 w K) h)

-- 63 strings.trimRightUnicode
def T63 : Ann := (.seq .none (.meet 8589934561 [0] (.block (.loop 8589934561 [0] (.seq (.seq .none (.seq .none .none)) (.block (.seq .none (.meet 8323168 [5, 6] (.seq .none (.seq .none .none)) (.seq (.seq .none (.seq .none .none)) .none))))))) (.seq .none .none)))
theorem T63_ok : chkFn prog Tryd.f63 T63 = true := by kernel_rfl
def B63 (s_p0 cutset_p1 : Value) (w : World) (K : Value → World → Prop) : Prop :=
  jn (fun σ w => pop σ fun s_0 σ => fin σ <|
    K s_0 w) fun k_1 =>
  lp (fun σ w again_3 => pop σ fun s_2 σ => fin σ <|
    pv prog (oBi .len #[9] 3 #[false] #[s_2]) w fun t_4 w =>
    pvv prog (binOp .gtr 3 t_4 (.int .i64 0)) w fun t_5 w =>
    cd t_5 (
      pv prog (oBi .len #[9] 3 #[false] #[s_2]) w fun t_6 w =>
      pvv prog (binOp .sub 3 t_6 (.int .i64 1)) w fun t_7 w =>
      pvv prog (Instr.index 9 s_2 t_7) w fun t_8 w =>
      pvv prog (convert 5 21 t_8) w fun t_9 w =>
      jn (fun σ w => pop σ fun r_10 σ => pop σ fun n_11 σ => fin σ <|
        Calls prog 76 #[cutset_p1, r_10] w (Ret fun t_12 w =>
        pvv prog (Op.unary .not t_12) w fun t_13 w =>
        cd t_13 (
          k_1 [s_2] w) <|
        pv prog (oBi .len #[9] 3 #[false] #[s_2]) w fun t_14 w =>
        pvv prog (binOp .sub 3 t_14 n_11) w fun t_15 w =>
        pvv prog (Instr.sliceAt 9 s_2 none (some t_15) none) w fun t_16 w =>
        again_3 [t_16] w)) fun k_17 =>
      pvv prog (binOp .geq 21 t_9 (.int .i32 128)) w fun t_18 w =>
      cd t_18 (
        Calls prog 77 #[s_2] w (Ret fun t_19 w =>
        pvv prog (Instr.extract t_19 0) w fun t_20 w =>
        pvv prog (Instr.extract t_19 1) w fun t_21 w =>
        k_17 [t_20, t_21] w)) <|
      k_17 [t_9, (.int .i64 1)] w) <|
    k_1 [s_2] w) [s_p0] w
theorem B63_eq (s_p0 cutset_p1 : Value) (w : World) (K : Value → World → Prop) : denFn prog Tryd.f63 T63 [s_p0, cutset_p1] w K = B63 s_p0 cutset_p1 w K := by kernel_rfl
theorem c63 {s_p0 cutset_p1 : Value} {w : World} {K : Value → World → Prop} (h : B63 s_p0 cutset_p1 w K) : Calls prog 63 #[s_p0, cutset_p1] w (Ret K) :=
  denFn_calls Tryd.func63 T63_ok (Eq.mpr (B63_eq s_p0 cutset_p1 w K) h)

-- 59 strings.makeASCIISet
def T59 : Ann := (.seq .none (.seq (.seq .none (.block (.loop 1048568 [4] (.seq (.seq .none (.seq .none .none)) (.seq (.block (.seq .none (.seq (.seq .none (.seq (.seq .none .none) .none)) .none))) .none))))) (.seq .none .none)))
theorem T59_ok : chkFn prog Tryd.f59 T59 = true := by kernel_rfl
def B59 (chars_p0 : Value) (w : World) (K : Value → World → Prop) : Prop :=
  efv prog (Instr.alloc 137 true (.tuple #[])) w fun as_0 w =>
  lp (fun σ w again_2 => pop σ fun i_1 σ => fin σ <|
    pv prog (oBi .len #[9] 3 #[false] #[chars_p0]) w fun t_3 w =>
    pvv prog (binOp .lss 3 i_1 t_3) w fun t_4 w =>
    cd t_4 (
      pvv prog (Instr.index 9 chars_p0 i_1) w fun t_5 w =>
      pvv prog (binOp .geq 5 t_5 (.int .u8 128)) w fun t_6 w =>
      cd t_6 (
        ldv prog (Instr.loadAt 137 as_0) w fun t_7 w =>
        efu prog (Instr.storeAt 137 as_0 t_7) w fun u_8 w =>
        ∃ r_9, (do loadVar 137 (← asAddr as_0)).run prog w = .ok r_9 w ∧ K (.tuple #[r_9, (.bool false)]) w) <|
      pvv prog (Instr.indexAt 137 as_0 t_5) w fun t_10 w =>
      efu prog (Instr.storeAt 4 t_10 (.bool true)) w fun u_11 w =>
      pvv prog (binOp .add 3 i_1 (.int .i64 1)) w fun t_12 w =>
      again_2 [t_12] w) <|
    ldv prog (Instr.loadAt 137 as_0) w fun t_13 w =>
    efu prog (Instr.storeAt 137 as_0 t_13) w fun u_14 w =>
    ∃ r_15, (do loadVar 137 (← asAddr as_0)).run prog w = .ok r_15 w ∧ K (.tuple #[r_15, (.bool true)]) w) [(.int .i64 0)] w
theorem B59_eq (chars_p0 : Value) (w : World) (K : Value → World → Prop) : denFn prog Tryd.f59 T59 [chars_p0] w K = B59 chars_p0 w K := by kernel_rfl
theorem c59 {chars_p0 : Value} {w : World} {K : Value → World → Prop} (h : B59 chars_p0 w K) : Calls prog 59 #[chars_p0] w (Ret K) :=
  denFn_calls Tryd.func59 T59_ok (Eq.mpr (B59_eq chars_p0 w K) h)

-- 61 strings.trimRightASCII
def T61 : Ann := (.seq .none (.meet 2097121 [0] (.block (.loop 2097121 [0] (.seq (.seq .none (.seq .none .none)) (.block (.seq (.seq .none (.seq .none .none)) .none))))) (.seq .none .none)))
theorem T61_ok : chkFn prog Tryd.f61 T61 = true := by kernel_rfl
def B61 (s_p0 as_p1 : Value) (w : World) (K : Value → World → Prop) : Prop :=
  jn (fun σ w => pop σ fun s_0 σ => fin σ <|
    K s_0 w) fun k_1 =>
  lp (fun σ w again_3 => pop σ fun s_2 σ => fin σ <|
    pv prog (oBi .len #[9] 3 #[false] #[s_2]) w fun t_4 w =>
    pvv prog (binOp .gtr 3 t_4 (.int .i64 0)) w fun t_5 w =>
    cd t_5 (
      pv prog (oBi .len #[9] 3 #[false] #[s_2]) w fun t_6 w =>
      pvv prog (binOp .sub 3 t_6 (.int .i64 1)) w fun t_7 w =>
      pvv prog (Instr.index 9 s_2 t_7) w fun t_8 w =>
      Calls prog 75 #[as_p1, t_8] w (Ret fun t_9 w =>
      pvv prog (Op.unary .not t_9) w fun t_10 w =>
      cd t_10 (
        k_1 [s_2] w) <|
      pv prog (oBi .len #[9] 3 #[false] #[s_2]) w fun t_11 w =>
      pvv prog (binOp .sub 3 t_11 (.int .i64 1)) w fun t_12 w =>
      pvv prog (Instr.sliceAt 9 s_2 none (some t_12) none) w fun t_13 w =>
      again_3 [t_13] w)) <|
    k_1 [s_2] w) [s_p0] w
theorem B61_eq (s_p0 as_p1 : Value) (w : World) (K : Value → World → Prop) : denFn prog Tryd.f61 T61 [s_p0, as_p1] w K = B61 s_p0 as_p1 w K := by kernel_rfl
theorem c61 {s_p0 as_p1 : Value} {w : World} {K : Value → World → Prop} (h : B61 s_p0 as_p1 w K) : Calls prog 61 #[s_p0, as_p1] w (Ret K) :=
  denFn_calls Tryd.func61 T61_ok (Eq.mpr (B61_eq s_p0 as_p1 w K) h)

-- 113 internal/stringslite.HasPrefix
def T113 : Ann := (.seq .none (.seq .none .none))
theorem T113_ok : chkFn prog Tryd.f113 T113 = true := by kernel_rfl
def B113 (s_p0 prefix_p1 : Value) (w : World) (K : Value → World → Prop) : Prop :=
  pv prog (oBi .len #[9] 3 #[false] #[s_p0]) w fun t_0 w =>
  pv prog (oBi .len #[9] 3 #[false] #[prefix_p1]) w fun t_1 w =>
  pvv prog (binOp .geq 3 t_0 t_1) w fun t_2 w =>
  gate (some (t_2, true)) (fun K => K s_p0 w) w fun t_3 w =>
  gate (some (t_2, true)) (fun K => K prefix_p1 w) w fun t_4 w =>
  gate (some (t_2, true)) (fun K => pv prog (oBi .len #[9] 3 #[false] #[t_4]) w K) w fun t_5 w =>
  gate (some (t_2, true)) (fun K => pvv prog (Instr.sliceAt 9 t_3 none (some t_5) none) w K) w fun t_6 w =>
  gate (some (t_2, true)) (fun K => K prefix_p1 w) w fun t_7 w =>
  gate (some (t_2, true)) (fun K => pvv prog (oEq .eql 9 (.tmp 14) (.tmp 15) t_6 t_7) w K) w fun t_8 w =>
  pv prog (oPick t_2 t_8 (.bool false)) w fun t_9 w =>
  K t_9 w
theorem B113_eq (s_p0 prefix_p1 : Value) (w : World) (K : Value → World → Prop) : denFn prog Tryd.f113 T113 [s_p0, prefix_p1] w K = B113 s_p0 prefix_p1 w K := by kernel_rfl
theorem c113 {s_p0 prefix_p1 : Value} {w : World} {K : Value → World → Prop} (h : B113 s_p0 prefix_p1 w K) : Calls prog 113 #[s_p0, prefix_p1] w (Ret K) :=
  denFn_calls Tryd.func113 T113_ok (Eq.mpr (B113_eq s_p0 prefix_p1 w K) h)

-- 60 strings.trimLeftASCII
def T60 : Ann := (.seq .none (.meet 32737 [0] (.block (.loop 32737 [0] (.seq (.seq .none (.seq .none .none)) (.block (.seq (.seq .none (.seq .none .none)) .none))))) (.seq .none .none)))
theorem T60_ok : chkFn prog Tryd.f60 T60 = true := by kernel_rfl
def B60 (s_p0 as_p1 : Value) (w : World) (K : Value → World → Prop) : Prop :=
  jn (fun σ w => pop σ fun s_0 σ => fin σ <|
    K s_0 w) fun k_1 =>
  lp (fun σ w again_3 => pop σ fun s_2 σ => fin σ <|
    pv prog (oBi .len #[9] 3 #[false] #[s_2]) w fun t_4 w =>
    pvv prog (binOp .gtr 3 t_4 (.int .i64 0)) w fun t_5 w =>
    cd t_5 (
      pvv prog (Instr.index 9 s_2 (.int .i64 0)) w fun t_6 w =>
      Calls prog 75 #[as_p1, t_6] w (Ret fun t_7 w =>
      pvv prog (Op.unary .not t_7) w fun t_8 w =>
      cd t_8 (
        k_1 [s_2] w) <|
      pvv prog (Instr.sliceAt 9 s_2 (some (.int .i64 1)) none none) w fun t_9 w =>
      again_3 [t_9] w)) <|
    k_1 [s_2] w) [s_p0] w
theorem B60_eq (s_p0 as_p1 : Value) (w : World) (K : Value → World → Prop) : denFn prog Tryd.f60 T60 [s_p0, as_p1] w K = B60 s_p0 as_p1 w K := by kernel_rfl
theorem c60 {s_p0 as_p1 : Value} {w : World} {K : Value → World → Prop} (h : B60 s_p0 as_p1 w K) : Calls prog 60 #[s_p0, as_p1] w (Ret K) :=
  denFn_calls Tryd.func60 T60_ok (Eq.mpr (B60_eq s_p0 as_p1 w K) h)

-- 124 math/bits.TrailingZeros32
def T124 : Ann := (.seq .none (.seq (.seq .none (.seq (.seq .none .none) .none)) (.seq .none .none)))
theorem T124_ok : chkFn prog Tryd.f124 T124 = true := by kernel_rfl
def B124 (x_p0 : Value) (w : World) (K : Value → World → Prop) : Prop :=
  pvv prog (oEq .eql 77 (.tmp 3) (.const (.int .u32 0)) x_p0 (.int .u32 0)) w fun t_0 w =>
  cd t_0 (
    K (.int .i64 32) w) <|
  pvv prog (Op.unary .neg x_p0) w fun t_1 w =>
  pvv prog (binOp .and 77 x_p0 t_1) w fun t_2 w =>
  pvv prog (binOp .mul 77 t_2 (.int .u32 125613361)) w fun t_3 w =>
  pvv prog (binOp .shr 77 t_3 (.int .u64 27)) w fun t_4 w =>
  pvv prog (Instr.indexAt 22 (.pointer (some ⟨4, 0, none⟩)) t_4) w fun t_5 w =>
  ldv prog (Instr.loadAt 5 t_5) w fun t_6 w =>
  pvv prog (convert 5 3 t_6) w fun t_7 w =>
  K t_7 w
theorem B124_eq (x_p0 : Value) (w : World) (K : Value → World → Prop) : denFn prog Tryd.f124 T124 [x_p0] w K = B124 x_p0 w K := by kernel_rfl
theorem c124 {x_p0 : Value} {w : World} {K : Value → World → Prop} (h : B124 x_p0 w K) : Calls prog 124 #[x_p0] w (Ret K) :=
  denFn_calls Tryd.func124 T124_ok (Eq.mpr (B124_eq x_p0 w K) h)

-- 115 internal/strconv.numDigits
def T115 : Ann := (.seq .none (.seq .none (.seq .none .none)))
theorem T115_ok : chkFn prog Tryd.f115 T115 = true := by kernel_rfl
def B115 (d_p0 : Value) (w : World) (K : Value → World → Prop) : Prop :=
  Calls prog 87 #[d_p0] w (Ret fun t_0 w =>
  Calls prog 120 #[t_0] w (Ret fun t_1 w =>
  pvv prog (Instr.indexAt 194 (.pointer (some ⟨3, 0, none⟩)) t_1) w fun t_2 w =>
  ldv prog (Instr.loadAt 35 t_2) w fun t_3 w =>
  pvv prog (binOp .geq 35 d_p0 t_3) w fun t_4 w =>
  Calls prog 121 #[t_4] w (Ret fun t_5 w =>
  pvv prog (binOp .add 3 t_1 t_5) w fun t_6 w =>
  K t_6 w)))
theorem B115_eq (d_p0 : Value) (w : World) (K : Value → World → Prop) : denFn prog Tryd.f115 T115 [d_p0] w K = B115 d_p0 w K := by kernel_rfl
theorem c115 {d_p0 : Value} {w : World} {K : Value → World → Prop} (h : B115 d_p0 w K) : Calls prog 115 #[d_p0] w (Ret K) :=
  denFn_calls Tryd.func115 T115_ok (Eq.mpr (B115_eq d_p0 w K) h)

-- 41 slices.Clone[[]holdfast/api.Event,holdfast/api.Event]
def T41 : Ann := (.seq .none (.seq (.seq .none (.seq (.seq .none .none) .none)) (.seq .none .none)))
theorem T41_ok : chkFn prog Tryd.f41 T41 = true := by kernel_rfl
def B41 (s_p0 : Value) (w : World) (K : Value → World → Prop) : Prop :=
  pvv prog (oEq .eql 65 (.tmp 3) (.const (.slice none 0 0)) s_p0 (.slice none 0 0)) w fun t_0 w =>
  cd t_0 (
    K (.slice none 0 0) w) <|
  efv prog (Instr.buildSlice 65 0 #[]) w fun t_1 w =>
  ef prog (oBi .append #[65, 65] 65 #[false, false] #[t_1, s_p0]) w fun t_2 w =>
  K t_2 w
theorem B41_eq (s_p0 : Value) (w : World) (K : Value → World → Prop) : denFn prog Tryd.f41 T41 [s_p0] w K = B41 s_p0 w K := by kernel_rfl
theorem c41 {s_p0 : Value} {w : World} {K : Value → World → Prop} (h : B41 s_p0 w K) : Calls prog 41 #[s_p0] w (Ret K) :=
  denFn_calls Tryd.func41 T41_ok (Eq.mpr (B41_eq s_p0 w K) h)

-- 123 math/bits.TrailingZeros
def T123 : Ann := (.seq .none (.seq (.seq (.seq .none .none) .none) (.seq .none .none)))
theorem T123_ok : chkFn prog Tryd.f123 T123 = true := by kernel_rfl
def B123 (x_p0 : Value) (w : World) (K : Value → World → Prop) : Prop :=
  cd (.bool false) (
    pvv prog (convert 75 77 x_p0) w fun t_0 w =>
    Calls prog 124 #[t_0] w (Ret fun t_1 w =>
    K t_1 w)) <|
  Calls prog 125 #[x_p0] w (Ret fun t_2 w =>
  K t_2 w)
theorem B123_eq (x_p0 : Value) (w : World) (K : Value → World → Prop) : denFn prog Tryd.f123 T123 [x_p0] w K = B123 x_p0 w K := by kernel_rfl
theorem c123 {x_p0 : Value} {w : World} {K : Value → World → Prop} (h : B123 x_p0 w K) : Calls prog 123 #[x_p0] w (Ret K) :=
  denFn_calls Tryd.func123 T123_ok (Eq.mpr (B123_eq x_p0 w K) h)

-- 97 unicode/utf8.RuneStart
def T97 : Ann := (.seq .none (.seq .none .none))
theorem T97_ok : chkFn prog Tryd.f97 T97 = true := by kernel_rfl
def B97 (b_p0 : Value) (w : World) (K : Value → World → Prop) : Prop :=
  pvv prog (binOp .and 5 b_p0 (.int .u8 192)) w fun t_0 w =>
  pvv prog (oEq .neq 5 (.tmp 4) (.const (.int .u8 128)) t_0 (.int .u8 128)) w fun t_1 w =>
  K t_1 w
theorem B97_eq (b_p0 : Value) (w : World) (K : Value → World → Prop) : denFn prog Tryd.f97 T97 [b_p0] w K = B97 b_p0 w K := by kernel_rfl
theorem c97 {b_p0 : Value} {w : World} {K : Value → World → Prop} (h : B97 b_p0 w K) : Calls prog 97 #[b_p0] w (Ret K) :=
  denFn_calls Tryd.func97 T97_ok (Eq.mpr (B97_eq b_p0 w K) h)

-- 12 holdfast/grant.New
def T12 : Ann := (.seq .none (.seq .none .none))
theorem T12_ok : chkFn prog Tryd.f12 T12 = true := by kernel_rfl
def B12 (w : World) (K : Value → World → Prop) : Prop :=
  efv prog (Instr.makeMap 91 none) w fun t_0 w =>
  efv prog (Instr.makeMap 92 none) w fun t_1 w =>
  pvv prog (Instr.build 94 #[(0, t_0), (1, t_1)]) w fun t_2 w =>
  efv prog (Instr.box 94 t_2) w fun t_3 w =>
  K t_3 w
theorem B12_eq (w : World) (K : Value → World → Prop) : denFn prog Tryd.f12 T12 [] w K = B12  w K := by kernel_rfl
theorem c12 {w : World} {K : Value → World → Prop} (h : B12  w K) : Calls prog 12 #[] w (Ret K) :=
  denFn_calls Tryd.func12 T12_ok (Eq.mpr (B12_eq  w K) h)

-- 40 (*holdfast/audit.Chain).links
def T40 : Ann := (.seq .none (.seq .none .none))
theorem T40_ok : chkFn prog Tryd.f40 T40 = true := by kernel_rfl
def B40 (c_p0 : Value) (w : World) (K : Value → World → Prop) : Prop :=
  efv prog (Instr.box 43 c_p0) w fun c_0 w =>
  pvv prog (Instr.makeFunc (.func 53) #[] #[c_0]) w fun t_1 w =>
  K t_1 w
theorem B40_eq (c_p0 : Value) (w : World) (K : Value → World → Prop) : denFn prog Tryd.f40 T40 [c_p0] w K = B40 c_p0 w K := by kernel_rfl
theorem c40 {c_p0 : Value} {w : World} {K : Value → World → Prop} (h : B40 c_p0 w K) : Calls prog 40 #[c_p0] w (Ret K) :=
  denFn_calls Tryd.func40 T40_ok (Eq.mpr (B40_eq c_p0 w K) h)


end Go.Proofs.YtmnaalpjhkkglaaDoor
