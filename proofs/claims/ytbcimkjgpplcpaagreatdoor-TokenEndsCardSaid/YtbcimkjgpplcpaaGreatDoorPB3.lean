import Derived.Test.YtbcimkjgpplcpaaGreatDoorPI
set_option linter.all false
set_option maxRecDepth 100000
namespace Go.Proofs.YtbcimkjgpplcpaaGreatDoor
open Go Hold
-- 17 (*holdfast/token.Store).Grant
def T17 : Ann := (.seq .none (.seq .none (.seq (.block (.seq .none (.seq (.seq (.draw [.op 2 .pure, .op 0 .load, .op 1 .load, .op 3 .eff, .op 4 .eff, .op 5 .pure]) .none) (.seq .none (.seq (.seq (.draw [.op 0 .load, .op 1 .load, .op 2 .eff, .op 3 .eff, .op 4 .pure]) .none) (.seq .none (.seq (.seq (.draw [.op 0 .load, .op 1 .load, .op 2 .eff, .op 3 .eff, .op 4 .pure]) .none) (.seq .none (.seq (.seq (.draw [.op 2 .pure, .op 0 .load, .op 1 .load, .op 3 .eff, .op 4 .eff, .op 5 .pure]) .none) (.seq .none (.seq (.seq (.draw [.op 0 .load, .op 1 .load, .op 2 .eff, .op 3 .eff, .op 4 .pure]) .none) (.seq .none (.seq (.seq (.draw [.op 0 .load, .op 1 .load, .op 2 .eff, .op 3 .eff, .op 4 .pure]) .none) .none))))))))))))) (.seq .none (.seq (.draw [.op 0 .pure, .op 1 .pure, .op 2 .pure, .op 3 .pure, .op 5 .pure, .op 4 .load, .op 6 .load, .op 7 .load, .op 8 .eff]) (.seq .none (.seq .none (.seq (.draw [.op 1 .pure, .op 2 .pure, .op 4 .pure, .op 5 .pure, .op 6 .pure, .op 0 .load, .op 3 .load, .op 7 .eff, .op 8 .eff, .op 9 .eff, .op 10 .pure]) .none))))))))
theorem T17_ok : chkFn prog Tryz.f17 T17 = true := by kernel_rfl
def B17 (s_p0 session_p1 client_p2 scopes_p3 now_p4 : Value) (w : World) (K : Value → World → Prop) : Prop :=
  efv prog (Instr.alloc 35 true (.tuple #[])) w fun f_0 w =>
  efv prog (Instr.alloc 49 true (.tuple #[])) w fun t_1 w =>
  Calls prog 47 #[s_p0, now_p4] w (Ret fun t_2 w =>
  pvv prog (oEq .eql 36 (.tmp 17) (.const (.int .i64 1)) t_2 (.int .i64 1)) w fun t_3 w =>
  gate (some (t_3, false)) (fun K => K t_2 w) w fun t_4 w =>
  gate (some (t_3, false)) (fun K => pvv prog (oEq .eql 36 (.tmp 20) (.const (.int .i64 2)) t_4 (.int .i64 2)) w K) w fun t_5 w =>
  pv prog (oPick t_3 (.bool true) t_5) w fun t_6 w =>
  cd t_6 (
    dr w fun w =>
    bindS (vN (Instr.loadAt 35 f_0)) fun m_8 => ldv prog (Instr.loadAt 35 f_0) w fun t_7 w =>
    bindS (vN (Instr.loadAt 49 t_1)) fun m_10 => ldv prog (Instr.loadAt 49 t_1) w fun t_9 w =>
    efu prog (Instr.storeAt 35 f_0 t_7) w fun u_11 w => stay prog none m_10 t_9 w <| 
    efu prog (Instr.storeAt 49 t_1 t_9) w fun u_12 w =>
    ∃ r_13, (do loadVar 35 (← asAddr f_0)).run prog w = .ok r_13 w ∧ ∃ r_14, (do loadVar 49 (← asAddr t_1)).run prog w = .ok r_14 w ∧ K (.tuple #[r_13, r_14, t_2]) w) <|
  pvv prog (binOp .lss 3 session_p1 (.int .i64 1)) w fun t_17 w =>
  cd t_17 (
    dr w fun w =>
    bindS (vN (Instr.loadAt 35 f_0)) fun m_19 => ldv prog (Instr.loadAt 35 f_0) w fun t_18 w =>
    bindS (vN (Instr.loadAt 49 t_1)) fun m_21 => ldv prog (Instr.loadAt 49 t_1) w fun t_20 w =>
    efu prog (Instr.storeAt 35 f_0 t_18) w fun u_22 w => stay prog none m_21 t_20 w <| 
    efu prog (Instr.storeAt 49 t_1 t_20) w fun u_23 w =>
    ∃ r_24, (do loadVar 35 (← asAddr f_0)).run prog w = .ok r_24 w ∧ ∃ r_25, (do loadVar 49 (← asAddr t_1)).run prog w = .ok r_25 w ∧ K (.tuple #[r_24, r_25, (.int .i64 2)]) w) <|
  Calls prog 48 #[client_p2] w (Ret fun t_28 w =>
  pvv prog (Op.unary .not t_28) w fun t_29 w =>
  cd t_29 (
    dr w fun w =>
    bindS (vN (Instr.loadAt 35 f_0)) fun m_31 => ldv prog (Instr.loadAt 35 f_0) w fun t_30 w =>
    bindS (vN (Instr.loadAt 49 t_1)) fun m_33 => ldv prog (Instr.loadAt 49 t_1) w fun t_32 w =>
    efu prog (Instr.storeAt 35 f_0 t_30) w fun u_34 w => stay prog none m_33 t_32 w <| 
    efu prog (Instr.storeAt 49 t_1 t_32) w fun u_35 w =>
    ∃ r_36, (do loadVar 35 (← asAddr f_0)).run prog w = .ok r_36 w ∧ ∃ r_37, (do loadVar 49 (← asAddr t_1)).run prog w = .ok r_37 w ∧ K (.tuple #[r_36, r_37, (.int .i64 8)]) w) <|
  pvv prog (oEq .neq 36 (.tmp 38) (.const (.int .i64 0)) t_2 (.int .i64 0)) w fun t_40 w =>
  cd t_40 (
    dr w fun w =>
    bindS (vN (Instr.loadAt 35 f_0)) fun m_42 => ldv prog (Instr.loadAt 35 f_0) w fun t_41 w =>
    bindS (vN (Instr.loadAt 49 t_1)) fun m_44 => ldv prog (Instr.loadAt 49 t_1) w fun t_43 w =>
    efu prog (Instr.storeAt 35 f_0 t_41) w fun u_45 w => stay prog none m_44 t_43 w <| 
    efu prog (Instr.storeAt 49 t_1 t_43) w fun u_46 w =>
    ∃ r_47, (do loadVar 35 (← asAddr f_0)).run prog w = .ok r_47 w ∧ ∃ r_48, (do loadVar 49 (← asAddr t_1)).run prog w = .ok r_48 w ∧ K (.tuple #[r_47, r_48, t_2]) w) <|
  pv prog (oNil s_p0) w fun t_51 w =>
  pvv prog (Instr.fieldAt 67 t_51 0) w fun t_52 w =>
  ldv prog (Instr.loadAt 62 t_52) w fun t_53 w =>
  Calls prog 49 #[t_53] w (Ret fun t_54 w =>
  gate (some (t_54, false)) (fun K => K s_p0 w) w fun t_55 w =>
  gate (some (t_54, false)) (fun K => pv prog (oNil t_55) w K) w fun t_56 w =>
  gate (some (t_54, false)) (fun K => pvv prog (Instr.fieldAt 67 t_56 1) w K) w fun t_57 w =>
  gate (some (t_54, false)) (fun K => ldv prog (Instr.loadAt 65 t_57) w K) w fun t_58 w =>
  gate (some (t_54, false)) (fun K => Calls prog 50 #[t_58] w (Ret K)) w fun t_59 w =>
  pv prog (oPick t_54 (.bool true) t_59) w fun t_60 w =>
  cd t_60 (
    dr w fun w =>
    bindS (vN (Instr.loadAt 35 f_0)) fun m_62 => ldv prog (Instr.loadAt 35 f_0) w fun t_61 w =>
    bindS (vN (Instr.loadAt 49 t_1)) fun m_64 => ldv prog (Instr.loadAt 49 t_1) w fun t_63 w =>
    efu prog (Instr.storeAt 35 f_0 t_61) w fun u_65 w => stay prog none m_64 t_63 w <| 
    efu prog (Instr.storeAt 49 t_1 t_63) w fun u_66 w =>
    ∃ r_67, (do loadVar 35 (← asAddr f_0)).run prog w = .ok r_67 w ∧ ∃ r_68, (do loadVar 49 (← asAddr t_1)).run prog w = .ok r_68 w ∧ K (.tuple #[r_67, r_68, (.int .i64 7)]) w) <|
  Calls prog 15 #[s_p0, session_p1] w (Ret fun t_71 w =>
  pv prog (oBi .len #[43] 3 #[false] #[t_71]) w fun t_72 w =>
  pvv prog (binOp .geq 3 t_72 (.int .i64 2)) w fun t_73 w =>
  cd t_73 (
    dr w fun w =>
    bindS (vN (Instr.loadAt 35 f_0)) fun m_75 => ldv prog (Instr.loadAt 35 f_0) w fun t_74 w =>
    bindS (vN (Instr.loadAt 49 t_1)) fun m_77 => ldv prog (Instr.loadAt 49 t_1) w fun t_76 w =>
    efu prog (Instr.storeAt 35 f_0 t_74) w fun u_78 w => stay prog none m_77 t_76 w <| 
    efu prog (Instr.storeAt 49 t_1 t_76) w fun u_79 w =>
    ∃ r_80, (do loadVar 35 (← asAddr f_0)).run prog w = .ok r_80 w ∧ ∃ r_81, (do loadVar 49 (← asAddr t_1)).run prog w = .ok r_81 w ∧ K (.tuple #[r_80, r_81, (.int .i64 23)]) w) <|
  pv prog (oNil s_p0) w fun t_84 w =>
  pvv prog (Instr.fieldAt 67 t_84 0) w fun t_85 w =>
  pvv prog (Instr.fieldAt 62 t_85 0) w fun t_86 w =>
  ldv prog (Instr.loadAt 3 t_86) w fun t_87 w =>
  pvv prog (Instr.build 35 #[(0, t_87), (1, session_p1), (2, client_p2), (3, scopes_p3), (4, (.int .i64 1))]) w fun t_88 w =>
  efu prog (Instr.storeAt 35 f_0 t_88) w fun u_89 w =>
  dr w fun w =>
  pv prog (oNil s_p0) w fun t_90 w =>
  pvv prog (Instr.fieldAt 67 t_90 0) w fun t_91 w =>
  pvv prog (Instr.fieldAt 62 t_91 1) w fun t_92 w =>
  pvv prog (Instr.fieldAt 35 f_0 0) w fun t_93 w =>
  bindS (vN (Instr.loadAt 60 t_92)) fun m_95 => ldv prog (Instr.loadAt 60 t_92) w fun t_94 w =>
  bindS (vN (Instr.loadAt 3 t_93)) fun m_97 => ldv prog (Instr.loadAt 3 t_93) w fun t_96 w =>
  bindS (vN (Instr.loadAt 35 f_0)) fun m_99 => ldv prog (Instr.loadAt 35 f_0) w fun t_98 w =>
  efu prog (Instr.mapUpdate 60 t_94 t_96 t_98) w fun u_100 w =>
  pv prog (oNil s_p0) w fun t_101 w =>
  pvv prog (Instr.fieldAt 67 t_101 0) w fun t_102 w =>
  pvv prog (Instr.fieldAt 62 t_102 0) w fun t_103 w =>
  ldv prog (Instr.loadAt 3 t_103) w fun t_104 w =>
  pvv prog (binOp .add 3 t_104 (.int .i64 1)) w fun t_105 w =>
  pv prog (oNil s_p0) w fun t_106 w =>
  pvv prog (Instr.fieldAt 67 t_106 0) w fun t_107 w =>
  pvv prog (Instr.fieldAt 62 t_107 0) w fun t_108 w =>
  efu prog (Instr.storeAt 3 t_108 t_105) w fun u_109 w =>
  pv prog (oNil s_p0) w fun t_110 w =>
  pvv prog (Instr.fieldAt 67 t_110 2) w fun t_111 w =>
  efu prog (Instr.storeAt 3 t_111 now_p4) w fun u_112 w =>
  dr w fun w =>
  pvv prog (Instr.fieldAt 35 f_0 0) w fun t_113 w =>
  pvv prog (binOp .add 3 now_p4 (.int .i64 50)) w fun t_114 w =>
  bindS (vN (Instr.loadAt 35 f_0)) fun m_116 => ldv prog (Instr.loadAt 35 f_0) w fun t_115 w =>
  bindS (vN (Instr.loadAt 3 t_113)) fun m_118 => ldv prog (Instr.loadAt 3 t_113) w fun t_117 w =>
  Calls prog 51 #[s_p0, t_117, scopes_p3, t_114] w (Ret fun t_119 w => stay prog none m_116 t_115 w <| 
  efu prog (Instr.storeAt 35 f_0 t_115) w fun u_120 w =>
  efu prog (Instr.storeAt 49 t_1 t_119) w fun u_121 w =>
  ∃ r_122, (do loadVar 35 (← asAddr f_0)).run prog w = .ok r_122 w ∧ ∃ r_123, (do loadVar 49 (← asAddr t_1)).run prog w = .ok r_123 w ∧ K (.tuple #[r_122, r_123, (.int .i64 0)]) w)))))
theorem B17_eq (s_p0 session_p1 client_p2 scopes_p3 now_p4 : Value) (w : World) (K : Value → World → Prop) : denFn prog Tryz.f17 T17 [s_p0, session_p1, client_p2, scopes_p3, now_p4] w K = B17 s_p0 session_p1 client_p2 scopes_p3 now_p4 w K := by kernel_rfl
theorem c17 {s_p0 session_p1 client_p2 scopes_p3 now_p4 : Value} {w : World} {K : Value → World → Prop} (h : B17 s_p0 session_p1 client_p2 scopes_p3 now_p4 w K) : Calls prog 17 #[s_p0, session_p1, client_p2, scopes_p3, now_p4] w (Ret K) :=
  denFn_calls Tryz.func17 T17_ok (Eq.mpr (B17_eq s_p0 session_p1 client_p2 scopes_p3 now_p4 w K) h)

-- 16 (*holdfast/token.Store).Rows
def T16 : Ann := (.seq .none (.seq (.seq .none (.seq (.seq .none .none) .none)) (.seq (.draw [.op 0 .pure, .op 1 .pure, .op 2 .pure, .op 3 .pure, .op 6 .pure, .op 7 .pure, .op 8 .pure, .op 9 .pure, .op 12 .pure, .op 13 .pure, .op 14 .pure, .op 4 .load, .op 10 .load, .op 15 .load, .op 5 .eff, .op 11 .eff, .op 16 .eff, .op 17 .eff, .op 18 .pure, .op 19 .eff, .op 20 .pure]) (.seq (.seq .none (.block (.loop 2305842940494217272 [3] (.seq .none (.seq (.seq .none .none) (.block (.seq .none (.draw [.op 0 .pure, .op 1 .pure, .op 4 .pure, .op 7 .pure, .op 9 .pure, .op 13 .pure, .op 5 .load, .op 8 .load, .op 10 .load, .op 11 .pure, .op 14 .load, .op 2 .eff, .op 3 .pure, .op 6 .eff, .op 12 .eff, .op 15 .eff, .op 16 .eff, .op 17 .pure, .op 18 .eff, .op 19 .eff, .op 20 .pure])))))))) (.seq (.seq .none (.block (.loop 1237939891711427685222711496 [3] (.seq .none (.seq (.seq .none .none) (.block (.seq .none (.draw [.op 0 .pure, .op 1 .pure, .op 4 .pure, .op 7 .pure, .op 11 .pure, .op 5 .load, .op 8 .load, .op 9 .pure, .op 12 .load, .op 2 .eff, .op 3 .pure, .op 6 .eff, .op 10 .eff, .op 13 .eff, .op 14 .eff, .op 15 .pure, .op 16 .eff, .op 17 .eff, .op 18 .pure])))))))) (.seq .none (.seq .none .none)))))))
theorem T16_ok : chkFn prog Tryz.f16 T16 = true := by kernel_rfl
def B16 (s_p0 : Value) (w : World) (K : Value → World → Prop) : Prop :=
  pvv prog (oEq .eql 24 (.tmp 8) (.const (.pointer none)) s_p0 (.pointer none)) w fun t_0 w =>
  cd t_0 (
    K (.slice none 0 0) w) <|
  dr w fun w =>
  pv prog (oNil s_p0) w fun t_1 w =>
  pvv prog (Instr.fieldAt 67 t_1 0) w fun t_2 w =>
  pvv prog (Instr.fieldAt 62 t_2 0) w fun t_3 w =>
  pv prog (oNil s_p0) w fun t_4 w =>
  pvv prog (Instr.fieldAt 67 t_4 1) w fun t_5 w =>
  pvv prog (Instr.fieldAt 65 t_5 0) w fun t_6 w =>
  pv prog (oNil s_p0) w fun t_7 w =>
  pvv prog (Instr.fieldAt 67 t_7 2) w fun t_8 w =>
  bindS (vN (Instr.loadAt 3 t_3)) fun m_10 => ldv prog (Instr.loadAt 3 t_3) w fun t_9 w =>
  bindS (vN (Instr.loadAt 3 t_6)) fun m_12 => ldv prog (Instr.loadAt 3 t_6) w fun t_11 w =>
  bindS (vN (Instr.loadAt 3 t_8)) fun m_14 => ldv prog (Instr.loadAt 3 t_8) w fun t_13 w =>
  Calls prog 43 #[t_9] w (Ret fun t_15 w => stay prog none m_14 t_13 w <| stay prog none m_12 t_11 w <| 
  Calls prog 43 #[t_11] w (Ret fun t_16 w => stay prog none m_14 t_13 w <| stay prog none m_10 t_9 w <| 
  Calls prog 43 #[t_13] w (Ret fun t_17 w => stay prog none m_12 t_11 w <| stay prog none m_10 t_9 w <| 
  efv prog (Instr.buildSlice 82 3 #[(0, t_15), (1, t_16), (2, t_17)]) w fun t_18 w => stay prog none m_14 t_13 w <| stay prog none m_12 t_11 w <| stay prog none m_10 t_9 w <| 
  pvv prog (Instr.build 84 #[(0, (.string ⟨#[35]⟩)), (1, t_18)]) w fun t_19 w =>
  efv prog (Instr.buildSlice 45 1 #[(0, t_19)]) w fun t_20 w => stay prog none m_14 t_13 w <| stay prog none m_12 t_11 w <| stay prog none m_10 t_9 w <| 
  pv prog (oNil s_p0) w fun t_21 w =>
  pvv prog (Instr.fieldAt 67 t_21 0) w fun t_22 w =>
  pvv prog (Instr.fieldAt 62 t_22 1) w fun t_23 w =>
  ldv prog (Instr.loadAt 60 t_23) w fun t_24 w =>
  efv prog (Instr.range 60 t_24) w fun t_25 w =>
  lp (fun σ w again_27 => pop σ fun out_26 σ => fin σ <|
    efv prog (Instr.next t_25 false 0) w fun t_28 w =>
    pvv prog (Instr.extract t_28 0) w fun t_29 w =>
    cd t_29 (
      efv prog (Instr.entry t_25) w fun t_30 w =>
      pvv prog (Instr.extract t_30 0) w fun t_31 w =>
      pvv prog (Instr.extract t_30 1) w fun t_32 w =>
      efv prog (Instr.alloc 35 true (.tuple #[])) w fun f_33 w =>
      efu prog (Instr.storeAt 35 f_33 t_32) w fun u_34 w =>
      dr w fun w =>
      pvv prog (Instr.fieldAt 35 f_33 1) w fun t_35 w =>
      pvv prog (Instr.fieldAt 35 f_33 2) w fun t_36 w =>
      pvv prog (Instr.fieldAt 35 f_33 3) w fun t_37 w =>
      pvv prog (Instr.fieldAt 35 f_33 4) w fun t_38 w =>
      bindS (vN (Instr.loadAt 3 t_35)) fun m_40 => ldv prog (Instr.loadAt 3 t_35) w fun t_39 w =>
      bindS (vN (Instr.loadAt 9 t_36)) fun m_42 => ldv prog (Instr.loadAt 9 t_36) w fun t_41 w =>
      bindS (vN (Instr.loadAt 30 t_37)) fun m_44 => ldv prog (Instr.loadAt 30 t_37) w fun t_43 w =>
      pvv prog (convert 30 3 t_43) w fun t_45 w =>
      bindS (vN (Instr.loadAt 3 t_38)) fun m_47 => ldv prog (Instr.loadAt 3 t_38) w fun t_46 w =>
      Calls prog 43 #[t_31] w (Ret fun t_48 w => stay prog none m_47 t_46 w <| stay prog none m_44 t_43 w <| stay prog none m_42 t_41 w <| stay prog none m_40 t_39 w <| 
      pvv prog (binOp .add 9 (.string ⟨#[102]⟩) t_48) w fun t_49 w =>
      Calls prog 43 #[t_39] w (Ret fun t_50 w => stay prog none m_47 t_46 w <| stay prog none m_44 t_43 w <| stay prog none m_42 t_41 w <| 
      Calls prog 43 #[t_45] w (Ret fun t_51 w => stay prog none m_47 t_46 w <| stay prog none m_44 t_43 w <| stay prog none m_42 t_41 w <| stay prog none m_40 t_39 w <| 
      Calls prog 43 #[t_46] w (Ret fun t_52 w => stay prog none m_44 t_43 w <| stay prog none m_42 t_41 w <| stay prog none m_40 t_39 w <| 
      efv prog (Instr.buildSlice 82 4 #[(0, t_50), (1, t_41), (2, t_51), (3, t_52)]) w fun t_53 w => stay prog none m_47 t_46 w <| stay prog none m_44 t_43 w <| stay prog none m_40 t_39 w <| 
      pvv prog (Instr.build 84 #[(0, t_49), (1, t_53)]) w fun t_54 w =>
      efv prog (Instr.buildSlice 45 1 #[(0, t_54)]) w fun t_55 w => stay prog none m_47 t_46 w <| stay prog none m_44 t_43 w <| stay prog none m_42 t_41 w <| stay prog none m_40 t_39 w <| 
      ef prog (oBi .append #[45, 45] 45 #[false, false] #[out_26, t_55]) w fun t_56 w => stay prog none m_47 t_46 w <| stay prog none m_44 t_43 w <| stay prog none m_42 t_41 w <| stay prog none m_40 t_39 w <| 
      again_27 [t_56] w))))) <|
    pv prog (oNil s_p0) w fun t_64 w =>
    pvv prog (Instr.fieldAt 67 t_64 1) w fun t_65 w =>
    pvv prog (Instr.fieldAt 65 t_65 1) w fun t_66 w =>
    ldv prog (Instr.loadAt 63 t_66) w fun t_67 w =>
    efv prog (Instr.range 63 t_67) w fun t_68 w =>
    lp (fun σ w again_70 => pop σ fun out_69 σ => fin σ <|
      efv prog (Instr.next t_68 false 0) w fun t_71 w =>
      pvv prog (Instr.extract t_71 0) w fun t_72 w =>
      cd t_72 (
        efv prog (Instr.entry t_68) w fun t_73 w =>
        pvv prog (Instr.extract t_73 0) w fun t_74 w =>
        pvv prog (Instr.extract t_73 1) w fun t_75 w =>
        efv prog (Instr.alloc 49 true (.tuple #[])) w fun t_76 w =>
        efu prog (Instr.storeAt 49 t_76 t_75) w fun u_77 w =>
        dr w fun w =>
        pvv prog (Instr.fieldAt 49 t_76 1) w fun t_78 w =>
        pvv prog (Instr.fieldAt 49 t_76 2) w fun t_79 w =>
        pvv prog (Instr.fieldAt 49 t_76 3) w fun t_80 w =>
        bindS (vN (Instr.loadAt 3 t_78)) fun m_82 => ldv prog (Instr.loadAt 3 t_78) w fun t_81 w =>
        bindS (vN (Instr.loadAt 30 t_79)) fun m_84 => ldv prog (Instr.loadAt 30 t_79) w fun t_83 w =>
        pvv prog (convert 30 3 t_83) w fun t_85 w =>
        bindS (vN (Instr.loadAt 3 t_80)) fun m_87 => ldv prog (Instr.loadAt 3 t_80) w fun t_86 w =>
        Calls prog 43 #[t_74] w (Ret fun t_88 w => stay prog none m_87 t_86 w <| stay prog none m_84 t_83 w <| stay prog none m_82 t_81 w <| 
        pvv prog (binOp .add 9 (.string ⟨#[116]⟩) t_88) w fun t_89 w =>
        Calls prog 43 #[t_81] w (Ret fun t_90 w => stay prog none m_87 t_86 w <| stay prog none m_84 t_83 w <| 
        Calls prog 43 #[t_85] w (Ret fun t_91 w => stay prog none m_87 t_86 w <| stay prog none m_84 t_83 w <| stay prog none m_82 t_81 w <| 
        Calls prog 43 #[t_86] w (Ret fun t_92 w => stay prog none m_84 t_83 w <| stay prog none m_82 t_81 w <| 
        efv prog (Instr.buildSlice 82 3 #[(0, t_90), (1, t_91), (2, t_92)]) w fun t_93 w => stay prog none m_87 t_86 w <| stay prog none m_84 t_83 w <| stay prog none m_82 t_81 w <| 
        pvv prog (Instr.build 84 #[(0, t_89), (1, t_93)]) w fun t_94 w =>
        efv prog (Instr.buildSlice 45 1 #[(0, t_94)]) w fun t_95 w => stay prog none m_87 t_86 w <| stay prog none m_84 t_83 w <| stay prog none m_82 t_81 w <| 
        ef prog (oBi .append #[45, 45] 45 #[false, false] #[out_69, t_95]) w fun t_96 w => stay prog none m_87 t_86 w <| stay prog none m_84 t_83 w <| stay prog none m_82 t_81 w <| 
        again_70 [t_96] w))))) <|
      Calls prog 44 #[out_69, (.func (.func 45) #[] #[])] w (Ret fun t_104 w =>
      K out_69 w)) [out_26] w) [t_20] w)))
theorem B16_eq (s_p0 : Value) (w : World) (K : Value → World → Prop) : denFn prog Tryz.f16 T16 [s_p0] w K = B16 s_p0 w K := by kernel_rfl
theorem c16 {s_p0 : Value} {w : World} {K : Value → World → Prop} (h : B16 s_p0 w K) : Calls prog 16 #[s_p0] w (Ret K) :=
  denFn_calls Tryz.func16 T16_ok (Eq.mpr (B16_eq s_p0 w K) h)

-- 124 internal/strconv.formatBits
def T124 : Ann := (.seq .none (.meet 1073217536 [] (.seq .none (.seq .none .none)) (.seq .none (.seq .none (.meet 7516192770 [1] (.seq .none (.seq .none .none)) (.meet 618970019642690128860143618 [13] (.seq .none (.seq (.seq .none (.seq .none (.seq .none (.seq (.block (.loop 288212783965675522 [1, 13] (.seq (.seq .none (.seq .none .none)) (.block (.seq .none (.seq .none .none)))))) (.seq .none .none))))) (.seq .none (.seq (.block (.loop 9671332769940738559713282 [1, 13] (.seq (.seq .none (.seq .none .none)) (.block (.seq .none (.seq .none (.seq .none .none))))))) (.seq .none .none))))) (.meet 19188070608923394260936433664 [13] (.seq .none (.seq (.seq .none .none) .none)) (.seq (.seq .none (.seq (.seq .none .none) .none)) (.seq .none .none)))))))))
theorem T124_ok : chkFn prog Tryz.f124 T124 = true := by kernel_rfl
def B124 (dst_p0 u_p1 base_p2 neg_p3 append__p4 : Value) (w : World) (K : Value → World → Prop) : Prop :=
  jn (fun σ w => fin σ <|
    efv prog (Instr.alloc 164 true (.tuple #[])) w fun a_0 w =>
    jn (fun σ w => pop σ fun u_1 σ => fin σ <|
      jn (fun σ w => pop σ fun i_2 σ => fin σ <|
        jn (fun σ w => pop σ fun i_3 σ => fin σ <|
          cd append__p4 (
            pvv prog (Instr.sliceAt 164 a_0 (some i_3) none none) w fun t_4 w =>
            ef prog (oBi .append #[152, 152] 152 #[false, false] #[dst_p0, t_4]) w fun t_5 w =>
            K (.tuple #[t_5, (.string ⟨#[]⟩)]) w) <|
          pvv prog (Instr.sliceAt 164 a_0 (some i_3) none none) w fun t_6 w =>
          efv prog (convert 152 9 t_6) w fun t_7 w =>
          K (.tuple #[(.slice none 0 0), t_7]) w) fun k_8 =>
        cd neg_p3 (
          pvv prog (binOp .sub 3 i_2 (.int .i64 1)) w fun t_9 w =>
          pvv prog (Instr.indexAt 164 a_0 t_9) w fun t_10 w =>
          efu prog (Instr.storeAt 5 t_10 (.int .u8 45)) w fun u_11 w =>
          k_8 [t_9] w) <|
        k_8 [i_2] w) fun k_12 =>
      Calls prog 135 #[base_p2] w (Ret fun t_13 w =>
      cd t_13 (
        pvv prog (convert 3 106 base_p2) w fun t_14 w =>
        Calls prog 136 #[t_14] w (Ret fun t_15 w =>
        pvv prog (convert 3 106 t_15) w fun t_16 w =>
        pvv prog (convert 3 123 base_p2) w fun t_17 w =>
        pvv prog (convert 3 106 base_p2) w fun t_18 w =>
        pvv prog (binOp .sub 106 t_18 (.int .u64 1)) w fun t_19 w =>
        lp (fun σ w again_22 => pop σ fun u_20 σ => pop σ fun i_21 σ => fin σ <|
          pvv prog (binOp .geq 123 u_20 t_17) w fun t_23 w =>
          cd t_23 (
            pvv prog (binOp .sub 3 i_21 (.int .i64 1)) w fun t_24 w =>
            pvv prog (binOp .and 106 u_20 t_19) w fun t_25 w =>
            pvv prog (Instr.index 9 (.string ⟨#[48, 49, 50, 51, 52, 53, 54, 55, 56, 57, 97, 98, 99, 100, 101, 102, 103, 104, 105, 106, 107, 108, 109, 110, 111, 112, 113, 114, 115, 116, 117, 118, 119, 120, 121, 122]⟩) t_25) w fun t_26 w =>
            pvv prog (Instr.indexAt 164 a_0 t_24) w fun t_27 w =>
            efu prog (Instr.storeAt 5 t_27 t_26) w fun u_28 w =>
            pvv prog (binOp .shr 123 u_20 t_16) w fun t_29 w =>
            again_22 [t_29, t_24] w) <|
          pvv prog (binOp .sub 3 i_21 (.int .i64 1)) w fun t_30 w =>
          pvv prog (Instr.index 9 (.string ⟨#[48, 49, 50, 51, 52, 53, 54, 55, 56, 57, 97, 98, 99, 100, 101, 102, 103, 104, 105, 106, 107, 108, 109, 110, 111, 112, 113, 114, 115, 116, 117, 118, 119, 120, 121, 122]⟩) u_20) w fun t_31 w =>
          pvv prog (Instr.indexAt 164 a_0 t_30) w fun t_32 w =>
          efu prog (Instr.storeAt 5 t_32 t_31) w fun u_33 w =>
          k_12 [t_30] w) [u_1, (.int .i64 65)] w)) <|
      pvv prog (convert 3 123 base_p2) w fun t_34 w =>
      lp (fun σ w again_37 => pop σ fun u_35 σ => pop σ fun i_36 σ => fin σ <|
        pvv prog (binOp .geq 123 u_35 t_34) w fun t_38 w =>
        cd t_38 (
          pvv prog (binOp .sub 3 i_36 (.int .i64 1)) w fun t_39 w =>
          pvv prog (binOp .quo 123 u_35 t_34) w fun t_40 w =>
          pvv prog (binOp .mul 123 t_40 t_34) w fun t_41 w =>
          pvv prog (binOp .sub 123 u_35 t_41) w fun t_42 w =>
          pvv prog (Instr.index 9 (.string ⟨#[48, 49, 50, 51, 52, 53, 54, 55, 56, 57, 97, 98, 99, 100, 101, 102, 103, 104, 105, 106, 107, 108, 109, 110, 111, 112, 113, 114, 115, 116, 117, 118, 119, 120, 121, 122]⟩) t_42) w fun t_43 w =>
          pvv prog (Instr.indexAt 164 a_0 t_39) w fun t_44 w =>
          efu prog (Instr.storeAt 5 t_44 t_43) w fun u_45 w =>
          again_37 [t_40, t_39] w) <|
        pvv prog (binOp .sub 3 i_36 (.int .i64 1)) w fun t_46 w =>
        pvv prog (Instr.index 9 (.string ⟨#[48, 49, 50, 51, 52, 53, 54, 55, 56, 57, 97, 98, 99, 100, 101, 102, 103, 104, 105, 106, 107, 108, 109, 110, 111, 112, 113, 114, 115, 116, 117, 118, 119, 120, 121, 122]⟩) u_35) w fun t_47 w =>
        pvv prog (Instr.indexAt 164 a_0 t_46) w fun t_48 w =>
        efu prog (Instr.storeAt 5 t_48 t_47) w fun u_49 w =>
        k_12 [t_46] w) [u_1, (.int .i64 65)] w)) fun k_50 =>
    cd neg_p3 (
      pvv prog (Op.unary .neg u_p1) w fun t_51 w =>
      k_50 [t_51] w) <|
    k_50 [u_p1] w) fun k_52 =>
  pvv prog (binOp .lss 3 base_p2 (.int .i64 2)) w fun t_53 w =>
  gate (some (t_53, false)) (fun K => K base_p2 w) w fun t_54 w =>
  gate (some (t_53, false)) (fun K => pvv prog (oEq .eql 3 (.tmp 22) (.const (.int .i64 10)) t_54 (.int .i64 10)) w K) w fun t_55 w =>
  pv prog (oPick t_53 (.bool true) t_55) w fun t_56 w =>
  gate (some (t_56, false)) (fun K => K base_p2 w) w fun t_57 w =>
  gate (some (t_56, false)) (fun K => pvv prog (binOp .gtr 3 t_57 (.int .i64 36)) w K) w fun t_58 w =>
  pv prog (oPick t_56 (.bool true) t_58) w fun t_59 w =>
  cd t_59 (
    pvv prog (Instr.makeInterface 9 (.string ⟨#[115, 116, 114, 99, 111, 110, 118, 58, 32, 105, 108, 108, 101, 103, 97, 108, 32, 65, 112, 112, 101, 110, 100, 73, 110, 116, 47, 70, 111, 114, 109, 97, 116, 73, 110, 116, 32, 98, 97, 115, 101]⟩)) w fun t_60 w =>
    efv prog (Instr.panic t_60) w fun u_61 w =>
    k_52 [] w) <|
  k_52 [] w
theorem B124_eq (dst_p0 u_p1 base_p2 neg_p3 append__p4 : Value) (w : World) (K : Value → World → Prop) : denFn prog Tryz.f124 T124 [dst_p0, u_p1, base_p2, neg_p3, append__p4] w K = B124 dst_p0 u_p1 base_p2 neg_p3 append__p4 w K := by kernel_rfl
theorem c124 {dst_p0 u_p1 base_p2 neg_p3 append__p4 : Value} {w : World} {K : Value → World → Prop} (h : B124 dst_p0 u_p1 base_p2 neg_p3 append__p4 w K) : Calls prog 124 #[dst_p0, u_p1, base_p2, neg_p3, append__p4] w (Ret K) :=
  denFn_calls Tryz.func124 T124_ok (Eq.mpr (B124_eq dst_p0 u_p1 base_p2 neg_p3 append__p4 w K) h)

-- 18 (*holdfast/token.Store).Refresh
def T18 : Ann := (.seq .none (.seq .none (.seq .none (.meet 134154240 [11] (.seq .none (.seq .none .none)) (.meet 4611686018293172224 [11] (.block (.seq .none (.seq .none (.seq .none (.seq .none (.seq .none (.seq (.seq .none (.seq .none .none)) (.seq .none (.seq .none .none))))))))) (.seq (.seq .none (.seq (.seq .none .none) .none)) (.seq .none (.seq (.draw [.op 0 .pure, .op 1 .pure, .op 2 .pure, .op 3 .pure, .op 5 .pure, .op 4 .load, .op 6 .load, .op 7 .eff]) (.seq .none (.seq (.draw [.op 1 .pure, .op 2 .pure, .op 3 .pure, .op 5 .pure, .op 6 .pure, .op 0 .load, .op 4 .load, .op 7 .eff, .op 8 .eff, .op 9 .eff, .op 10 .pure]) .none))))))))))
theorem T18_ok : chkFn prog Tryz.f18 T18 = true := by kernel_rfl
def B18 (s_p0 family_p1 number_p2 now_p3 : Value) (w : World) (K : Value → World → Prop) : Prop :=
  efv prog (Instr.alloc 35 true (.tuple #[])) w fun t_0 w =>
  efv prog (Instr.alloc 49 true (.tuple #[])) w fun t_1 w =>
  Calls prog 47 #[s_p0, now_p3] w (Ret fun t_2 w =>
  efv prog (Instr.alloc 35 true (.tuple #[])) w fun f_3 w =>
  jn (fun σ w => pop σ fun e_4 σ => fin σ <|
    jn (fun σ w => pop σ fun e_5 σ => fin σ <|
      pvv prog (oEq .neq 36 (.tmp 62) (.const (.int .i64 0)) e_5 (.int .i64 0)) w fun t_6 w =>
      cd t_6 (
        pvv prog (Instr.build 35 #[]) w fun t_7 w =>
        pvv prog (Instr.build 49 #[]) w fun t_8 w =>
        efu prog (Instr.storeAt 35 t_0 t_7) w fun u_9 w =>
        efu prog (Instr.storeAt 49 t_1 t_8) w fun u_10 w =>
        ∃ r_11, (do loadVar 35 (← asAddr t_0)).run prog w = .ok r_11 w ∧ ∃ r_12, (do loadVar 49 (← asAddr t_1)).run prog w = .ok r_12 w ∧ K (.tuple #[r_11, r_12, e_5]) w) <|
      pvv prog (Instr.fieldAt 35 f_3 4) w fun t_13 w =>
      ldv prog (Instr.loadAt 3 t_13) w fun t_14 w =>
      pvv prog (binOp .add 3 t_14 (.int .i64 1)) w fun t_15 w =>
      pvv prog (Instr.fieldAt 35 f_3 4) w fun t_16 w =>
      efu prog (Instr.storeAt 3 t_16 t_15) w fun u_17 w =>
      dr w fun w =>
      pv prog (oNil s_p0) w fun t_18 w =>
      pvv prog (Instr.fieldAt 67 t_18 0) w fun t_19 w =>
      pvv prog (Instr.fieldAt 62 t_19 1) w fun t_20 w =>
      bindS (vN (Instr.loadAt 60 t_20)) fun m_22 => ldv prog (Instr.loadAt 60 t_20) w fun t_21 w =>
      bindS (vN (Instr.loadAt 35 f_3)) fun m_24 => ldv prog (Instr.loadAt 35 f_3) w fun t_23 w =>
      efu prog (Instr.mapUpdate 60 t_21 family_p1 t_23) w fun u_25 w =>
      pv prog (oNil s_p0) w fun t_26 w =>
      pvv prog (Instr.fieldAt 67 t_26 2) w fun t_27 w =>
      efu prog (Instr.storeAt 3 t_27 now_p3) w fun u_28 w =>
      dr w fun w =>
      pvv prog (Instr.fieldAt 35 f_3 3) w fun t_29 w =>
      pvv prog (binOp .add 3 now_p3 (.int .i64 50)) w fun t_30 w =>
      bindS (vN (Instr.loadAt 35 f_3)) fun m_32 => ldv prog (Instr.loadAt 35 f_3) w fun t_31 w =>
      bindS (vN (Instr.loadAt 30 t_29)) fun m_34 => ldv prog (Instr.loadAt 30 t_29) w fun t_33 w =>
      Calls prog 51 #[s_p0, family_p1, t_33, t_30] w (Ret fun t_35 w => stay prog none m_32 t_31 w <| 
      efu prog (Instr.storeAt 35 t_0 t_31) w fun u_36 w => stay prog none m_34 t_33 w <| 
      efu prog (Instr.storeAt 49 t_1 t_35) w fun u_37 w =>
      ∃ r_38, (do loadVar 35 (← asAddr t_0)).run prog w = .ok r_38 w ∧ ∃ r_39, (do loadVar 49 (← asAddr t_1)).run prog w = .ok r_39 w ∧ K (.tuple #[r_38, r_39, (.int .i64 0)]) w)) fun k_44 =>
    pvv prog (oEq .neq 36 (.tmp 28) (.const (.int .i64 0)) e_4 (.int .i64 0)) w fun t_45 w =>
    cd t_45 (
      k_44 [e_4] w) <|
    pvv prog (binOp .lss 3 number_p2 (.int .i64 1)) w fun t_46 w =>
    gate (some (t_46, false)) (fun K => K number_p2 w) w fun t_47 w =>
    gate (some (t_46, false)) (fun K => pvv prog (Instr.fieldAt 35 f_3 4) w K) w fun t_48 w =>
    gate (some (t_46, false)) (fun K => ldv prog (Instr.loadAt 3 t_48) w K) w fun t_49 w =>
    gate (some (t_46, false)) (fun K => pvv prog (binOp .gtr 3 t_47 t_49) w K) w fun t_50 w =>
    pv prog (oPick t_46 (.bool true) t_50) w fun t_51 w =>
    cd t_51 (
      k_44 [(.int .i64 10)] w) <|
    pvv prog (Instr.fieldAt 35 f_3 4) w fun t_52 w =>
    ldv prog (Instr.loadAt 3 t_52) w fun t_53 w =>
    pvv prog (binOp .lss 3 number_p2 t_53) w fun t_54 w =>
    cd t_54 (
      Calls prog 52 #[s_p0, family_p1] w (Ret fun t_55 w =>
      pv prog (oNil s_p0) w fun t_56 w =>
      pvv prog (Instr.fieldAt 67 t_56 2) w fun t_57 w =>
      efu prog (Instr.storeAt 3 t_57 now_p3) w fun u_58 w =>
      k_44 [(.int .i64 13)] w)) <|
    pv prog (oNil s_p0) w fun t_59 w =>
    pvv prog (Instr.fieldAt 67 t_59 1) w fun t_60 w =>
    ldv prog (Instr.loadAt 65 t_60) w fun t_61 w =>
    Calls prog 50 #[t_61] w (Ret fun t_62 w =>
    gate (some (t_62, false)) (fun K => pvv prog (Instr.fieldAt 35 f_3 4) w K) w fun t_63 w =>
    gate (some (t_62, false)) (fun K => ldv prog (Instr.loadAt 3 t_63) w K) w fun t_64 w =>
    gate (some (t_62, false)) (fun K => pvv prog (binOp .geq 3 t_64 (.int .i64 1099511627776)) w K) w fun t_65 w =>
    pv prog (oPick t_62 (.bool true) t_65) w fun t_66 w =>
    cd t_66 (
      k_44 [(.int .i64 7)] w) <|
    k_44 [e_4] w)) fun k_67 =>
  pvv prog (oEq .eql 36 (.tmp 16) (.const (.int .i64 0)) t_2 (.int .i64 0)) w fun t_68 w =>
  cd t_68 (
    pv prog (oNil s_p0) w fun t_69 w =>
    pvv prog (Instr.fieldAt 67 t_69 0) w fun t_70 w =>
    ldv prog (Instr.loadAt 62 t_70) w fun t_71 w =>
    Calls prog 37 #[t_71, family_p1] w (Ret fun t_72 w =>
    pvv prog (Instr.extract t_72 0) w fun t_73 w =>
    pvv prog (Instr.extract t_72 1) w fun t_74 w =>
    efu prog (Instr.storeAt 35 f_3 t_73) w fun u_75 w =>
    k_67 [t_74] w)) <|
  k_67 [t_2] w)
theorem B18_eq (s_p0 family_p1 number_p2 now_p3 : Value) (w : World) (K : Value → World → Prop) : denFn prog Tryz.f18 T18 [s_p0, family_p1, number_p2, now_p3] w K = B18 s_p0 family_p1 number_p2 now_p3 w K := by kernel_rfl
theorem c18 {s_p0 family_p1 number_p2 now_p3 : Value} {w : World} {K : Value → World → Prop} (h : B18 s_p0 family_p1 number_p2 now_p3 w K) : Calls prog 18 #[s_p0, family_p1, number_p2, now_p3] w (Ret K) :=
  denFn_calls Tryz.func18 T18_ok (Eq.mpr (B18_eq s_p0 family_p1 number_p2 now_p3 w K) h)

-- 61 (*holdfast/holdfastref12.Store).drop
def T61 : Ann := (.seq .none (.seq (.seq .none (.block (.loop 137438953264 [4, 5] (.seq (.seq .none (.seq .none .none)) (.meet 137438822416 [4] (.block (.seq .none (.seq .none .none))) .none))))) (.seq .none (.seq (.seq .none (.block (.loop 73786976157399253184 [6, 7] (.seq (.seq .none (.seq .none .none)) (.meet 73786905926094028864 [6] (.block (.seq .none (.seq .none .none))) .none))))) .none))))
theorem T61_ok : chkFn prog Tryz.f61 T61 = true := by kernel_rfl
def B61 (s_p0 id_p1 : Value) (w : World) (K : Value → World → Prop) : Prop :=
  lp (fun σ w again_2 => pop σ fun f_0 σ => pop σ fun i_1 σ => fin σ <|
    pv prog (oNil s_p0) w fun t_3 w =>
    pvv prog (Instr.fieldAt 69 t_3 3) w fun t_4 w =>
    ldv prog (Instr.loadAt 43 t_4) w fun t_5 w =>
    pv prog (oBi .len #[43] 3 #[false] #[t_5]) w fun t_6 w =>
    pvv prog (binOp .lss 3 i_1 t_6) w fun t_7 w =>
    cd t_7 (
      jn (fun σ w => pop σ fun f_8 σ => fin σ <|
        pvv prog (binOp .add 3 i_1 (.int .i64 1)) w fun t_9 w =>
        again_2 [f_8, t_9] w) fun k_10 =>
      pv prog (oNil s_p0) w fun t_11 w =>
      pvv prog (Instr.fieldAt 69 t_11 3) w fun t_12 w =>
      ldv prog (Instr.loadAt 43 t_12) w fun t_13 w =>
      pvv prog (Instr.indexAt 43 t_13 i_1) w fun t_14 w =>
      pvv prog (Instr.fieldAt 35 t_14 0) w fun t_15 w =>
      ldv prog (Instr.loadAt 3 t_15) w fun t_16 w =>
      pvv prog (oEq .neq 3 (.tmp 24) (.tmp 25) t_16 id_p1) w fun t_17 w =>
      cd t_17 (
        pv prog (oNil s_p0) w fun t_18 w =>
        pvv prog (Instr.fieldAt 69 t_18 3) w fun t_19 w =>
        ldv prog (Instr.loadAt 43 t_19) w fun t_20 w =>
        pvv prog (Instr.indexAt 43 t_20 i_1) w fun t_21 w =>
        ldv prog (Instr.loadAt 35 t_21) w fun t_22 w =>
        efv prog (Instr.buildSlice 43 1 #[(0, t_22)]) w fun t_23 w =>
        ef prog (oBi .append #[43, 43] 43 #[false, false] #[f_0, t_23]) w fun t_24 w =>
        k_10 [t_24] w) <|
      k_10 [f_0] w) <|
    lp (fun σ w again_27 => pop σ fun t_25 σ => pop σ fun i_26 σ => fin σ <|
      pv prog (oNil s_p0) w fun t_28 w =>
      pvv prog (Instr.fieldAt 69 t_28 4) w fun t_29 w =>
      ldv prog (Instr.loadAt 41 t_29) w fun t_30 w =>
      pv prog (oBi .len #[41] 3 #[false] #[t_30]) w fun t_31 w =>
      pvv prog (binOp .lss 3 i_26 t_31) w fun t_32 w =>
      cd t_32 (
        jn (fun σ w => pop σ fun t_33 σ => fin σ <|
          pvv prog (binOp .add 3 i_26 (.int .i64 1)) w fun t_34 w =>
          again_27 [t_33, t_34] w) fun k_35 =>
        pv prog (oNil s_p0) w fun t_36 w =>
        pvv prog (Instr.fieldAt 69 t_36 4) w fun t_37 w =>
        ldv prog (Instr.loadAt 41 t_37) w fun t_38 w =>
        pvv prog (Instr.indexAt 41 t_38 i_26) w fun t_39 w =>
        pvv prog (Instr.fieldAt 49 t_39 1) w fun t_40 w =>
        ldv prog (Instr.loadAt 3 t_40) w fun t_41 w =>
        pvv prog (oEq .neq 3 (.tmp 53) (.tmp 54) t_41 id_p1) w fun t_42 w =>
        cd t_42 (
          pv prog (oNil s_p0) w fun t_43 w =>
          pvv prog (Instr.fieldAt 69 t_43 4) w fun t_44 w =>
          ldv prog (Instr.loadAt 41 t_44) w fun t_45 w =>
          pvv prog (Instr.indexAt 41 t_45 i_26) w fun t_46 w =>
          ldv prog (Instr.loadAt 49 t_46) w fun t_47 w =>
          efv prog (Instr.buildSlice 41 1 #[(0, t_47)]) w fun t_48 w =>
          ef prog (oBi .append #[41, 41] 41 #[false, false] #[t_25, t_48]) w fun t_49 w =>
          k_35 [t_49] w) <|
        k_35 [t_25] w) <|
      pv prog (oNil s_p0) w fun t_50 w =>
      pvv prog (Instr.fieldAt 69 t_50 3) w fun t_51 w =>
      efu prog (Instr.storeAt 43 t_51 f_0) w fun u_52 w =>
      pv prog (oNil s_p0) w fun t_53 w =>
      pvv prog (Instr.fieldAt 69 t_53 4) w fun t_54 w =>
      efu prog (Instr.storeAt 41 t_54 t_25) w fun u_55 w =>
      K (.tuple #[]) w) [(.slice none 0 0), (.int .i64 0)] w) [(.slice none 0 0), (.int .i64 0)] w
theorem B61_eq (s_p0 id_p1 : Value) (w : World) (K : Value → World → Prop) : denFn prog Tryz.f61 T61 [s_p0, id_p1] w K = B61 s_p0 id_p1 w K := by kernel_rfl
theorem c61 {s_p0 id_p1 : Value} {w : World} {K : Value → World → Prop} (h : B61 s_p0 id_p1 w K) : Calls prog 61 #[s_p0, id_p1] w (Ret K) :=
  denFn_calls Tryz.func61 T61_ok (Eq.mpr (B61_eq s_p0 id_p1 w K) h)

-- 20 (*holdfast/token.Store).Exchange
def T20 : Ann := (.seq .none (.seq .none (.seq (.block (.seq .none (.seq (.seq .none .none) (.seq .none (.seq (.seq .none .none) (.seq .none (.seq (.seq .none .none) .none))))))) (.seq .none (.seq .none .none)))))
theorem T20_ok : chkFn prog Tryz.f20 T20 = true := by kernel_rfl
def B20 (s_p0 id_p1 scopes_p2 now_p3 : Value) (w : World) (K : Value → World → Prop) : Prop :=
  efv prog (Instr.alloc 49 true (.tuple #[])) w fun t_0 w =>
  Calls prog 19 #[s_p0, id_p1, now_p3] w (Ret fun t_1 w =>
  pvv prog (Instr.extract t_1 0) w fun t_2 w =>
  pvv prog (Instr.extract t_1 1) w fun t_3 w =>
  efv prog (Instr.alloc 49 true (.tuple #[])) w fun t_4 w =>
  efu prog (Instr.storeAt 49 t_4 t_2) w fun u_5 w =>
  pvv prog (oEq .neq 36 (.tmp 20) (.const (.int .i64 0)) t_3 (.int .i64 0)) w fun t_6 w =>
  cd t_6 (
    pvv prog (Instr.build 49 #[]) w fun t_7 w =>
    efu prog (Instr.storeAt 49 t_0 t_7) w fun u_8 w =>
    ∃ r_9, (do loadVar 49 (← asAddr t_0)).run prog w = .ok r_9 w ∧ K (.tuple #[r_9, t_3]) w) <|
  pvv prog (Instr.fieldAt 49 t_4 2) w fun t_10 w =>
  ldv prog (Instr.loadAt 30 t_10) w fun t_11 w =>
  pvv prog (binOp .andNot 30 scopes_p2 t_11) w fun t_12 w =>
  pvv prog (oEq .neq 30 (.tmp 28) (.const (.int .u8 0)) t_12 (.int .u8 0)) w fun t_13 w =>
  cd t_13 (
    pvv prog (Instr.build 49 #[]) w fun t_14 w =>
    efu prog (Instr.storeAt 49 t_0 t_14) w fun u_15 w =>
    ∃ r_16, (do loadVar 49 (← asAddr t_0)).run prog w = .ok r_16 w ∧ K (.tuple #[r_16, (.int .i64 14)]) w) <|
  pv prog (oNil s_p0) w fun t_17 w =>
  pvv prog (Instr.fieldAt 67 t_17 1) w fun t_18 w =>
  ldv prog (Instr.loadAt 65 t_18) w fun t_19 w =>
  Calls prog 50 #[t_19] w (Ret fun t_20 w =>
  cd t_20 (
    pvv prog (Instr.build 49 #[]) w fun t_21 w =>
    efu prog (Instr.storeAt 49 t_0 t_21) w fun u_22 w =>
    ∃ r_23, (do loadVar 49 (← asAddr t_0)).run prog w = .ok r_23 w ∧ K (.tuple #[r_23, (.int .i64 7)]) w) <|
  pv prog (oNil s_p0) w fun t_24 w =>
  pvv prog (Instr.fieldAt 67 t_24 2) w fun t_25 w =>
  efu prog (Instr.storeAt 3 t_25 now_p3) w fun u_26 w =>
  pvv prog (Instr.fieldAt 49 t_4 1) w fun t_27 w =>
  ldv prog (Instr.loadAt 3 t_27) w fun t_28 w =>
  pvv prog (Instr.fieldAt 49 t_4 3) w fun t_29 w =>
  ldv prog (Instr.loadAt 3 t_29) w fun t_30 w =>
  Calls prog 51 #[s_p0, t_28, scopes_p2, t_30] w (Ret fun t_31 w =>
  efu prog (Instr.storeAt 49 t_0 t_31) w fun u_32 w =>
  ∃ r_33, (do loadVar 49 (← asAddr t_0)).run prog w = .ok r_33 w ∧ K (.tuple #[r_33, (.int .i64 0)]) w)))
theorem B20_eq (s_p0 id_p1 scopes_p2 now_p3 : Value) (w : World) (K : Value → World → Prop) : denFn prog Tryz.f20 T20 [s_p0, id_p1, scopes_p2, now_p3] w K = B20 s_p0 id_p1 scopes_p2 now_p3 w K := by kernel_rfl
theorem c20 {s_p0 id_p1 scopes_p2 now_p3 : Value} {w : World} {K : Value → World → Prop} (h : B20 s_p0 id_p1 scopes_p2 now_p3 w K) : Calls prog 20 #[s_p0, id_p1, scopes_p2, now_p3] w (Ret K) :=
  denFn_calls Tryz.func20 T20_ok (Eq.mpr (B20_eq s_p0 id_p1 scopes_p2 now_p3 w K) h)

-- 57 (*holdfast/holdfastref12.Store).Families
def T57 : Ann := (.seq .none (.seq .none (.seq (.seq .none (.block (.loop 1099511627744 [5, 6] (.seq (.seq .none (.seq .none .none)) (.meet 1099510579232 [5] (.block (.seq .none (.seq .none .none))) .none))))) (.seq .none .none))))
theorem T57_ok : chkFn prog Tryz.f57 T57 = true := by kernel_rfl
def B57 (s_p0 session_p1 : Value) (w : World) (K : Value → World → Prop) : Prop :=
  lp (fun σ w again_2 => pop σ fun out_0 σ => pop σ fun i_1 σ => fin σ <|
    pvv prog (oEq .neq 26 (.tmp 7) (.const (.pointer none)) s_p0 (.pointer none)) w fun t_3 w =>
    gate (some (t_3, true)) (fun K => K i_1 w) w fun t_4 w =>
    gate (some (t_3, true)) (fun K => K s_p0 w) w fun t_5 w =>
    gate (some (t_3, true)) (fun K => pv prog (oNil t_5) w K) w fun t_6 w =>
    gate (some (t_3, true)) (fun K => pvv prog (Instr.fieldAt 69 t_6 3) w K) w fun t_7 w =>
    gate (some (t_3, true)) (fun K => ldv prog (Instr.loadAt 43 t_7) w K) w fun t_8 w =>
    gate (some (t_3, true)) (fun K => pv prog (oBi .len #[43] 3 #[false] #[t_8]) w K) w fun t_9 w =>
    gate (some (t_3, true)) (fun K => pvv prog (binOp .lss 3 t_4 t_9) w K) w fun t_10 w =>
    pv prog (oPick t_3 t_10 (.bool false)) w fun t_11 w =>
    cd t_11 (
      jn (fun σ w => pop σ fun out_12 σ => fin σ <|
        pvv prog (binOp .add 3 i_1 (.int .i64 1)) w fun t_13 w =>
        again_2 [out_12, t_13] w) fun k_14 =>
      pv prog (oNil s_p0) w fun t_15 w =>
      pvv prog (Instr.fieldAt 69 t_15 3) w fun t_16 w =>
      ldv prog (Instr.loadAt 43 t_16) w fun t_17 w =>
      pvv prog (Instr.indexAt 43 t_17 i_1) w fun t_18 w =>
      pvv prog (Instr.fieldAt 35 t_18 1) w fun t_19 w =>
      ldv prog (Instr.loadAt 3 t_19) w fun t_20 w =>
      pvv prog (oEq .eql 3 (.tmp 27) (.tmp 28) t_20 session_p1) w fun t_21 w =>
      cd t_21 (
        pv prog (oNil s_p0) w fun t_22 w =>
        pvv prog (Instr.fieldAt 69 t_22 3) w fun t_23 w =>
        ldv prog (Instr.loadAt 43 t_23) w fun t_24 w =>
        pvv prog (Instr.indexAt 43 t_24 i_1) w fun t_25 w =>
        ldv prog (Instr.loadAt 35 t_25) w fun t_26 w =>
        efv prog (Instr.buildSlice 43 1 #[(0, t_26)]) w fun t_27 w =>
        ef prog (oBi .append #[43, 43] 43 #[false, false] #[out_0, t_27]) w fun t_28 w =>
        k_14 [t_28] w) <|
      k_14 [out_0] w) <|
    K out_0 w) [(.slice none 0 0), (.int .i64 0)] w
theorem B57_eq (s_p0 session_p1 : Value) (w : World) (K : Value → World → Prop) : denFn prog Tryz.f57 T57 [s_p0, session_p1] w K = B57 s_p0 session_p1 w K := by kernel_rfl
theorem c57 {s_p0 session_p1 : Value} {w : World} {K : Value → World → Prop} (h : B57 s_p0 session_p1 w K) : Calls prog 57 #[s_p0, session_p1] w (Ret K) :=
  denFn_calls Tryz.func57 T57_ok (Eq.mpr (B57_eq s_p0 session_p1 w K) h)

-- 58 (*holdfast/holdfastref12.Store).fresh
def T58 : Ann := (.seq .none (.meet 6152 [3] (.seq .none (.seq .none .none)) (.seq .none (.seq .none (.seq .none (.seq .none (.seq .none (.seq .none .none))))))))
theorem T58_ok : chkFn prog Tryz.f58 T58 = true := by kernel_rfl
def B58 (s_p0 family_p1 scopes_p2 until_p3 : Value) (w : World) (K : Value → World → Prop) : Prop :=
  efv prog (Instr.alloc 49 true (.tuple #[])) w fun t_0 w =>
  jn (fun σ w => pop σ fun until_1 σ => fin σ <|
    pv prog (oNil s_p0) w fun t_2 w =>
    pvv prog (Instr.fieldAt 69 t_2 1) w fun t_3 w =>
    ldv prog (Instr.loadAt 3 t_3) w fun t_4 w =>
    pvv prog (Instr.build 49 #[(0, t_4), (1, family_p1), (2, scopes_p2), (3, until_1)]) w fun t_5 w =>
    efv prog (Instr.alloc 49 true (.tuple #[])) w fun x_6 w =>
    efu prog (Instr.storeAt 49 x_6 t_5) w fun u_7 w =>
    pv prog (oNil s_p0) w fun t_8 w =>
    pvv prog (Instr.fieldAt 69 t_8 1) w fun t_9 w =>
    ldv prog (Instr.loadAt 3 t_9) w fun t_10 w =>
    pvv prog (binOp .add 3 t_10 (.int .i64 1)) w fun t_11 w =>
    pv prog (oNil s_p0) w fun t_12 w =>
    pvv prog (Instr.fieldAt 69 t_12 1) w fun t_13 w =>
    efu prog (Instr.storeAt 3 t_13 t_11) w fun u_14 w =>
    pv prog (oNil s_p0) w fun t_15 w =>
    pvv prog (Instr.fieldAt 69 t_15 4) w fun t_16 w =>
    ldv prog (Instr.loadAt 41 t_16) w fun t_17 w =>
    ef prog (oBi .append #[41, 41] 41 #[false, false] #[(.slice none 0 0), t_17]) w fun t_18 w =>
    ldv prog (Instr.loadAt 49 x_6) w fun t_19 w =>
    efv prog (Instr.buildSlice 41 1 #[(0, t_19)]) w fun t_20 w =>
    ef prog (oBi .append #[41, 41] 41 #[false, false] #[t_18, t_20]) w fun t_21 w =>
    pv prog (oNil s_p0) w fun t_22 w =>
    pvv prog (Instr.fieldAt 69 t_22 4) w fun t_23 w =>
    efu prog (Instr.storeAt 41 t_23 t_21) w fun u_24 w =>
    ldv prog (Instr.loadAt 49 x_6) w fun t_25 w =>
    efu prog (Instr.storeAt 49 t_0 t_25) w fun u_26 w =>
    ∃ r_27, (do loadVar 49 (← asAddr t_0)).run prog w = .ok r_27 w ∧ K r_27 w) fun k_28 =>
  pvv prog (binOp .gtr 3 until_p3 (.int .i64 1099511627776)) w fun t_29 w =>
  cd t_29 (
    k_28 [(.int .i64 1099511627776)] w) <|
  k_28 [until_p3] w
theorem B58_eq (s_p0 family_p1 scopes_p2 until_p3 : Value) (w : World) (K : Value → World → Prop) : denFn prog Tryz.f58 T58 [s_p0, family_p1, scopes_p2, until_p3] w K = B58 s_p0 family_p1 scopes_p2 until_p3 w K := by kernel_rfl
theorem c58 {s_p0 family_p1 scopes_p2 until_p3 : Value} {w : World} {K : Value → World → Prop} (h : B58 s_p0 family_p1 scopes_p2 until_p3 w K) : Calls prog 58 #[s_p0, family_p1, scopes_p2, until_p3] w (Ret K) :=
  denFn_calls Tryz.func58 T58_ok (Eq.mpr (B58_eq s_p0 family_p1 scopes_p2 until_p3 w K) h)

-- 37 (holdfast/token.row[holdfast/api.Family]).find
def T37 : Ann := (.seq .none (.seq (.seq .none (.seq (.seq .none .none) .none)) (.seq .none (.seq (.seq .none (.seq (.seq .none .none) .none)) (.seq .none .none)))))
theorem T37_ok : chkFn prog Tryz.f37 T37 = true := by kernel_rfl
def B37 (r_p0 id_p1 : Value) (w : World) (K : Value → World → Prop) : Prop :=
  efv prog (Instr.box 62 r_p0) w fun r_0 w =>
  efv prog (Instr.alloc 35 true (.tuple #[])) w fun x_1 w =>
  pvv prog (binOp .lss 3 id_p1 (.int .i64 1)) w fun t_2 w =>
  gate (some (t_2, false)) (fun K => K id_p1 w) w fun t_3 w =>
  gate (some (t_2, false)) (fun K => pvv prog (Instr.fieldAt 62 r_0 0) w K) w fun t_4 w =>
  gate (some (t_2, false)) (fun K => ldv prog (Instr.loadAt 3 t_4) w K) w fun t_5 w =>
  gate (some (t_2, false)) (fun K => pvv prog (binOp .geq 3 t_3 t_5) w K) w fun t_6 w =>
  pv prog (oPick t_2 (.bool true) t_6) w fun t_7 w =>
  cd t_7 (
    ldv prog (Instr.loadAt 35 x_1) w fun t_8 w =>
    efu prog (Instr.storeAt 35 x_1 t_8) w fun u_9 w =>
    ∃ r_10, (do loadVar 35 (← asAddr x_1)).run prog w = .ok r_10 w ∧ K (.tuple #[r_10, (.int .i64 4)]) w) <|
  pvv prog (Instr.fieldAt 62 r_0 1) w fun t_11 w =>
  ldv prog (Instr.loadAt 60 t_11) w fun t_12 w =>
  ldv prog (Instr.lookup 60 t_12 id_p1 true) w fun t_13 w =>
  pvv prog (Instr.extract t_13 0) w fun t_14 w =>
  pvv prog (Instr.extract t_13 1) w fun t_15 w =>
  efu prog (Instr.storeAt 35 x_1 t_14) w fun u_16 w =>
  pvv prog (Op.unary .not t_15) w fun t_17 w =>
  cd t_17 (
    ldv prog (Instr.loadAt 35 x_1) w fun t_18 w =>
    efu prog (Instr.storeAt 35 x_1 t_18) w fun u_19 w =>
    ∃ r_20, (do loadVar 35 (← asAddr x_1)).run prog w = .ok r_20 w ∧ K (.tuple #[r_20, (.int .i64 12)]) w) <|
  ldv prog (Instr.loadAt 35 x_1) w fun t_21 w =>
  efu prog (Instr.storeAt 35 x_1 t_21) w fun u_22 w =>
  ∃ r_23, (do loadVar 35 (← asAddr x_1)).run prog w = .ok r_23 w ∧ K (.tuple #[r_23, (.int .i64 0)]) w
theorem B37_eq (r_p0 id_p1 : Value) (w : World) (K : Value → World → Prop) : denFn prog Tryz.f37 T37 [r_p0, id_p1] w K = B37 r_p0 id_p1 w K := by kernel_rfl
theorem c37 {r_p0 id_p1 : Value} {w : World} {K : Value → World → Prop} (h : B37 r_p0 id_p1 w K) : Calls prog 37 #[r_p0, id_p1] w (Ret K) :=
  denFn_calls Tryz.func37 T37_ok (Eq.mpr (B37_eq r_p0 id_p1 w K) h)

-- 39 holdfast/token.all[holdfast/api.Token]
def T39 : Ann := (.seq .none (.seq .none (.seq (.seq .none (.block (.loop 2147475616 [5, 13] (.seq .none (.seq (.seq .none .none) (.meet 1073709216 [5] (.block (.seq .none (.seq .none (.seq .none .none)))) .none)))))) (.seq .none .none))))
theorem T39_ok : chkFn prog Tryz.f39 T39 = true := by kernel_rfl
def B39 (r_p0 is_p1 : Value) (w : World) (K : Value → World → Prop) : Prop :=
  efv prog (Instr.box 65 r_p0) w fun r_0 w =>
  pvv prog (Instr.fieldAt 65 r_0 1) w fun t_1 w =>
  ldv prog (Instr.loadAt 63 t_1) w fun t_2 w =>
  Calls prog 66 #[t_2] w (Ret fun t_3 w =>
  Calls prog 65 #[t_3] w (Ret fun t_4 w =>
  pv prog (oBi .len #[23] 3 #[false] #[t_4]) w fun t_5 w =>
  lp (fun σ w again_8 => pop σ fun out_6 σ => pop σ fun t_7 σ => fin σ <|
    pvv prog (binOp .lss 3 t_7 t_5) w fun t_9 w =>
    cd t_9 (
      jn (fun σ w => pop σ fun out_10 σ => fin σ <|
        pvv prog (binOp .add 3 t_7 (.int .i64 1)) w fun t_11 w =>
        again_8 [out_10, t_11] w) fun k_12 =>
      pvv prog (Instr.indexAt 23 t_4 t_7) w fun t_13 w =>
      ldv prog (Instr.loadAt 3 t_13) w fun t_14 w =>
      pvv prog (Instr.fieldAt 65 r_0 1) w fun t_15 w =>
      ldv prog (Instr.loadAt 63 t_15) w fun t_16 w =>
      ldv prog (Instr.lookup 63 t_16 t_14 false) w fun t_17 w =>
      ef prog (oCall is_p1 #[t_17]) w fun t_18 w =>
      cd t_18 (
        pvv prog (Instr.fieldAt 65 r_0 1) w fun t_19 w =>
        ldv prog (Instr.loadAt 63 t_19) w fun t_20 w =>
        ldv prog (Instr.lookup 63 t_20 t_14 false) w fun t_21 w =>
        efv prog (Instr.buildSlice 41 1 #[(0, t_21)]) w fun t_22 w =>
        ef prog (oBi .append #[41, 41] 41 #[false, false] #[out_6, t_22]) w fun t_23 w =>
        k_12 [t_23] w) <|
      k_12 [out_6] w) <|
    K out_6 w) [(.slice none 0 0), (.int .i64 0)] w))
theorem B39_eq (r_p0 is_p1 : Value) (w : World) (K : Value → World → Prop) : denFn prog Tryz.f39 T39 [r_p0, is_p1] w K = B39 r_p0 is_p1 w K := by kernel_rfl
theorem c39 {r_p0 is_p1 : Value} {w : World} {K : Value → World → Prop} (h : B39 r_p0 is_p1 w K) : Calls prog 39 #[r_p0, is_p1] w (Ret K) :=
  denFn_calls Tryz.func39 T39_ok (Eq.mpr (B39_eq r_p0 is_p1 w K) h)

-- 127 strings.IndexRune
def T127 : Ann := (.seq .none (.block (.seq .none (.seq (.seq .none .none) (.seq .none (.seq (.seq (.seq .none (.block (.loop 12164183355622992813219379528005579144973741782332342384 [] (.seq .none (.seq (.seq .none .none) (.block (.seq .none (.seq .none (.seq (.seq .none .none) .none))))))))) (.seq .none .none)) (.seq .none (.seq (.seq .none .none) .none))))))))
theorem T127_ok : chkFn prog Tryz.f127 T127 = true := by kernel_rfl
def B127 (s_p0 r_p1 : Value) (w : World) (K : Value → World → Prop) : Prop :=
  pvv prog (binOp .leq 21 (.int .i32 0) r_p1) w fun t_0 w =>
  gate (some (t_0, true)) (fun K => K r_p1 w) w fun t_1 w =>
  gate (some (t_0, true)) (fun K => pvv prog (binOp .lss 21 t_1 (.int .i32 128)) w K) w fun t_2 w =>
  pv prog (oPick t_0 t_2 (.bool false)) w fun t_3 w =>
  cd t_3 (
    pvv prog (convert 21 5 r_p1) w fun t_4 w =>
    Calls prog 137 #[s_p0, t_4] w (Ret fun t_5 w =>
    K t_5 w)) <|
  pvv prog (oEq .eql 21 (.tmp 172) (.const (.int .i32 65533)) r_p1 (.int .i32 65533)) w fun t_6 w =>
  cd t_6 (
    efv prog (Instr.range 9 s_p0) w fun t_7 w =>
    lp (fun σ w again_8 => fin σ <|
      efv prog (Instr.next t_7 true 0) w fun t_9 w =>
      pvv prog (Instr.extract t_9 0) w fun t_10 w =>
      cd t_10 (
        pvv prog (Instr.extract t_9 1) w fun t_11 w =>
        pvv prog (Instr.extract t_9 2) w fun t_12 w =>
        pvv prog (oEq .eql 21 (.tmp 180) (.const (.int .i32 65533)) t_12 (.int .i32 65533)) w fun t_13 w =>
        cd t_13 (
          K t_11 w) <|
        again_8 [] w) <|
      K (.int .i64 (-1)) w) [] w) <|
  Calls prog 138 #[r_p1] w (Ret fun t_14 w =>
  pvv prog (Op.unary .not t_14) w fun t_15 w =>
  cd t_15 (
    K (.int .i64 (-1)) w) <|
  False)
theorem B127_eq (s_p0 r_p1 : Value) (w : World) (K : Value → World → Prop) : denFn prog Tryz.f127 T127 [s_p0, r_p1] w K = B127 s_p0 r_p1 w K := by kernel_rfl
theorem c127 {s_p0 r_p1 : Value} {w : World} {K : Value → World → Prop} (h : B127 s_p0 r_p1 w K) : Calls prog 127 #[s_p0, r_p1] w (Ret K) :=
  denFn_calls Tryz.func127 T127_ok (Eq.mpr (B127_eq s_p0 r_p1 w K) h)

-- 92 strings.trimRightByte
def T92 : Ann := (.seq .none (.seq (.block (.loop 4194273 [0] (.seq (.seq .none (.seq .none .none)) (.block .none)))) (.seq .none .none)))
theorem T92_ok : chkFn prog Tryz.f92 T92 = true := by kernel_rfl
def B92 (s_p0 c_p1 : Value) (w : World) (K : Value → World → Prop) : Prop :=
  lp (fun σ w again_1 => pop σ fun s_0 σ => fin σ <|
    pv prog (oBi .len #[9] 3 #[false] #[s_0]) w fun t_2 w =>
    pvv prog (binOp .gtr 3 t_2 (.int .i64 0)) w fun t_3 w =>
    gate (some (t_3, true)) (fun K => K s_0 w) w fun t_4 w =>
    gate (some (t_3, true)) (fun K => K s_0 w) w fun t_5 w =>
    gate (some (t_3, true)) (fun K => pv prog (oBi .len #[9] 3 #[false] #[t_5]) w K) w fun t_6 w =>
    gate (some (t_3, true)) (fun K => pvv prog (binOp .sub 3 t_6 (.int .i64 1)) w K) w fun t_7 w =>
    gate (some (t_3, true)) (fun K => pvv prog (Instr.index 9 t_4 t_7) w K) w fun t_8 w =>
    gate (some (t_3, true)) (fun K => K c_p1 w) w fun t_9 w =>
    gate (some (t_3, true)) (fun K => pvv prog (oEq .eql 5 (.tmp 13) (.tmp 14) t_8 t_9) w K) w fun t_10 w =>
    pv prog (oPick t_3 t_10 (.bool false)) w fun t_11 w =>
    cd t_11 (
      pv prog (oBi .len #[9] 3 #[false] #[s_0]) w fun t_12 w =>
      pvv prog (binOp .sub 3 t_12 (.int .i64 1)) w fun t_13 w =>
      pvv prog (Instr.sliceAt 9 s_0 none (some t_13) none) w fun t_14 w =>
      again_1 [t_14] w) <|
    K s_0 w) [s_p0] w
theorem B92_eq (s_p0 c_p1 : Value) (w : World) (K : Value → World → Prop) : denFn prog Tryz.f92 T92 [s_p0, c_p1] w K = B92 s_p0 c_p1 w K := by kernel_rfl
theorem c92 {s_p0 c_p1 : Value} {w : World} {K : Value → World → Prop} (h : B92 s_p0 c_p1 w K) : Calls prog 92 #[s_p0, c_p1] w (Ret K) :=
  denFn_calls Tryz.func92 T92_ok (Eq.mpr (B92_eq s_p0 c_p1 w K) h)

-- 22 (*holdfast/token.Store).End
def T22 : Ann := (.seq .none (.seq (.seq .none (.seq (.seq .none .none) .none)) (.seq .none (.meet 8126464 [] (.seq .none (.seq .none .none)) (.seq .none .none)))))
theorem T22_ok : chkFn prog Tryz.f22 T22 = true := by kernel_rfl
def B22 (s_p0 family_p1 : Value) (w : World) (K : Value → World → Prop) : Prop :=
  pvv prog (oEq .eql 24 (.tmp 7) (.const (.pointer none)) s_p0 (.pointer none)) w fun t_0 w =>
  cd t_0 (
    K (.int .i64 1) w) <|
  pv prog (oNil s_p0) w fun t_1 w =>
  pvv prog (Instr.fieldAt 67 t_1 0) w fun t_2 w =>
  ldv prog (Instr.loadAt 62 t_2) w fun t_3 w =>
  Calls prog 37 #[t_3, family_p1] w (Ret fun t_4 w =>
  pvv prog (Instr.extract t_4 0) w fun t_5 w =>
  pvv prog (Instr.extract t_4 1) w fun t_6 w =>
  efv prog (Instr.alloc 35 true (.tuple #[])) w fun t_7 w =>
  efu prog (Instr.storeAt 35 t_7 t_5) w fun u_8 w =>
  jn (fun σ w => fin σ <|
    K t_6 w) fun k_9 =>
  pvv prog (oEq .eql 36 (.tmp 18) (.const (.int .i64 0)) t_6 (.int .i64 0)) w fun t_10 w =>
  cd t_10 (
    Calls prog 52 #[s_p0, family_p1] w (Ret fun t_11 w =>
    k_9 [] w)) <|
  k_9 [] w)
theorem B22_eq (s_p0 family_p1 : Value) (w : World) (K : Value → World → Prop) : denFn prog Tryz.f22 T22 [s_p0, family_p1] w K = B22 s_p0 family_p1 w K := by kernel_rfl
theorem c22 {s_p0 family_p1 : Value} {w : World} {K : Value → World → Prop} (h : B22 s_p0 family_p1 w K) : Calls prog 22 #[s_p0, family_p1] w (Ret K) :=
  denFn_calls Tryz.func22 T22_ok (Eq.mpr (B22_eq s_p0 family_p1 w K) h)

-- 96 strings.trimLeftUnicode
def T96 : Ann := (.seq .none (.meet 4194273 [0] (.block (.loop 4194273 [0] (.seq (.seq .none (.seq .none .none)) (.block (.seq .none (.seq (.seq .none (.seq .none .none)) .none)))))) (.seq .none .none)))
theorem T96_ok : chkFn prog Tryz.f96 T96 = true := by kernel_rfl
def B96 (s_p0 cutset_p1 : Value) (w : World) (K : Value → World → Prop) : Prop :=
  jn (fun σ w => pop σ fun s_0 σ => fin σ <|
    K s_0 w) fun k_1 =>
  lp (fun σ w again_3 => pop σ fun s_2 σ => fin σ <|
    pv prog (oBi .len #[9] 3 #[false] #[s_2]) w fun t_4 w =>
    pvv prog (binOp .gtr 3 t_4 (.int .i64 0)) w fun t_5 w =>
    cd t_5 (
      Calls prog 108 #[s_2] w (Ret fun t_6 w =>
      pvv prog (Instr.extract t_6 0) w fun t_7 w =>
      pvv prog (Instr.extract t_6 1) w fun t_8 w =>
      Calls prog 109 #[cutset_p1, t_7] w (Ret fun t_9 w =>
      pvv prog (Op.unary .not t_9) w fun t_10 w =>
      cd t_10 (
        k_1 [s_2] w) <|
      pvv prog (Instr.sliceAt 9 s_2 (some t_8) none none) w fun t_11 w =>
      again_3 [t_11] w))) <|
    k_1 [s_2] w) [s_p0] w
theorem B96_eq (s_p0 cutset_p1 : Value) (w : World) (K : Value → World → Prop) : denFn prog Tryz.f96 T96 [s_p0, cutset_p1] w K = B96 s_p0 cutset_p1 w K := by kernel_rfl
theorem c96 {s_p0 cutset_p1 : Value} {w : World} {K : Value → World → Prop} (h : B96 s_p0 cutset_p1 w K) : Calls prog 96 #[s_p0, cutset_p1] w (Ret K) :=
  denFn_calls Tryz.func96 T96_ok (Eq.mpr (B96_eq s_p0 cutset_p1 w K) h)

-- 120 internal/stringslite.HasPrefix
def T120 : Ann := (.seq .none (.seq .none .none))
theorem T120_ok : chkFn prog Tryz.f120 T120 = true := by kernel_rfl
def B120 (s_p0 prefix_p1 : Value) (w : World) (K : Value → World → Prop) : Prop :=
  pv prog (oBi .len #[9] 3 #[false] #[s_p0]) w fun t_0 w =>
  pv prog (oBi .len #[9] 3 #[false] #[prefix_p1]) w fun t_1 w =>
  pvv prog (binOp .geq 3 t_0 t_1) w fun t_2 w =>
  gate (some (t_2, true)) (fun K => K s_p0 w) w fun t_3 w =>
  gate (some (t_2, true)) (fun K => K prefix_p1 w) w fun t_4 w =>
  gate (some (t_2, true)) (fun K => pv prog (oBi .len #[9] 3 #[false] #[t_4]) w K) w fun t_5 w =>
  gate (some (t_2, true)) (fun K => pvv prog (Instr.sliceAt 9 t_3 none (some t_5) none) w K) w fun t_6 w =>
  gate (some (t_2, true)) (fun K => K prefix_p1 w) w fun t_7 w =>
  gate (some (t_2, true)) (fun K => pvv prog (oEq .eql 9 (.tmp 14) (.tmp 15) t_6 t_7) w K) w fun t_8 w =>
  pv prog (oPick t_2 t_8 (.bool false)) w fun t_9 w =>
  K t_9 w
theorem B120_eq (s_p0 prefix_p1 : Value) (w : World) (K : Value → World → Prop) : denFn prog Tryz.f120 T120 [s_p0, prefix_p1] w K = B120 s_p0 prefix_p1 w K := by kernel_rfl
theorem c120 {s_p0 prefix_p1 : Value} {w : World} {K : Value → World → Prop} (h : B120 s_p0 prefix_p1 w K) : Calls prog 120 #[s_p0, prefix_p1] w (Ret K) :=
  denFn_calls Tryz.func120 T120_ok (Eq.mpr (B120_eq s_p0 prefix_p1 w K) h)

-- 94 strings.trimLeftASCII
def T94 : Ann := (.seq .none (.meet 32737 [0] (.block (.loop 32737 [0] (.seq (.seq .none (.seq .none .none)) (.block (.seq (.seq .none (.seq .none .none)) .none))))) (.seq .none .none)))
theorem T94_ok : chkFn prog Tryz.f94 T94 = true := by kernel_rfl
def B94 (s_p0 as_p1 : Value) (w : World) (K : Value → World → Prop) : Prop :=
  jn (fun σ w => pop σ fun s_0 σ => fin σ <|
    K s_0 w) fun k_1 =>
  lp (fun σ w again_3 => pop σ fun s_2 σ => fin σ <|
    pv prog (oBi .len #[9] 3 #[false] #[s_2]) w fun t_4 w =>
    pvv prog (binOp .gtr 3 t_4 (.int .i64 0)) w fun t_5 w =>
    cd t_5 (
      pvv prog (Instr.index 9 s_2 (.int .i64 0)) w fun t_6 w =>
      Calls prog 107 #[as_p1, t_6] w (Ret fun t_7 w =>
      pvv prog (Op.unary .not t_7) w fun t_8 w =>
      cd t_8 (
        k_1 [s_2] w) <|
      pvv prog (Instr.sliceAt 9 s_2 (some (.int .i64 1)) none none) w fun t_9 w =>
      again_3 [t_9] w)) <|
    k_1 [s_2] w) [s_p0] w
theorem B94_eq (s_p0 as_p1 : Value) (w : World) (K : Value → World → Prop) : denFn prog Tryz.f94 T94 [s_p0, as_p1] w K = B94 s_p0 as_p1 w K := by kernel_rfl
theorem c94 {s_p0 as_p1 : Value} {w : World} {K : Value → World → Prop} (h : B94 s_p0 as_p1 w K) : Calls prog 94 #[s_p0, as_p1] w (Ret K) :=
  denFn_calls Tryz.func94 T94_ok (Eq.mpr (B94_eq s_p0 as_p1 w K) h)

-- 77 maps.Keys[map[int]holdfast/api.Token,int,holdfast/api.Token]$1
def T77 : Ann := (.seq .none (.block (.loop 16328 [] (.seq .none (.seq (.seq .none .none) (.block (.seq .none (.seq .none (.seq .none .none)))))))))
theorem T77_ok : chkFn prog Tryz.f77 T77 = true := by kernel_rfl
def B77 (yield_p0 x_p1 : Value) (w : World) (K : Value → World → Prop) : Prop :=
  ldv prog (Instr.loadAt 63 x_p1) w fun t_0 w =>
  efv prog (Instr.range 63 t_0) w fun t_1 w =>
  lp (fun σ w again_2 => fin σ <|
    efv prog (Instr.next t_1 false 0) w fun t_3 w =>
    pvv prog (Instr.extract t_3 0) w fun t_4 w =>
    cd t_4 (
      efv prog (Instr.entry t_1) w fun t_5 w =>
      pvv prog (Instr.extract t_5 0) w fun t_6 w =>
      ef prog (oCall yield_p0 #[t_6]) w fun t_7 w =>
      pvv prog (Op.unary .not t_7) w fun t_8 w =>
      cd t_8 (
        K (.tuple #[]) w) <|
      again_2 [] w) <|
    K (.tuple #[]) w) [] w
theorem B77_eq (yield_p0 x_p1 : Value) (w : World) (K : Value → World → Prop) : denFn prog Tryz.f77 T77 [yield_p0, x_p1] w K = B77 yield_p0 x_p1 w K := by kernel_rfl
theorem c77 {yield_p0 x_p1 : Value} {w : World} {K : Value → World → Prop} (h : B77 yield_p0 x_p1 w K) : Calls prog 77 #[yield_p0, x_p1] w (Ret K) :=
  denFn_calls Tryz.func77 T77_ok (Eq.mpr (B77_eq yield_p0 x_p1 w K) h)

-- 98 slices.AppendSeq[[]int,int]
def T98 : Ann := (.seq .none (.seq (.seq .none (.block (.range .none (.block .none)))) (.seq .none .none)))
theorem T98_ok : chkFn prog Tryz.f98 T98 = true := by kernel_rfl
def B98 (s_p0 seq_p1 : Value) (w : World) (K : Value → World → Prop) : Prop :=
  efv prog (Instr.box 23 s_p0) w fun s_0 w =>
  rng prog 1 seq_p1 (fun σ w bg_2 ex_3 => pop σ fun t_1 σ => fin σ <|
    bg_2 w fun w =>
    ldv prog (Instr.loadAt 23 s_0) w fun t_4 w =>
    efv prog (Instr.buildSlice 23 1 #[(0, t_1)]) w fun t_5 w =>
    ef prog (oBi .append #[23, 23] 23 #[false, false] #[t_4, t_5]) w fun t_6 w =>
    efu prog (Instr.storeAt 23 s_0 t_6) w fun u_7 w =>
    ex_3 .normal w) w fun p_9 D_8 w =>
  jump (
    ldv prog (Instr.loadAt 23 s_0) w fun t_10 w =>
    und [D_8] w fun w => K t_10 w) (
    und [D_8] w fun w => K (.slice none 0 0) w) [] p_9
theorem B98_eq (s_p0 seq_p1 : Value) (w : World) (K : Value → World → Prop) : denFn prog Tryz.f98 T98 [s_p0, seq_p1] w K = B98 s_p0 seq_p1 w K := by kernel_rfl
theorem c98 {s_p0 seq_p1 : Value} {w : World} {K : Value → World → Prop} (h : B98 s_p0 seq_p1 w K) : Calls prog 98 #[s_p0, seq_p1] w (Ret K) :=
  denFn_calls Tryz.func98 T98_ok (Eq.mpr (B98_eq s_p0 seq_p1 w K) h)

-- 30 (*holdfast/holdfastref12.Store).EndClient
def T30 : Ann := (.seq .none (.seq (.seq .none (.seq (.seq .none .none) .none)) (.seq .none .none)))
theorem T30_ok : chkFn prog Tryz.f30 T30 = true := by kernel_rfl
def B30 (s_p0 client_p1 sessions_p2 : Value) (w : World) (K : Value → World → Prop) : Prop :=
  pvv prog (oEq .eql 9 (.tmp 7) (.const (.string ⟨#[]⟩)) client_p1 (.string ⟨#[]⟩)) w fun t_0 w =>
  cd t_0 (
    K (.slice none 0 0) w) <|
  Calls prog 62 #[s_p0, client_p1, sessions_p2] w (Ret fun t_1 w =>
  K t_1 w)
theorem B30_eq (s_p0 client_p1 sessions_p2 : Value) (w : World) (K : Value → World → Prop) : denFn prog Tryz.f30 T30 [s_p0, client_p1, sessions_p2] w K = B30 s_p0 client_p1 sessions_p2 w K := by kernel_rfl
theorem c30 {s_p0 client_p1 sessions_p2 : Value} {w : World} {K : Value → World → Prop} (h : B30 s_p0 client_p1 sessions_p2 w K) : Calls prog 30 #[s_p0, client_p1, sessions_p2] w (Ret K) :=
  denFn_calls Tryz.func30 T30_ok (Eq.mpr (B30_eq s_p0 client_p1 sessions_p2 w K) h)

-- 32 maps.Clone[map[int]holdfast/api.Family,int,holdfast/api.Family]
def T32 : Ann := (.seq .none (.seq (.seq .none (.seq (.seq .none .none) .none)) (.seq .none .none)))
theorem T32_ok : chkFn prog Tryz.f32 T32 = true := by kernel_rfl
def B32 (m_p0 : Value) (w : World) (K : Value → World → Prop) : Prop :=
  pvv prog (oEq .eql 60 (.tmp 3) (.const (.map none)) m_p0 (.map none)) w fun t_0 w =>
  cd t_0 (
    K (.map none) w) <|
  pvv prog (Instr.makeInterface 60 m_p0) w fun t_1 w =>
  ef prog (oCall (.func (.func 63) #[] #[]) #[t_1]) w fun t_2 w =>
  efv prog (Instr.typeAssert t_2 20 60 false) w fun t_3 w =>
  K t_3 w
theorem B32_eq (m_p0 : Value) (w : World) (K : Value → World → Prop) : denFn prog Tryz.f32 T32 [m_p0] w K = B32 m_p0 w K := by kernel_rfl
theorem c32 {m_p0 : Value} {w : World} {K : Value → World → Prop} (h : B32 m_p0 w K) : Calls prog 32 #[m_p0] w (Ret K) :=
  denFn_calls Tryz.func32 T32_ok (Eq.mpr (B32_eq m_p0 w K) h)

-- 100 internal/stringslite.TrimPrefix
def T100 : Ann := (.seq .none (.seq (.seq .none (.seq (.seq .none .none) .none)) (.seq .none .none)))
theorem T100_ok : chkFn prog Tryz.f100 T100 = true := by kernel_rfl
def B100 (s_p0 prefix_p1 : Value) (w : World) (K : Value → World → Prop) : Prop :=
  Calls prog 120 #[s_p0, prefix_p1] w (Ret fun t_0 w =>
  cd t_0 (
    pv prog (oBi .len #[9] 3 #[false] #[prefix_p1]) w fun t_1 w =>
    pvv prog (Instr.sliceAt 9 s_p0 (some t_1) none none) w fun t_2 w =>
    K t_2 w) <|
  K s_p0 w)
theorem B100_eq (s_p0 prefix_p1 : Value) (w : World) (K : Value → World → Prop) : denFn prog Tryz.f100 T100 [s_p0, prefix_p1] w K = B100 s_p0 prefix_p1 w K := by kernel_rfl
theorem c100 {s_p0 prefix_p1 : Value} {w : World} {K : Value → World → Prop} (h : B100 s_p0 prefix_p1 w K) : Calls prog 100 #[s_p0, prefix_p1] w (Ret K) :=
  denFn_calls Tryz.func100 T100_ok (Eq.mpr (B100_eq s_p0 prefix_p1 w K) h)

-- 42 (*holdfast/token.Store).Families$1
def T42 : Ann := (.seq .none (.seq .none .none))
theorem T42_ok : chkFn prog Tryz.f42 T42 = true := by kernel_rfl
def B42 (f_p0 x_p1 : Value) (w : World) (K : Value → World → Prop) : Prop :=
  efv prog (Instr.box 35 f_p0) w fun f_0 w =>
  pvv prog (Instr.fieldAt 35 f_0 1) w fun t_1 w =>
  ldv prog (Instr.loadAt 3 t_1) w fun t_2 w =>
  ldv prog (Instr.loadAt 3 x_p1) w fun t_3 w =>
  pvv prog (oEq .eql 3 (.tmp 5) (.tmp 6) t_2 t_3) w fun t_4 w =>
  K t_4 w
theorem B42_eq (f_p0 x_p1 : Value) (w : World) (K : Value → World → Prop) : denFn prog Tryz.f42 T42 [f_p0, x_p1] w K = B42 f_p0 x_p1 w K := by kernel_rfl
theorem c42 {f_p0 x_p1 : Value} {w : World} {K : Value → World → Prop} (h : B42 f_p0 x_p1 w K) : Calls prog 42 #[f_p0, x_p1] w (Ret K) :=
  denFn_calls Tryz.func42 T42_ok (Eq.mpr (B42_eq f_p0 x_p1 w K) h)

-- 6 holdfast/token.New
def T6 : Ann := (.seq .none (.seq .none .none))
theorem T6_ok : chkFn prog Tryz.f6 T6 = true := by kernel_rfl
def B6 (w : World) (K : Value → World → Prop) : Prop :=
  efv prog (Instr.makeMap 60 none) w fun t_0 w =>
  pvv prog (Instr.build 62 #[(0, (.int .i64 1)), (1, t_0)]) w fun t_1 w =>
  efv prog (Instr.makeMap 63 none) w fun t_2 w =>
  pvv prog (Instr.build 65 #[(0, (.int .i64 1)), (1, t_2)]) w fun t_3 w =>
  pvv prog (Instr.build 67 #[(0, t_1), (1, t_3)]) w fun t_4 w =>
  efv prog (Instr.box 67 t_4) w fun t_5 w =>
  K t_5 w
theorem B6_eq (w : World) (K : Value → World → Prop) : denFn prog Tryz.f6 T6 [] w K = B6  w K := by kernel_rfl
theorem c6 {w : World} {K : Value → World → Prop} (h : B6  w K) : Calls prog 6 #[] w (Ret K) :=
  denFn_calls Tryz.func6 T6_ok (Eq.mpr (B6_eq  w K) h)

-- 135 internal/strconv.isPowerOfTwo
def T135 : Ann := (.seq .none (.seq .none .none))
theorem T135_ok : chkFn prog Tryz.f135 T135 = true := by kernel_rfl
def B135 (x_p0 : Value) (w : World) (K : Value → World → Prop) : Prop :=
  pvv prog (binOp .sub 3 x_p0 (.int .i64 1)) w fun t_0 w =>
  pvv prog (binOp .and 3 x_p0 t_0) w fun t_1 w =>
  pvv prog (oEq .eql 3 (.tmp 6) (.const (.int .i64 0)) t_1 (.int .i64 0)) w fun t_2 w =>
  K t_2 w
theorem B135_eq (x_p0 : Value) (w : World) (K : Value → World → Prop) : denFn prog Tryz.f135 T135 [x_p0] w K = B135 x_p0 w K := by kernel_rfl
theorem c135 {x_p0 : Value} {w : World} {K : Value → World → Prop} (h : B135 x_p0 w K) : Calls prog 135 #[x_p0] w (Ret K) :=
  denFn_calls Tryz.func135 T135_ok (Eq.mpr (B135_eq x_p0 w K) h)

-- 29 (*holdfast/holdfastref12.Store).EndSessions
def T29 : Ann := (.seq .none (.seq .none .none))
theorem T29_ok : chkFn prog Tryz.f29 T29 = true := by kernel_rfl
def B29 (s_p0 sessions_p1 : Value) (w : World) (K : Value → World → Prop) : Prop :=
  Calls prog 62 #[s_p0, (.string ⟨#[]⟩), sessions_p1] w (Ret fun t_0 w =>
  K t_0 w)
theorem B29_eq (s_p0 sessions_p1 : Value) (w : World) (K : Value → World → Prop) : denFn prog Tryz.f29 T29 [s_p0, sessions_p1] w K = B29 s_p0 sessions_p1 w K := by kernel_rfl
theorem c29 {s_p0 sessions_p1 : Value} {w : World} {K : Value → World → Prop} (h : B29 s_p0 sessions_p1 w K) : Calls prog 29 #[s_p0, sessions_p1] w (Ret K) :=
  denFn_calls Tryz.func29 T29_ok (Eq.mpr (B29_eq s_p0 sessions_p1 w K) h)

-- 43 holdfast/token.number
def T43 : Ann := (.seq .none (.seq .none (.seq .none .none)))
theorem T43_ok : chkFn prog Tryz.f43 T43 = true := by kernel_rfl
def B43 (n_p0 : Value) (w : World) (K : Value → World → Prop) : Prop :=
  Calls prog 68 #[n_p0] w (Ret fun t_0 w =>
  pvv prog (Instr.extract t_0 0) w fun t_1 w =>
  pvv prog (Instr.extract t_0 1) w fun t_2 w =>
  K t_1 w)
theorem B43_eq (n_p0 : Value) (w : World) (K : Value → World → Prop) : denFn prog Tryz.f43 T43 [n_p0] w K = B43 n_p0 w K := by kernel_rfl
theorem c43 {n_p0 : Value} {w : World} {K : Value → World → Prop} (h : B43 n_p0 w K) : Calls prog 43 #[n_p0] w (Ret K) :=
  denFn_calls Tryz.func43 T43_ok (Eq.mpr (B43_eq n_p0 w K) h)

-- 65 slices.Sorted[int]
def T65 : Ann := (.seq .none (.seq .none (.seq .none (.seq .none .none))))
theorem T65_ok : chkFn prog Tryz.f65 T65 = true := by kernel_rfl
def B65 (seq_p0 : Value) (w : World) (K : Value → World → Prop) : Prop :=
  Calls prog 75 #[seq_p0] w (Ret fun t_0 w =>
  Calls prog 76 #[t_0] w (Ret fun t_1 w =>
  K t_0 w))
theorem B65_eq (seq_p0 : Value) (w : World) (K : Value → World → Prop) : denFn prog Tryz.f65 T65 [seq_p0] w K = B65 seq_p0 w K := by kernel_rfl
theorem c65 {seq_p0 : Value} {w : World} {K : Value → World → Prop} (h : B65 seq_p0 w K) : Calls prog 65 #[seq_p0] w (Ret K) :=
  denFn_calls Tryz.func65 T65_ok (Eq.mpr (B65_eq seq_p0 w K) h)

-- 137 strings.IndexByte
def T137 : Ann := (.seq .none (.seq .none .none))
theorem T137_ok : chkFn prog Tryz.f137 T137 = true := by kernel_rfl
def B137 (s_p0 c_p1 : Value) (w : World) (K : Value → World → Prop) : Prop :=
  Calls prog 144 #[s_p0, c_p1] w (Ret fun t_0 w =>
  K t_0 w)
theorem B137_eq (s_p0 c_p1 : Value) (w : World) (K : Value → World → Prop) : denFn prog Tryz.f137 T137 [s_p0, c_p1] w K = B137 s_p0 c_p1 w K := by kernel_rfl
theorem c137 {s_p0 c_p1 : Value} {w : World} {K : Value → World → Prop} (h : B137 s_p0 c_p1 w K) : Calls prog 137 #[s_p0, c_p1] w (Ret K) :=
  denFn_calls Tryz.func137 T137_ok (Eq.mpr (B137_eq s_p0 c_p1 w K) h)


end Go.Proofs.YtbcimkjgpplcpaaGreatDoor
