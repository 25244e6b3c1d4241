import Derived.Test.YtbcimkjgpplcpaaGreatDoorPI
set_option linter.all false
set_option maxRecDepth 100000
namespace Go.Proofs.YtbcimkjgpplcpaaGreatDoor
open Go Hold
-- 23 (*holdfast/holdfastref12.Store).Grant
def T23 : Ann := (.seq .none (.seq .none (.seq .none (.seq (.block (.seq .none (.seq (.seq (.draw [.op 0 .load, .op 1 .load, .op 2 .eff, .op 3 .eff, .op 4 .pure]) .none) (.seq .none (.seq (.seq (.draw [.op 0 .load, .op 1 .load, .op 2 .eff, .op 3 .eff, .op 4 .pure]) .none) (.seq .none (.seq (.seq (.draw [.op 0 .load, .op 1 .load, .op 2 .eff, .op 3 .eff, .op 4 .pure]) .none) (.seq .none (.seq (.seq (.draw [.op 0 .load, .op 1 .load, .op 2 .eff, .op 3 .eff, .op 4 .pure]) .none) (.seq .none (.seq (.seq (.draw [.op 0 .load, .op 1 .load, .op 2 .eff, .op 3 .eff, .op 4 .pure]) .none) (.seq .none (.seq (.seq (.draw [.op 0 .load, .op 1 .load, .op 2 .eff, .op 3 .eff, .op 4 .pure]) .none) .none))))))))))))) (.seq .none (.seq .none (.seq .none (.seq .none (.seq .none (.seq .none (.seq (.draw [.op 1 .pure, .op 2 .pure, .op 4 .pure, .op 5 .pure, .op 6 .pure, .op 0 .load, .op 3 .load, .op 7 .eff, .op 8 .eff, .op 9 .eff, .op 10 .pure]) .none)))))))))))
theorem T23_ok : chkFn prog Tryz.f23 T23 = true := by kernel_rfl
def B23 (s_p0 session_p1 client_p2 scopes_p3 now_p4 : Value) (w : World) (K : Value → World → Prop) : Prop :=
  efv prog (Instr.alloc 35 true (.tuple #[])) w fun t_0 w =>
  efv prog (Instr.alloc 49 true (.tuple #[])) w fun t_1 w =>
  efv prog (Instr.alloc 35 true (.tuple #[])) w fun f_2 w =>
  efv prog (Instr.alloc 49 true (.tuple #[])) w fun x_3 w =>
  pvv prog (oEq .eql 26 (.tmp 17) (.const (.pointer none)) s_p0 (.pointer none)) w fun t_4 w =>
  cd t_4 (
    dr w fun w =>
    bindS (vN (Instr.loadAt 35 f_2)) fun m_6 => ldv prog (Instr.loadAt 35 f_2) w fun t_5 w =>
    bindS (vN (Instr.loadAt 49 x_3)) fun m_8 => ldv prog (Instr.loadAt 49 x_3) w fun t_7 w =>
    efu prog (Instr.storeAt 35 t_0 t_5) w fun u_9 w => stay prog none m_8 t_7 w <| 
    efu prog (Instr.storeAt 49 t_1 t_7) w fun u_10 w =>
    ∃ r_11, (do loadVar 35 (← asAddr t_0)).run prog w = .ok r_11 w ∧ ∃ r_12, (do loadVar 49 (← asAddr t_1)).run prog w = .ok r_12 w ∧ K (.tuple #[r_11, r_12, (.int .i64 1)]) w) <|
  pvv prog (binOp .lss 3 session_p1 (.int .i64 1)) w fun t_15 w =>
  gate (some (t_15, false)) (fun K => K now_p4 w) w fun t_16 w =>
  gate (some (t_15, false)) (fun K => pvv prog (binOp .lss 3 t_16 (.int .i64 0)) w K) w fun t_17 w =>
  pv prog (oPick t_15 (.bool true) t_17) w fun t_18 w =>
  gate (some (t_18, false)) (fun K => K now_p4 w) w fun t_19 w =>
  gate (some (t_18, false)) (fun K => pvv prog (binOp .gtr 3 t_19 (.int .i64 1099511627776)) w K) w fun t_20 w =>
  pv prog (oPick t_18 (.bool true) t_20) w fun t_21 w =>
  cd t_21 (
    dr w fun w =>
    bindS (vN (Instr.loadAt 35 f_2)) fun m_23 => ldv prog (Instr.loadAt 35 f_2) w fun t_22 w =>
    bindS (vN (Instr.loadAt 49 x_3)) fun m_25 => ldv prog (Instr.loadAt 49 x_3) w fun t_24 w =>
    efu prog (Instr.storeAt 35 t_0 t_22) w fun u_26 w => stay prog none m_25 t_24 w <| 
    efu prog (Instr.storeAt 49 t_1 t_24) w fun u_27 w =>
    ∃ r_28, (do loadVar 35 (← asAddr t_0)).run prog w = .ok r_28 w ∧ ∃ r_29, (do loadVar 49 (← asAddr t_1)).run prog w = .ok r_29 w ∧ K (.tuple #[r_28, r_29, (.int .i64 2)]) w) <|
  Calls prog 56 #[client_p2] w (Ret fun t_32 w =>
  pvv prog (Op.unary .not t_32) w fun t_33 w =>
  cd t_33 (
    dr w fun w =>
    bindS (vN (Instr.loadAt 35 f_2)) fun m_35 => ldv prog (Instr.loadAt 35 f_2) w fun t_34 w =>
    bindS (vN (Instr.loadAt 49 x_3)) fun m_37 => ldv prog (Instr.loadAt 49 x_3) w fun t_36 w =>
    efu prog (Instr.storeAt 35 t_0 t_34) w fun u_38 w => stay prog none m_37 t_36 w <| 
    efu prog (Instr.storeAt 49 t_1 t_36) w fun u_39 w =>
    ∃ r_40, (do loadVar 35 (← asAddr t_0)).run prog w = .ok r_40 w ∧ ∃ r_41, (do loadVar 49 (← asAddr t_1)).run prog w = .ok r_41 w ∧ K (.tuple #[r_40, r_41, (.int .i64 8)]) w) <|
  pv prog (oNil s_p0) w fun t_44 w =>
  pvv prog (Instr.fieldAt 69 t_44 2) w fun t_45 w =>
  ldv prog (Instr.loadAt 3 t_45) w fun t_46 w =>
  pvv prog (binOp .lss 3 now_p4 t_46) w fun t_47 w =>
  cd t_47 (
    dr w fun w =>
    bindS (vN (Instr.loadAt 35 f_2)) fun m_49 => ldv prog (Instr.loadAt 35 f_2) w fun t_48 w =>
    bindS (vN (Instr.loadAt 49 x_3)) fun m_51 => ldv prog (Instr.loadAt 49 x_3) w fun t_50 w =>
    efu prog (Instr.storeAt 35 t_0 t_48) w fun u_52 w => stay prog none m_51 t_50 w <| 
    efu prog (Instr.storeAt 49 t_1 t_50) w fun u_53 w =>
    ∃ r_54, (do loadVar 35 (← asAddr t_0)).run prog w = .ok r_54 w ∧ ∃ r_55, (do loadVar 49 (← asAddr t_1)).run prog w = .ok r_55 w ∧ K (.tuple #[r_54, r_55, (.int .i64 9)]) w) <|
  pv prog (oNil s_p0) w fun t_58 w =>
  pvv prog (Instr.fieldAt 69 t_58 0) w fun t_59 w =>
  ldv prog (Instr.loadAt 3 t_59) w fun t_60 w =>
  pvv prog (binOp .gtr 3 t_60 (.int .i64 1099511627776)) w fun t_61 w =>
  gate (some (t_61, false)) (fun K => K s_p0 w) w fun t_62 w =>
  gate (some (t_61, false)) (fun K => pv prog (oNil t_62) w K) w fun t_63 w =>
  gate (some (t_61, false)) (fun K => pvv prog (Instr.fieldAt 69 t_63 1) w K) w fun t_64 w =>
  gate (some (t_61, false)) (fun K => ldv prog (Instr.loadAt 3 t_64) w K) w fun t_65 w =>
  gate (some (t_61, false)) (fun K => pvv prog (binOp .gtr 3 t_65 (.int .i64 1099511627776)) w K) w fun t_66 w =>
  pv prog (oPick t_61 (.bool true) t_66) w fun t_67 w =>
  cd t_67 (
    dr w fun w =>
    bindS (vN (Instr.loadAt 35 f_2)) fun m_69 => ldv prog (Instr.loadAt 35 f_2) w fun t_68 w =>
    bindS (vN (Instr.loadAt 49 x_3)) fun m_71 => ldv prog (Instr.loadAt 49 x_3) w fun t_70 w =>
    efu prog (Instr.storeAt 35 t_0 t_68) w fun u_72 w => stay prog none m_71 t_70 w <| 
    efu prog (Instr.storeAt 49 t_1 t_70) w fun u_73 w =>
    ∃ r_74, (do loadVar 35 (← asAddr t_0)).run prog w = .ok r_74 w ∧ ∃ r_75, (do loadVar 49 (← asAddr t_1)).run prog w = .ok r_75 w ∧ K (.tuple #[r_74, r_75, (.int .i64 7)]) w) <|
  Calls prog 57 #[s_p0, session_p1] w (Ret fun t_78 w =>
  pv prog (oBi .len #[43] 3 #[false] #[t_78]) w fun t_79 w =>
  pvv prog (binOp .geq 3 t_79 (.int .i64 2)) w fun t_80 w =>
  cd t_80 (
    dr w fun w =>
    bindS (vN (Instr.loadAt 35 f_2)) fun m_82 => ldv prog (Instr.loadAt 35 f_2) w fun t_81 w =>
    bindS (vN (Instr.loadAt 49 x_3)) fun m_84 => ldv prog (Instr.loadAt 49 x_3) w fun t_83 w =>
    efu prog (Instr.storeAt 35 t_0 t_81) w fun u_85 w => stay prog none m_84 t_83 w <| 
    efu prog (Instr.storeAt 49 t_1 t_83) w fun u_86 w =>
    ∃ r_87, (do loadVar 35 (← asAddr t_0)).run prog w = .ok r_87 w ∧ ∃ r_88, (do loadVar 49 (← asAddr t_1)).run prog w = .ok r_88 w ∧ K (.tuple #[r_87, r_88, (.int .i64 23)]) w) <|
  pv prog (oNil s_p0) w fun t_91 w =>
  pvv prog (Instr.fieldAt 69 t_91 0) w fun t_92 w =>
  ldv prog (Instr.loadAt 3 t_92) w fun t_93 w =>
  pvv prog (Instr.build 35 #[(0, t_93), (1, session_p1), (2, client_p2), (3, scopes_p3), (4, (.int .i64 1))]) w fun t_94 w =>
  efu prog (Instr.storeAt 35 f_2 t_94) w fun u_95 w =>
  pv prog (oNil s_p0) w fun t_96 w =>
  pvv prog (Instr.fieldAt 69 t_96 0) w fun t_97 w =>
  ldv prog (Instr.loadAt 3 t_97) w fun t_98 w =>
  pvv prog (binOp .add 3 t_98 (.int .i64 1)) w fun t_99 w =>
  pv prog (oNil s_p0) w fun t_100 w =>
  pvv prog (Instr.fieldAt 69 t_100 0) w fun t_101 w =>
  efu prog (Instr.storeAt 3 t_101 t_99) w fun u_102 w =>
  pv prog (oNil s_p0) w fun t_103 w =>
  pvv prog (Instr.fieldAt 69 t_103 2) w fun t_104 w =>
  efu prog (Instr.storeAt 3 t_104 now_p4) w fun u_105 w =>
  pv prog (oNil s_p0) w fun t_106 w =>
  pvv prog (Instr.fieldAt 69 t_106 3) w fun t_107 w =>
  ldv prog (Instr.loadAt 43 t_107) w fun t_108 w =>
  ef prog (oBi .append #[43, 43] 43 #[false, false] #[(.slice none 0 0), t_108]) w fun t_109 w =>
  ldv prog (Instr.loadAt 35 f_2) w fun t_110 w =>
  efv prog (Instr.buildSlice 43 1 #[(0, t_110)]) w fun t_111 w =>
  ef prog (oBi .append #[43, 43] 43 #[false, false] #[t_109, t_111]) w fun t_112 w =>
  pv prog (oNil s_p0) w fun t_113 w =>
  pvv prog (Instr.fieldAt 69 t_113 3) w fun t_114 w =>
  efu prog (Instr.storeAt 43 t_114 t_112) w fun u_115 w =>
  dr w fun w =>
  pvv prog (Instr.fieldAt 35 f_2 0) w fun t_116 w =>
  pvv prog (binOp .add 3 now_p4 (.int .i64 50)) w fun t_117 w =>
  bindS (vN (Instr.loadAt 35 f_2)) fun m_119 => ldv prog (Instr.loadAt 35 f_2) w fun t_118 w =>
  bindS (vN (Instr.loadAt 3 t_116)) fun m_121 => ldv prog (Instr.loadAt 3 t_116) w fun t_120 w =>
  Calls prog 58 #[s_p0, t_120, scopes_p3, t_117] w (Ret fun t_122 w => stay prog none m_119 t_118 w <| 
  efu prog (Instr.storeAt 35 t_0 t_118) w fun u_123 w => stay prog none m_121 t_120 w <| 
  efu prog (Instr.storeAt 49 t_1 t_122) w fun u_124 w =>
  ∃ r_125, (do loadVar 35 (← asAddr t_0)).run prog w = .ok r_125 w ∧ ∃ r_126, (do loadVar 49 (← asAddr t_1)).run prog w = .ok r_126 w ∧ K (.tuple #[r_125, r_126, (.int .i64 0)]) w)))
theorem B23_eq (s_p0 session_p1 client_p2 scopes_p3 now_p4 : Value) (w : World) (K : Value → World → Prop) : denFn prog Tryz.f23 T23 [s_p0, session_p1, client_p2, scopes_p3, now_p4] w K = B23 s_p0 session_p1 client_p2 scopes_p3 now_p4 w K := by kernel_rfl
theorem c23 {s_p0 session_p1 client_p2 scopes_p3 now_p4 : Value} {w : World} {K : Value → World → Prop} (h : B23 s_p0 session_p1 client_p2 scopes_p3 now_p4 w K) : Calls prog 23 #[s_p0, session_p1, client_p2, scopes_p3, now_p4] w (Ret K) :=
  denFn_calls Tryz.func23 T23_ok (Eq.mpr (B23_eq s_p0 session_p1 client_p2 scopes_p3 now_p4 w K) h)

-- 17 (*holdfast/token.Store).Grant
def T17 : Ann := (.seq .none (.seq .none (.seq (.block (.seq .none (.seq (.seq (.draw [.op 2 .pure, .op 0 .load, .op 1 .load, .op 3 .eff, .op 4 .eff, .op 5 .pure]) .none) (.seq .none (.seq (.seq (.draw [.op 0 .load, .op 1 .load, .op 2 .eff, .op 3 .eff, .op 4 .pure]) .none) (.seq .none (.seq (.seq (.draw [.op 0 .load, .op 1 .load, .op 2 .eff, .op 3 .eff, .op 4 .pure]) .none) (.seq .none (.seq (.seq (.draw [.op 2 .pure, .op 0 .load, .op 1 .load, .op 3 .eff, .op 4 .eff, .op 5 .pure]) .none) (.seq .none (.seq (.seq (.draw [.op 0 .load, .op 1 .load, .op 2 .eff, .op 3 .eff, .op 4 .pure]) .none) (.seq .none (.seq (.seq (.draw [.op 0 .load, .op 1 .load, .op 2 .eff, .op 3 .eff, .op 4 .pure]) .none) .none))))))))))))) (.seq .none (.seq (.draw [.op 0 .pure, .op 1 .pure, .op 2 .pure, .op 3 .pure, .op 5 .pure, .op 4 .load, .op 6 .load, .op 7 .load, .op 8 .eff]) (.seq .none (.seq .none (.seq (.draw [.op 1 .pure, .op 2 .pure, .op 4 .pure, .op 5 .pure, .op 6 .pure, .op 0 .load, .op 3 .load, .op 7 .eff, .op 8 .eff, .op 9 .eff, .op 10 .pure]) .none))))))))
theorem T17_ok : chkFn prog Tryz.f17 T17 = true := by kernel_rfl
def B17 (s_p0 session_p1 client_p2 scopes_p3 now_p4 : Value) (w : World) (K : Value → World → Prop) : Prop :=
  efv prog (Instr.alloc 35 true (.tuple #[])) w fun f_0 w =>
  efv prog (Instr.alloc 49 true (.tuple #[])) w fun t_1 w =>
  Calls prog 47 #[s_p0, now_p4] w (Ret fun t_2 w =>
  pvv prog (oEq .eql 36 (.tmp 17) (.const (.int .i64 1)) t_2 (.int .i64 1)) w fun t_3 w =>
  gate (some (t_3, false)) (fun K => K t_2 w) w fun t_4 w =>
  gate (some (t_3, false)) (fun K => pvv prog (oEq .eql 36 (.tmp 20) (.const (.int .i64 2)) t_4 (.int .i64 2)) w K) w fun t_5 w =>
  pv prog (oPick t_3 (.bool true) t_5) w fun t_6 w =>
  cd t_6 (
    dr w fun w =>
    bindS (vN (Instr.loadAt 35 f_0)) fun m_8 => ldv prog (Instr.loadAt 35 f_0) w fun t_7 w =>
    bindS (vN (Instr.loadAt 49 t_1)) fun m_10 => ldv prog (Instr.loadAt 49 t_1) w fun t_9 w =>
    efu prog (Instr.storeAt 35 f_0 t_7) w fun u_11 w => stay prog none m_10 t_9 w <| 
    efu prog (Instr.storeAt 49 t_1 t_9) w fun u_12 w =>
    ∃ r_13, (do loadVar 35 (← asAddr f_0)).run prog w = .ok r_13 w ∧ ∃ r_14, (do loadVar 49 (← asAddr t_1)).run prog w = .ok r_14 w ∧ K (.tuple #[r_13, r_14, t_2]) w) <|
  pvv prog (binOp .lss 3 session_p1 (.int .i64 1)) w fun t_17 w =>
  cd t_17 (
    dr w fun w =>
    bindS (vN (Instr.loadAt 35 f_0)) fun m_19 => ldv prog (Instr.loadAt 35 f_0) w fun t_18 w =>
    bindS (vN (Instr.loadAt 49 t_1)) fun m_21 => ldv prog (Instr.loadAt 49 t_1) w fun t_20 w =>
    efu prog (Instr.storeAt 35 f_0 t_18) w fun u_22 w => stay prog none m_21 t_20 w <| 
    efu prog (Instr.storeAt 49 t_1 t_20) w fun u_23 w =>
    ∃ r_24, (do loadVar 35 (← asAddr f_0)).run prog w = .ok r_24 w ∧ ∃ r_25, (do loadVar 49 (← asAddr t_1)).run prog w = .ok r_25 w ∧ K (.tuple #[r_24, r_25, (.int .i64 2)]) w) <|
  Calls prog 48 #[client_p2] w (Ret fun t_28 w =>
  pvv prog (Op.unary .not t_28) w fun t_29 w =>
  cd t_29 (
    dr w fun w =>
    bindS (vN (Instr.loadAt 35 f_0)) fun m_31 => ldv prog (Instr.loadAt 35 f_0) w fun t_30 w =>
    bindS (vN (Instr.loadAt 49 t_1)) fun m_33 => ldv prog (Instr.loadAt 49 t_1) w fun t_32 w =>
    efu prog (Instr.storeAt 35 f_0 t_30) w fun u_34 w => stay prog none m_33 t_32 w <| 
    efu prog (Instr.storeAt 49 t_1 t_32) w fun u_35 w =>
    ∃ r_36, (do loadVar 35 (← asAddr f_0)).run prog w = .ok r_36 w ∧ ∃ r_37, (do loadVar 49 (← asAddr t_1)).run prog w = .ok r_37 w ∧ K (.tuple #[r_36, r_37, (.int .i64 8)]) w) <|
  pvv prog (oEq .neq 36 (.tmp 38) (.const (.int .i64 0)) t_2 (.int .i64 0)) w fun t_40 w =>
  cd t_40 (
    dr w fun w =>
    bindS (vN (Instr.loadAt 35 f_0)) fun m_42 => ldv prog (Instr.loadAt 35 f_0) w fun t_41 w =>
    bindS (vN (Instr.loadAt 49 t_1)) fun m_44 => ldv prog (Instr.loadAt 49 t_1) w fun t_43 w =>
    efu prog (Instr.storeAt 35 f_0 t_41) w fun u_45 w => stay prog none m_44 t_43 w <| 
    efu prog (Instr.storeAt 49 t_1 t_43) w fun u_46 w =>
    ∃ r_47, (do loadVar 35 (← asAddr f_0)).run prog w = .ok r_47 w ∧ ∃ r_48, (do loadVar 49 (← asAddr t_1)).run prog w = .ok r_48 w ∧ K (.tuple #[r_47, r_48, t_2]) w) <|
  pv prog (oNil s_p0) w fun t_51 w =>
  pvv prog (Instr.fieldAt 67 t_51 0) w fun t_52 w =>
  ldv prog (Instr.loadAt 62 t_52) w fun t_53 w =>
  Calls prog 49 #[t_53] w (Ret fun t_54 w =>
  gate (some (t_54, false)) (fun K => K s_p0 w) w fun t_55 w =>
  gate (some (t_54, false)) (fun K => pv prog (oNil t_55) w K) w fun t_56 w =>
  gate (some (t_54, false)) (fun K => pvv prog (Instr.fieldAt 67 t_56 1) w K) w fun t_57 w =>
  gate (some (t_54, false)) (fun K => ldv prog (Instr.loadAt 65 t_57) w K) w fun t_58 w =>
  gate (some (t_54, false)) (fun K => Calls prog 50 #[t_58] w (Ret K)) w fun t_59 w =>
  pv prog (oPick t_54 (.bool true) t_59) w fun t_60 w =>
  cd t_60 (
    dr w fun w =>
    bindS (vN (Instr.loadAt 35 f_0)) fun m_62 => ldv prog (Instr.loadAt 35 f_0) w fun t_61 w =>
    bindS (vN (Instr.loadAt 49 t_1)) fun m_64 => ldv prog (Instr.loadAt 49 t_1) w fun t_63 w =>
    efu prog (Instr.storeAt 35 f_0 t_61) w fun u_65 w => stay prog none m_64 t_63 w <| 
    efu prog (Instr.storeAt 49 t_1 t_63) w fun u_66 w =>
    ∃ r_67, (do loadVar 35 (← asAddr f_0)).run prog w = .ok r_67 w ∧ ∃ r_68, (do loadVar 49 (← asAddr t_1)).run prog w = .ok r_68 w ∧ K (.tuple #[r_67, r_68, (.int .i64 7)]) w) <|
  Calls prog 15 #[s_p0, session_p1] w (Ret fun t_71 w =>
  pv prog (oBi .len #[43] 3 #[false] #[t_71]) w fun t_72 w =>
  pvv prog (binOp .geq 3 t_72 (.int .i64 2)) w fun t_73 w =>
  cd t_73 (
    dr w fun w =>
    bindS (vN (Instr.loadAt 35 f_0)) fun m_75 => ldv prog (Instr.loadAt 35 f_0) w fun t_74 w =>
    bindS (vN (Instr.loadAt 49 t_1)) fun m_77 => ldv prog (Instr.loadAt 49 t_1) w fun t_76 w =>
    efu prog (Instr.storeAt 35 f_0 t_74) w fun u_78 w => stay prog none m_77 t_76 w <| 
    efu prog (Instr.storeAt 49 t_1 t_76) w fun u_79 w =>
    ∃ r_80, (do loadVar 35 (← asAddr f_0)).run prog w = .ok r_80 w ∧ ∃ r_81, (do loadVar 49 (← asAddr t_1)).run prog w = .ok r_81 w ∧ K (.tuple #[r_80, r_81, (.int .i64 23)]) w) <|
  pv prog (oNil s_p0) w fun t_84 w =>
  pvv prog (Instr.fieldAt 67 t_84 0) w fun t_85 w =>
  pvv prog (Instr.fieldAt 62 t_85 0) w fun t_86 w =>
  ldv prog (Instr.loadAt 3 t_86) w fun t_87 w =>
  pvv prog (Instr.build 35 #[(0, t_87), (1, session_p1), (2, client_p2), (3, scopes_p3), (4, (.int .i64 1))]) w fun t_88 w =>
  efu prog (Instr.storeAt 35 f_0 t_88) w fun u_89 w =>
  dr w fun w =>
  pv prog (oNil s_p0) w fun t_90 w =>
  pvv prog (Instr.fieldAt 67 t_90 0) w fun t_91 w =>
  pvv prog (Instr.fieldAt 62 t_91 1) w fun t_92 w =>
  pvv prog (Instr.fieldAt 35 f_0 0) w fun t_93 w =>
  bindS (vN (Instr.loadAt 60 t_92)) fun m_95 => ldv prog (Instr.loadAt 60 t_92) w fun t_94 w =>
  bindS (vN (Instr.loadAt 3 t_93)) fun m_97 => ldv prog (Instr.loadAt 3 t_93) w fun t_96 w =>
  bindS (vN (Instr.loadAt 35 f_0)) fun m_99 => ldv prog (Instr.loadAt 35 f_0) w fun t_98 w =>
  efu prog (Instr.mapUpdate 60 t_94 t_96 t_98) w fun u_100 w =>
  pv prog (oNil s_p0) w fun t_101 w =>
  pvv prog (Instr.fieldAt 67 t_101 0) w fun t_102 w =>
  pvv prog (Instr.fieldAt 62 t_102 0) w fun t_103 w =>
  ldv prog (Instr.loadAt 3 t_103) w fun t_104 w =>
  pvv prog (binOp .add 3 t_104 (.int .i64 1)) w fun t_105 w =>
  pv prog (oNil s_p0) w fun t_106 w =>
  pvv prog (Instr.fieldAt 67 t_106 0) w fun t_107 w =>
  pvv prog (Instr.fieldAt 62 t_107 0) w fun t_108 w =>
  efu prog (Instr.storeAt 3 t_108 t_105) w fun u_109 w =>
  pv prog (oNil s_p0) w fun t_110 w =>
  pvv prog (Instr.fieldAt 67 t_110 2) w fun t_111 w =>
  efu prog (Instr.storeAt 3 t_111 now_p4) w fun u_112 w =>
  dr w fun w =>
  pvv prog (Instr.fieldAt 35 f_0 0) w fun t_113 w =>
  pvv prog (binOp .add 3 now_p4 (.int .i64 50)) w fun t_114 w =>
  bindS (vN (Instr.loadAt 35 f_0)) fun m_116 => ldv prog (Instr.loadAt 35 f_0) w fun t_115 w =>
  bindS (vN (Instr.loadAt 3 t_113)) fun m_118 => ldv prog (Instr.loadAt 3 t_113) w fun t_117 w =>
  Calls prog 51 #[s_p0, t_117, scopes_p3, t_114] w (Ret fun t_119 w => stay prog none m_116 t_115 w <| 
  efu prog (Instr.storeAt 35 f_0 t_115) w fun u_120 w =>
  efu prog (Instr.storeAt 49 t_1 t_119) w fun u_121 w =>
  ∃ r_122, (do loadVar 35 (← asAddr f_0)).run prog w = .ok r_122 w ∧ ∃ r_123, (do loadVar 49 (← asAddr t_1)).run prog w = .ok r_123 w ∧ K (.tuple #[r_122, r_123, (.int .i64 0)]) w)))))
theorem B17_eq (s_p0 session_p1 client_p2 scopes_p3 now_p4 : Value) (w : World) (K : Value → World → Prop) : denFn prog Tryz.f17 T17 [s_p0, session_p1, client_p2, scopes_p3, now_p4] w K = B17 s_p0 session_p1 client_p2 scopes_p3 now_p4 w K := by kernel_rfl
theorem c17 {s_p0 session_p1 client_p2 scopes_p3 now_p4 : Value} {w : World} {K : Value → World → Prop} (h : B17 s_p0 session_p1 client_p2 scopes_p3 now_p4 w K) : Calls prog 17 #[s_p0, session_p1, client_p2, scopes_p3, now_p4] w (Ret K) :=
  denFn_calls Tryz.func17 T17_ok (Eq.mpr (B17_eq s_p0 session_p1 client_p2 scopes_p3 now_p4 w K) h)

-- 126 unicode/utf8.decodeRuneInStringSlow
def T126 : Ann := (.seq .none (.seq .none (.seq (.seq .none (.seq (.seq .none .none) .none)) (.seq .none (.seq .none (.seq (.seq .none (.seq (.seq .none (.seq .none .none)) .none)) (.seq .none (.seq .none (.seq (.seq .none (.seq (.seq .none .none) .none)) (.seq .none (.seq (.seq .none (.seq (.seq .none .none) .none)) (.seq (.seq .none (.seq (.seq .none .none) .none)) (.seq .none (.seq (.seq .none (.seq (.seq .none .none) .none)) (.seq (.seq .none (.seq (.seq .none .none) .none)) (.seq .none (.seq (.seq .none (.seq (.seq .none .none) .none)) (.seq .none .none))))))))))))))))))
theorem T126_ok : chkFn prog Tryz.f126 T126 = true := by kernel_rfl
def B126 (s_p0 : Value) (w : World) (K : Value → World → Prop) : Prop :=
  pv prog (oBi .len #[9] 3 #[false] #[s_p0]) w fun t_0 w =>
  pvv prog (binOp .lss 3 t_0 (.int .i64 1)) w fun t_1 w =>
  cd t_1 (
    K (.tuple #[(.int .i32 65533), (.int .i64 0)]) w) <|
  pvv prog (Instr.index 9 s_p0 (.int .i64 0)) w fun t_2 w =>
  pvv prog (Instr.indexAt 165 (.pointer (some ⟨1, 0, none⟩)) t_2) w fun t_3 w =>
  ldv prog (Instr.loadAt 5 t_3) w fun t_4 w =>
  pvv prog (binOp .geq 5 t_4 (.int .u8 240)) w fun t_5 w =>
  cd t_5 (
    pvv prog (convert 5 21 t_4) w fun t_6 w =>
    pvv prog (binOp .shl 21 t_6 (.int .u64 31)) w fun t_7 w =>
    pvv prog (binOp .shr 21 t_7 (.int .u64 31)) w fun t_8 w =>
    pvv prog (Instr.index 9 s_p0 (.int .i64 0)) w fun t_9 w =>
    pvv prog (convert 5 21 t_9) w fun t_10 w =>
    pvv prog (binOp .andNot 21 t_10 t_8) w fun t_11 w =>
    pvv prog (binOp .and 21 (.int .i32 65533) t_8) w fun t_12 w =>
    pvv prog (binOp .or 21 t_11 t_12) w fun t_13 w =>
    K (.tuple #[t_13, (.int .i64 1)]) w) <|
  pvv prog (binOp .and 5 t_4 (.int .u8 7)) w fun t_14 w =>
  pvv prog (convert 5 3 t_14) w fun t_15 w =>
  pvv prog (binOp .shr 5 t_4 (.int .u64 4)) w fun t_16 w =>
  pvv prog (Instr.indexAt 168 (.pointer (some ⟨2, 0, none⟩)) t_16) w fun t_17 w =>
  ldv prog (Instr.loadAt 167 t_17) w fun t_18 w =>
  efv prog (Instr.alloc 167 true (.tuple #[])) w fun accept_19 w =>
  efu prog (Instr.storeAt 167 accept_19 t_18) w fun u_20 w =>
  pvv prog (binOp .lss 3 t_0 t_15) w fun t_21 w =>
  cd t_21 (
    K (.tuple #[(.int .i32 65533), (.int .i64 1)]) w) <|
  pvv prog (Instr.index 9 s_p0 (.int .i64 1)) w fun t_22 w =>
  pvv prog (Instr.fieldAt 167 accept_19 0) w fun t_23 w =>
  ldv prog (Instr.loadAt 5 t_23) w fun t_24 w =>
  pvv prog (binOp .lss 5 t_22 t_24) w fun t_25 w =>
  gate (some (t_25, false)) (fun K => pvv prog (Instr.fieldAt 167 accept_19 1) w K) w fun t_26 w =>
  gate (some (t_25, false)) (fun K => ldv prog (Instr.loadAt 5 t_26) w K) w fun t_27 w =>
  gate (some (t_25, false)) (fun K => K t_22 w) w fun t_28 w =>
  gate (some (t_25, false)) (fun K => pvv prog (binOp .lss 5 t_27 t_28) w K) w fun t_29 w =>
  pv prog (oPick t_25 (.bool true) t_29) w fun t_30 w =>
  cd t_30 (
    K (.tuple #[(.int .i32 65533), (.int .i64 1)]) w) <|
  pvv prog (binOp .leq 3 t_15 (.int .i64 2)) w fun t_31 w =>
  cd t_31 (
    pvv prog (binOp .and 5 t_2 (.int .u8 31)) w fun t_32 w =>
    pvv prog (convert 5 21 t_32) w fun t_33 w =>
    pvv prog (binOp .shl 21 t_33 (.int .u64 6)) w fun t_34 w =>
    pvv prog (binOp .and 5 t_22 (.int .u8 63)) w fun t_35 w =>
    pvv prog (convert 5 21 t_35) w fun t_36 w =>
    pvv prog (binOp .or 21 t_34 t_36) w fun t_37 w =>
    K (.tuple #[t_37, (.int .i64 2)]) w) <|
  pvv prog (Instr.index 9 s_p0 (.int .i64 2)) w fun t_38 w =>
  pvv prog (binOp .lss 5 t_38 (.int .u8 128)) w fun t_39 w =>
  gate (some (t_39, false)) (fun K => K t_38 w) w fun t_40 w =>
  gate (some (t_39, false)) (fun K => pvv prog (binOp .lss 5 (.int .u8 191) t_40) w K) w fun t_41 w =>
  pv prog (oPick t_39 (.bool true) t_41) w fun t_42 w =>
  cd t_42 (
    K (.tuple #[(.int .i32 65533), (.int .i64 1)]) w) <|
  pvv prog (binOp .leq 3 t_15 (.int .i64 3)) w fun t_43 w =>
  cd t_43 (
    pvv prog (binOp .and 5 t_2 (.int .u8 15)) w fun t_44 w =>
    pvv prog (convert 5 21 t_44) w fun t_45 w =>
    pvv prog (binOp .shl 21 t_45 (.int .u64 12)) w fun t_46 w =>
    pvv prog (binOp .and 5 t_22 (.int .u8 63)) w fun t_47 w =>
    pvv prog (convert 5 21 t_47) w fun t_48 w =>
    pvv prog (binOp .shl 21 t_48 (.int .u64 6)) w fun t_49 w =>
    pvv prog (binOp .or 21 t_46 t_49) w fun t_50 w =>
    pvv prog (binOp .and 5 t_38 (.int .u8 63)) w fun t_51 w =>
    pvv prog (convert 5 21 t_51) w fun t_52 w =>
    pvv prog (binOp .or 21 t_50 t_52) w fun t_53 w =>
    K (.tuple #[t_53, (.int .i64 3)]) w) <|
  pvv prog (Instr.index 9 s_p0 (.int .i64 3)) w fun t_54 w =>
  pvv prog (binOp .lss 5 t_54 (.int .u8 128)) w fun t_55 w =>
  gate (some (t_55, false)) (fun K => K t_54 w) w fun t_56 w =>
  gate (some (t_55, false)) (fun K => pvv prog (binOp .lss 5 (.int .u8 191) t_56) w K) w fun t_57 w =>
  pv prog (oPick t_55 (.bool true) t_57) w fun t_58 w =>
  cd t_58 (
    K (.tuple #[(.int .i32 65533), (.int .i64 1)]) w) <|
  pvv prog (binOp .and 5 t_2 (.int .u8 7)) w fun t_59 w =>
  pvv prog (convert 5 21 t_59) w fun t_60 w =>
  pvv prog (binOp .shl 21 t_60 (.int .u64 18)) w fun t_61 w =>
  pvv prog (binOp .and 5 t_22 (.int .u8 63)) w fun t_62 w =>
  pvv prog (convert 5 21 t_62) w fun t_63 w =>
  pvv prog (binOp .shl 21 t_63 (.int .u64 12)) w fun t_64 w =>
  pvv prog (binOp .or 21 t_61 t_64) w fun t_65 w =>
  pvv prog (binOp .and 5 t_38 (.int .u8 63)) w fun t_66 w =>
  pvv prog (convert 5 21 t_66) w fun t_67 w =>
  pvv prog (binOp .shl 21 t_67 (.int .u64 6)) w fun t_68 w =>
  pvv prog (binOp .or 21 t_65 t_68) w fun t_69 w =>
  pvv prog (binOp .and 5 t_54 (.int .u8 63)) w fun t_70 w =>
  pvv prog (convert 5 21 t_70) w fun t_71 w =>
  pvv prog (binOp .or 21 t_69 t_71) w fun t_72 w =>
  K (.tuple #[t_72, (.int .i64 4)]) w
theorem B126_eq (s_p0 : Value) (w : World) (K : Value → World → Prop) : denFn prog Tryz.f126 T126 [s_p0] w K = B126 s_p0 w K := by kernel_rfl
theorem c126 {s_p0 : Value} {w : World} {K : Value → World → Prop} (h : B126 s_p0 w K) : Calls prog 126 #[s_p0] w (Ret K) :=
  denFn_calls Tryz.func126 T126_ok (Eq.mpr (B126_eq s_p0 w K) h)

-- 25 (*holdfast/holdfastref12.Store).Access
def T25 : Ann := (.seq .none (.seq (.seq .none (.seq .none (.seq (.seq .none .none) .none))) (.seq (.seq .none (.seq (.seq .none .none) .none)) (.seq (.seq .none (.block (.loop 73786976294569771648 [9] (.seq (.seq .none (.seq .none .none)) (.seq (.block (.seq .none (.seq (.seq .none .none) .none))) .none))))) (.seq .none .none)))))
theorem T25_ok : chkFn prog Tryz.f25 T25 = true := by kernel_rfl
def B25 (s_p0 id_p1 now_p2 : Value) (w : World) (K : Value → World → Prop) : Prop :=
  efv prog (Instr.alloc 49 true (.tuple #[])) w fun t_0 w =>
  Calls prog 59 #[s_p0, now_p2] w (Ret fun t_1 w =>
  pvv prog (oEq .neq 36 (.tmp 13) (.const (.int .i64 0)) t_1 (.int .i64 0)) w fun t_2 w =>
  cd t_2 (
    pvv prog (Instr.build 49 #[]) w fun t_3 w =>
    efu prog (Instr.storeAt 49 t_0 t_3) w fun u_4 w =>
    ∃ r_5, (do loadVar 49 (← asAddr t_0)).run prog w = .ok r_5 w ∧ K (.tuple #[r_5, t_1]) w) <|
  pvv prog (binOp .lss 3 id_p1 (.int .i64 1)) w fun t_6 w =>
  gate (some (t_6, false)) (fun K => K id_p1 w) w fun t_7 w =>
  gate (some (t_6, false)) (fun K => K s_p0 w) w fun t_8 w =>
  gate (some (t_6, false)) (fun K => pv prog (oNil t_8) w K) w fun t_9 w =>
  gate (some (t_6, false)) (fun K => pvv prog (Instr.fieldAt 69 t_9 1) w K) w fun t_10 w =>
  gate (some (t_6, false)) (fun K => ldv prog (Instr.loadAt 3 t_10) w K) w fun t_11 w =>
  gate (some (t_6, false)) (fun K => pvv prog (binOp .geq 3 t_7 t_11) w K) w fun t_12 w =>
  pv prog (oPick t_6 (.bool true) t_12) w fun t_13 w =>
  cd t_13 (
    pvv prog (Instr.build 49 #[]) w fun t_14 w =>
    efu prog (Instr.storeAt 49 t_0 t_14) w fun u_15 w =>
    ∃ r_16, (do loadVar 49 (← asAddr t_0)).run prog w = .ok r_16 w ∧ K (.tuple #[r_16, (.int .i64 4)]) w) <|
  lp (fun σ w again_18 => pop σ fun i_17 σ => fin σ <|
    pv prog (oNil s_p0) w fun t_19 w =>
    pvv prog (Instr.fieldAt 69 t_19 4) w fun t_20 w =>
    ldv prog (Instr.loadAt 41 t_20) w fun t_21 w =>
    pv prog (oBi .len #[41] 3 #[false] #[t_21]) w fun t_22 w =>
    pvv prog (binOp .lss 3 i_17 t_22) w fun t_23 w =>
    cd t_23 (
      pv prog (oNil s_p0) w fun t_24 w =>
      pvv prog (Instr.fieldAt 69 t_24 4) w fun t_25 w =>
      ldv prog (Instr.loadAt 41 t_25) w fun t_26 w =>
      pvv prog (Instr.indexAt 41 t_26 i_17) w fun t_27 w =>
      pvv prog (Instr.fieldAt 49 t_27 0) w fun t_28 w =>
      ldv prog (Instr.loadAt 3 t_28) w fun t_29 w =>
      pvv prog (oEq .eql 3 (.tmp 44) (.tmp 45) t_29 id_p1) w fun t_30 w =>
      gate (some (t_30, true)) (fun K => K now_p2 w) w fun t_31 w =>
      gate (some (t_30, true)) (fun K => K s_p0 w) w fun t_32 w =>
      gate (some (t_30, true)) (fun K => pv prog (oNil t_32) w K) w fun t_33 w =>
      gate (some (t_30, true)) (fun K => pvv prog (Instr.fieldAt 69 t_33 4) w K) w fun t_34 w =>
      gate (some (t_30, true)) (fun K => ldv prog (Instr.loadAt 41 t_34) w K) w fun t_35 w =>
      gate (some (t_30, true)) (fun K => K i_17 w) w fun t_36 w =>
      gate (some (t_30, true)) (fun K => pvv prog (Instr.indexAt 41 t_35 t_36) w K) w fun t_37 w =>
      gate (some (t_30, true)) (fun K => pvv prog (Instr.fieldAt 49 t_37 3) w K) w fun t_38 w =>
      gate (some (t_30, true)) (fun K => ldv prog (Instr.loadAt 3 t_38) w K) w fun t_39 w =>
      gate (some (t_30, true)) (fun K => pvv prog (binOp .lss 3 t_31 t_39) w K) w fun t_40 w =>
      pv prog (oPick t_30 t_40 (.bool false)) w fun t_41 w =>
      cd t_41 (
        pv prog (oNil s_p0) w fun t_42 w =>
        pvv prog (Instr.fieldAt 69 t_42 4) w fun t_43 w =>
        ldv prog (Instr.loadAt 41 t_43) w fun t_44 w =>
        pvv prog (Instr.indexAt 41 t_44 i_17) w fun t_45 w =>
        ldv prog (Instr.loadAt 49 t_45) w fun t_46 w =>
        efu prog (Instr.storeAt 49 t_0 t_46) w fun u_47 w =>
        ∃ r_48, (do loadVar 49 (← asAddr t_0)).run prog w = .ok r_48 w ∧ K (.tuple #[r_48, (.int .i64 0)]) w) <|
      pvv prog (binOp .add 3 i_17 (.int .i64 1)) w fun t_49 w =>
      again_18 [t_49] w) <|
    pvv prog (Instr.build 49 #[]) w fun t_50 w =>
    efu prog (Instr.storeAt 49 t_0 t_50) w fun u_51 w =>
    ∃ r_52, (do loadVar 49 (← asAddr t_0)).run prog w = .ok r_52 w ∧ K (.tuple #[r_52, (.int .i64 12)]) w) [(.int .i64 0)] w)
theorem B25_eq (s_p0 id_p1 now_p2 : Value) (w : World) (K : Value → World → Prop) : denFn prog Tryz.f25 T25 [s_p0, id_p1, now_p2] w K = B25 s_p0 id_p1 now_p2 w K := by kernel_rfl
theorem c25 {s_p0 id_p1 now_p2 : Value} {w : World} {K : Value → World → Prop} (h : B25 s_p0 id_p1 now_p2 w K) : Calls prog 25 #[s_p0, id_p1, now_p2] w (Ret K) :=
  denFn_calls Tryz.func25 T25_ok (Eq.mpr (B25_eq s_p0 id_p1 now_p2 w K) h)

-- 62 (*holdfast/holdfastref12.Store).ends
def T62 : Ann := (.seq .none (.seq (.seq .none (.seq (.seq .none .none) .none)) (.seq .none (.seq .none (.seq (.seq .none (.block (.loop 144115188075790976 [7, 9] (.seq (.seq .none (.seq .none .none)) (.meet 144115188071661696 [7] (.block (.seq .none (.seq (.seq .none .none) .none))) .none))))) (.seq .none .none))))))
theorem T62_ok : chkFn prog Tryz.f62 T62 = true := by kernel_rfl
def B62 (s_p0 client_p1 sessions_p2 : Value) (w : World) (K : Value → World → Prop) : Prop :=
  pvv prog (oEq .eql 26 (.tmp 10) (.const (.pointer none)) s_p0 (.pointer none)) w fun t_0 w =>
  cd t_0 (
    K (.slice none 0 0) w) <|
  pv prog (oNil s_p0) w fun t_1 w =>
  pvv prog (Instr.fieldAt 69 t_1 3) w fun t_2 w =>
  ldv prog (Instr.loadAt 43 t_2) w fun t_3 w =>
  lp (fun σ w again_6 => pop σ fun out_4 σ => pop σ fun i_5 σ => fin σ <|
    pv prog (oBi .len #[43] 3 #[false] #[t_3]) w fun t_7 w =>
    pvv prog (binOp .lss 3 i_5 t_7) w fun t_8 w =>
    cd t_8 (
      jn (fun σ w => pop σ fun out_9 σ => fin σ <|
        pvv prog (binOp .add 3 i_5 (.int .i64 1)) w fun t_10 w =>
        again_6 [out_9, t_10] w) fun k_11 =>
      pvv prog (Instr.indexAt 43 t_3 i_5) w fun t_12 w =>
      pvv prog (Instr.fieldAt 35 t_12 1) w fun t_13 w =>
      ldv prog (Instr.loadAt 3 t_13) w fun t_14 w =>
      Calls prog 74 #[sessions_p2, t_14] w (Ret fun t_15 w =>
      gate (some (t_15, true)) (fun K => K client_p1 w) w fun t_16 w =>
      gate (some (t_15, true)) (fun K => pvv prog (oEq .eql 9 (.tmp 30) (.const (.string ⟨#[]⟩)) t_16 (.string ⟨#[]⟩)) w K) w fun t_17 w =>
      gate (some (t_15, true)) (fun K => K t_17 w) w fun t_18 w =>
      gate (some (t_18, false)) (fun K => K t_3 w) w fun t_19 w =>
      gate (some (t_18, false)) (fun K => K i_5 w) w fun t_20 w =>
      gate (some (t_18, false)) (fun K => pvv prog (Instr.indexAt 43 t_19 t_20) w K) w fun t_21 w =>
      gate (some (t_18, false)) (fun K => pvv prog (Instr.fieldAt 35 t_21 2) w K) w fun t_22 w =>
      gate (some (t_18, false)) (fun K => ldv prog (Instr.loadAt 9 t_22) w K) w fun t_23 w =>
      gate (some (t_18, false)) (fun K => K client_p1 w) w fun t_24 w =>
      gate (some (t_18, false)) (fun K => pvv prog (oEq .eql 9 (.tmp 37) (.tmp 38) t_23 t_24) w K) w fun t_25 w =>
      gate (some (t_15, true)) (fun K => pv prog (oPick t_18 (.bool true) t_25) w K) w fun t_26 w =>
      pv prog (oPick t_15 t_26 (.bool false)) w fun t_27 w =>
      cd t_27 (
        pvv prog (Instr.indexAt 43 t_3 i_5) w fun t_28 w =>
        pvv prog (Instr.fieldAt 35 t_28 0) w fun t_29 w =>
        ldv prog (Instr.loadAt 3 t_29) w fun t_30 w =>
        efv prog (Instr.buildSlice 23 1 #[(0, t_30)]) w fun t_31 w =>
        ef prog (oBi .append #[23, 23] 23 #[false, false] #[out_4, t_31]) w fun t_32 w =>
        pvv prog (Instr.indexAt 43 t_3 i_5) w fun t_33 w =>
        pvv prog (Instr.fieldAt 35 t_33 0) w fun t_34 w =>
        ldv prog (Instr.loadAt 3 t_34) w fun t_35 w =>
        Calls prog 61 #[s_p0, t_35] w (Ret fun t_36 w =>
        k_11 [t_32] w)) <|
      k_11 [out_4] w)) <|
    K out_4 w) [(.slice none 0 0), (.int .i64 0)] w
theorem B62_eq (s_p0 client_p1 sessions_p2 : Value) (w : World) (K : Value → World → Prop) : denFn prog Tryz.f62 T62 [s_p0, client_p1, sessions_p2] w K = B62 s_p0 client_p1 sessions_p2 w K := by kernel_rfl
theorem c62 {s_p0 client_p1 sessions_p2 : Value} {w : World} {K : Value → World → Prop} (h : B62 s_p0 client_p1 sessions_p2 w K) : Calls prog 62 #[s_p0, client_p1, sessions_p2] w (Ret K) :=
  denFn_calls Tryz.func62 T62_ok (Eq.mpr (B62_eq s_p0 client_p1 sessions_p2 w K) h)

-- 31 (*holdfast/holdfastref12.Store).Sweep
def T31 : Ann := (.seq .none (.seq (.seq .none (.seq .none (.seq (.seq .none .none) .none))) (.seq .none (.seq .none (.seq .none (.seq (.seq .none (.block (.loop 2251799812637568 [7, 8, 9] (.seq (.seq .none (.seq .none .none)) (.meet 2251799276814720 [7, 8] (.block (.seq .none (.seq .none .none))) .none))))) (.seq .none (.seq .none .none))))))))
theorem T31_ok : chkFn prog Tryz.f31 T31 = true := by kernel_rfl
def B31 (s_p0 now_p1 : Value) (w : World) (K : Value → World → Prop) : Prop :=
  Calls prog 59 #[s_p0, now_p1] w (Ret fun t_0 w =>
  pvv prog (oEq .neq 36 (.tmp 13) (.const (.int .i64 0)) t_0 (.int .i64 0)) w fun t_1 w =>
  cd t_1 (
    K (.tuple #[(.int .i64 0), t_0]) w) <|
  pv prog (oNil s_p0) w fun t_2 w =>
  pvv prog (Instr.fieldAt 69 t_2 2) w fun t_3 w =>
  efu prog (Instr.storeAt 3 t_3 now_p1) w fun u_4 w =>
  lp (fun σ w again_8 => pop σ fun t_5 σ => pop σ fun n_6 σ => pop σ fun i_7 σ => fin σ <|
    pv prog (oNil s_p0) w fun t_9 w =>
    pvv prog (Instr.fieldAt 69 t_9 4) w fun t_10 w =>
    ldv prog (Instr.loadAt 41 t_10) w fun t_11 w =>
    pv prog (oBi .len #[41] 3 #[false] #[t_11]) w fun t_12 w =>
    pvv prog (binOp .lss 3 i_7 t_12) w fun t_13 w =>
    cd t_13 (
      jn (fun σ w => pop σ fun t_14 σ => pop σ fun n_15 σ => fin σ <|
        pvv prog (binOp .add 3 i_7 (.int .i64 1)) w fun t_16 w =>
        again_8 [t_14, n_15, t_16] w) fun k_17 =>
      pv prog (oNil s_p0) w fun t_18 w =>
      pvv prog (Instr.fieldAt 69 t_18 4) w fun t_19 w =>
      ldv prog (Instr.loadAt 41 t_19) w fun t_20 w =>
      pvv prog (Instr.indexAt 41 t_20 i_7) w fun t_21 w =>
      pvv prog (Instr.fieldAt 49 t_21 3) w fun t_22 w =>
      ldv prog (Instr.loadAt 3 t_22) w fun t_23 w =>
      pvv prog (binOp .lss 3 now_p1 t_23) w fun t_24 w =>
      cd t_24 (
        pv prog (oNil s_p0) w fun t_25 w =>
        pvv prog (Instr.fieldAt 69 t_25 4) w fun t_26 w =>
        ldv prog (Instr.loadAt 41 t_26) w fun t_27 w =>
        pvv prog (Instr.indexAt 41 t_27 i_7) w fun t_28 w =>
        ldv prog (Instr.loadAt 49 t_28) w fun t_29 w =>
        efv prog (Instr.buildSlice 41 1 #[(0, t_29)]) w fun t_30 w =>
        ef prog (oBi .append #[41, 41] 41 #[false, false] #[t_5, t_30]) w fun t_31 w =>
        k_17 [t_31, n_6] w) <|
      pvv prog (binOp .add 3 n_6 (.int .i64 1)) w fun t_32 w =>
      k_17 [t_5, t_32] w) <|
    pv prog (oNil s_p0) w fun t_33 w =>
    pvv prog (Instr.fieldAt 69 t_33 4) w fun t_34 w =>
    efu prog (Instr.storeAt 41 t_34 t_5) w fun u_35 w =>
    K (.tuple #[n_6, (.int .i64 0)]) w) [(.slice none 0 0), (.int .i64 0), (.int .i64 0)] w)
theorem B31_eq (s_p0 now_p1 : Value) (w : World) (K : Value → World → Prop) : denFn prog Tryz.f31 T31 [s_p0, now_p1] w K = B31 s_p0 now_p1 w K := by kernel_rfl
theorem c31 {s_p0 now_p1 : Value} {w : World} {K : Value → World → Prop} (h : B31 s_p0 now_p1 w K) : Calls prog 31 #[s_p0, now_p1] w (Ret K) :=
  denFn_calls Tryz.func31 T31_ok (Eq.mpr (B31_eq s_p0 now_p1 w K) h)

-- 56 holdfast/holdfastref02.IsName
def T56 : Ann := (.seq .none (.seq (.seq .none (.block (.loop 8589934588 [3] (.seq (.seq .none (.seq .none .none)) (.seq (.block (.seq .none (.seq .none (.seq (.seq .none .none) .none)))) .none))))) (.seq .none .none)))
theorem T56_ok : chkFn prog Tryz.f56 T56 = true := by kernel_rfl
def B56 (s_p0 : Value) (w : World) (K : Value → World → Prop) : Prop :=
  lp (fun σ w again_1 => pop σ fun i_0 σ => fin σ <|
    pv prog (oBi .len #[9] 3 #[false] #[s_p0]) w fun t_2 w =>
    pvv prog (binOp .lss 3 i_0 t_2) w fun t_3 w =>
    cd t_3 (
      pvv prog (Instr.index 9 s_p0 i_0) w fun t_4 w =>
      pvv prog (binOp .geq 5 t_4 (.int .u8 97)) w fun t_5 w =>
      gate (some (t_5, true)) (fun K => K t_4 w) w fun t_6 w =>
      gate (some (t_5, true)) (fun K => pvv prog (binOp .leq 5 t_6 (.int .u8 122)) w K) w fun t_7 w =>
      pv prog (oPick t_5 t_7 (.bool false)) w fun t_8 w =>
      gate (some (t_8, false)) (fun K => K t_4 w) w fun t_9 w =>
      gate (some (t_8, false)) (fun K => pvv prog (binOp .geq 5 t_9 (.int .u8 48)) w K) w fun t_10 w =>
      gate (some (t_8, false)) (fun K => K t_10 w) w fun t_11 w =>
      gate (some (t_11, true)) (fun K => K t_4 w) w fun t_12 w =>
      gate (some (t_11, true)) (fun K => pvv prog (binOp .leq 5 t_12 (.int .u8 57)) w K) w fun t_13 w =>
      gate (some (t_8, false)) (fun K => pv prog (oPick t_11 t_13 (.bool false)) w K) w fun t_14 w =>
      pv prog (oPick t_8 (.bool true) t_14) w fun t_15 w =>
      gate (some (t_15, false)) (fun K => K t_4 w) w fun t_16 w =>
      gate (some (t_15, false)) (fun K => pvv prog (oEq .eql 5 (.tmp 29) (.const (.int .u8 45)) t_16 (.int .u8 45)) w K) w fun t_17 w =>
      pv prog (oPick t_15 (.bool true) t_17) w fun t_18 w =>
      pvv prog (Op.unary .not t_18) w fun t_19 w =>
      cd t_19 (
        K (.bool false) w) <|
      pvv prog (binOp .add 3 i_0 (.int .i64 1)) w fun t_20 w =>
      again_1 [t_20] w) <|
    pv prog (oBi .len #[9] 3 #[false] #[s_p0]) w fun t_21 w =>
    pvv prog (binOp .geq 3 t_21 (.int .i64 1)) w fun t_22 w =>
    gate (some (t_22, true)) (fun K => K s_p0 w) w fun t_23 w =>
    gate (some (t_22, true)) (fun K => pv prog (oBi .len #[9] 3 #[false] #[t_23]) w K) w fun t_24 w =>
    gate (some (t_22, true)) (fun K => pvv prog (binOp .leq 3 t_24 (.int .i64 9)) w K) w fun t_25 w =>
    pv prog (oPick t_22 t_25 (.bool false)) w fun t_26 w =>
    K t_26 w) [(.int .i64 0)] w
theorem B56_eq (s_p0 : Value) (w : World) (K : Value → World → Prop) : denFn prog Tryz.f56 T56 [s_p0] w K = B56 s_p0 w K := by kernel_rfl
theorem c56 {s_p0 : Value} {w : World} {K : Value → World → Prop} (h : B56 s_p0 w K) : Calls prog 56 #[s_p0] w (Ret K) :=
  denFn_calls Tryz.func56 T56_ok (Eq.mpr (B56_eq s_p0 w K) h)

-- 58 (*holdfast/holdfastref12.Store).fresh
def T58 : Ann := (.seq .none (.meet 6152 [3] (.seq .none (.seq .none .none)) (.seq .none (.seq .none (.seq .none (.seq .none (.seq .none (.seq .none .none))))))))
theorem T58_ok : chkFn prog Tryz.f58 T58 = true := by kernel_rfl
def B58 (s_p0 family_p1 scopes_p2 until_p3 : Value) (w : World) (K : Value → World → Prop) : Prop :=
  efv prog (Instr.alloc 49 true (.tuple #[])) w fun t_0 w =>
  jn (fun σ w => pop σ fun until_1 σ => fin σ <|
    pv prog (oNil s_p0) w fun t_2 w =>
    pvv prog (Instr.fieldAt 69 t_2 1) w fun t_3 w =>
    ldv prog (Instr.loadAt 3 t_3) w fun t_4 w =>
    pvv prog (Instr.build 49 #[(0, t_4), (1, family_p1), (2, scopes_p2), (3, until_1)]) w fun t_5 w =>
    efv prog (Instr.alloc 49 true (.tuple #[])) w fun x_6 w =>
    efu prog (Instr.storeAt 49 x_6 t_5) w fun u_7 w =>
    pv prog (oNil s_p0) w fun t_8 w =>
    pvv prog (Instr.fieldAt 69 t_8 1) w fun t_9 w =>
    ldv prog (Instr.loadAt 3 t_9) w fun t_10 w =>
    pvv prog (binOp .add 3 t_10 (.int .i64 1)) w fun t_11 w =>
    pv prog (oNil s_p0) w fun t_12 w =>
    pvv prog (Instr.fieldAt 69 t_12 1) w fun t_13 w =>
    efu prog (Instr.storeAt 3 t_13 t_11) w fun u_14 w =>
    pv prog (oNil s_p0) w fun t_15 w =>
    pvv prog (Instr.fieldAt 69 t_15 4) w fun t_16 w =>
    ldv prog (Instr.loadAt 41 t_16) w fun t_17 w =>
    ef prog (oBi .append #[41, 41] 41 #[false, false] #[(.slice none 0 0), t_17]) w fun t_18 w =>
    ldv prog (Instr.loadAt 49 x_6) w fun t_19 w =>
    efv prog (Instr.buildSlice 41 1 #[(0, t_19)]) w fun t_20 w =>
    ef prog (oBi .append #[41, 41] 41 #[false, false] #[t_18, t_20]) w fun t_21 w =>
    pv prog (oNil s_p0) w fun t_22 w =>
    pvv prog (Instr.fieldAt 69 t_22 4) w fun t_23 w =>
    efu prog (Instr.storeAt 41 t_23 t_21) w fun u_24 w =>
    ldv prog (Instr.loadAt 49 x_6) w fun t_25 w =>
    efu prog (Instr.storeAt 49 t_0 t_25) w fun u_26 w =>
    ∃ r_27, (do loadVar 49 (← asAddr t_0)).run prog w = .ok r_27 w ∧ K r_27 w) fun k_28 =>
  pvv prog (binOp .gtr 3 until_p3 (.int .i64 1099511627776)) w fun t_29 w =>
  cd t_29 (
    k_28 [(.int .i64 1099511627776)] w) <|
  k_28 [until_p3] w
theorem B58_eq (s_p0 family_p1 scopes_p2 until_p3 : Value) (w : World) (K : Value → World → Prop) : denFn prog Tryz.f58 T58 [s_p0, family_p1, scopes_p2, until_p3] w K = B58 s_p0 family_p1 scopes_p2 until_p3 w K := by kernel_rfl
theorem c58 {s_p0 family_p1 scopes_p2 until_p3 : Value} {w : World} {K : Value → World → Prop} (h : B58 s_p0 family_p1 scopes_p2 until_p3 w K) : Calls prog 58 #[s_p0, family_p1, scopes_p2, until_p3] w (Ret K) :=
  denFn_calls Tryz.func58 T58_ok (Eq.mpr (B58_eq s_p0 family_p1 scopes_p2 until_p3 w K) h)

-- 60 (*holdfast/holdfastref12.Store).find
def T60 : Ann := (.seq .none (.seq (.seq .none (.seq (.seq .none .none) .none)) (.seq (.seq .none (.block (.loop 137438822512 [6] (.seq (.seq .none (.seq .none .none)) (.seq (.block (.seq .none (.seq (.seq .none .none) .none))) .none))))) (.seq .none .none))))
theorem T60_ok : chkFn prog Tryz.f60 T60 = true := by kernel_rfl
def B60 (s_p0 id_p1 : Value) (w : World) (K : Value → World → Prop) : Prop :=
  pvv prog (binOp .lss 3 id_p1 (.int .i64 1)) w fun t_0 w =>
  gate (some (t_0, false)) (fun K => K id_p1 w) w fun t_1 w =>
  gate (some (t_0, false)) (fun K => K s_p0 w) w fun t_2 w =>
  gate (some (t_0, false)) (fun K => pv prog (oNil t_2) w K) w fun t_3 w =>
  gate (some (t_0, false)) (fun K => pvv prog (Instr.fieldAt 69 t_3 0) w K) w fun t_4 w =>
  gate (some (t_0, false)) (fun K => ldv prog (Instr.loadAt 3 t_4) w K) w fun t_5 w =>
  gate (some (t_0, false)) (fun K => pvv prog (binOp .geq 3 t_1 t_5) w K) w fun t_6 w =>
  pv prog (oPick t_0 (.bool true) t_6) w fun t_7 w =>
  cd t_7 (
    K (.tuple #[(.int .i64 (-1)), (.int .i64 4)]) w) <|
  lp (fun σ w again_9 => pop σ fun i_8 σ => fin σ <|
    pv prog (oNil s_p0) w fun t_10 w =>
    pvv prog (Instr.fieldAt 69 t_10 3) w fun t_11 w =>
    ldv prog (Instr.loadAt 43 t_11) w fun t_12 w =>
    pv prog (oBi .len #[43] 3 #[false] #[t_12]) w fun t_13 w =>
    pvv prog (binOp .lss 3 i_8 t_13) w fun t_14 w =>
    cd t_14 (
      pv prog (oNil s_p0) w fun t_15 w =>
      pvv prog (Instr.fieldAt 69 t_15 3) w fun t_16 w =>
      ldv prog (Instr.loadAt 43 t_16) w fun t_17 w =>
      pvv prog (Instr.indexAt 43 t_17 i_8) w fun t_18 w =>
      pvv prog (Instr.fieldAt 35 t_18 0) w fun t_19 w =>
      ldv prog (Instr.loadAt 3 t_19) w fun t_20 w =>
      pvv prog (oEq .eql 3 (.tmp 33) (.tmp 34) t_20 id_p1) w fun t_21 w =>
      cd t_21 (
        K (.tuple #[i_8, (.int .i64 0)]) w) <|
      pvv prog (binOp .add 3 i_8 (.int .i64 1)) w fun t_22 w =>
      again_9 [t_22] w) <|
    K (.tuple #[(.int .i64 (-1)), (.int .i64 12)]) w) [(.int .i64 0)] w
theorem B60_eq (s_p0 id_p1 : Value) (w : World) (K : Value → World → Prop) : denFn prog Tryz.f60 T60 [s_p0, id_p1] w K = B60 s_p0 id_p1 w K := by kernel_rfl
theorem c60 {s_p0 id_p1 : Value} {w : World} {K : Value → World → Prop} (h : B60 s_p0 id_p1 w K) : Calls prog 60 #[s_p0, id_p1] w (Ret K) :=
  denFn_calls Tryz.func60 T60_ok (Eq.mpr (B60_eq s_p0 id_p1 w K) h)

-- 41 holdfast/token.all[holdfast/api.Family]
def T41 : Ann := (.seq .none (.seq .none (.seq (.seq .none (.block (.loop 2147475616 [5, 13] (.seq .none (.seq (.seq .none .none) (.meet 1073709216 [5] (.block (.seq .none (.seq .none (.seq .none .none)))) .none)))))) (.seq .none .none))))
theorem T41_ok : chkFn prog Tryz.f41 T41 = true := by kernel_rfl
def B41 (r_p0 is_p1 : Value) (w : World) (K : Value → World → Prop) : Prop :=
  efv prog (Instr.box 62 r_p0) w fun r_0 w =>
  pvv prog (Instr.fieldAt 62 r_0 1) w fun t_1 w =>
  ldv prog (Instr.loadAt 60 t_1) w fun t_2 w =>
  Calls prog 67 #[t_2] w (Ret fun t_3 w =>
  Calls prog 65 #[t_3] w (Ret fun t_4 w =>
  pv prog (oBi .len #[23] 3 #[false] #[t_4]) w fun t_5 w =>
  lp (fun σ w again_8 => pop σ fun out_6 σ => pop σ fun t_7 σ => fin σ <|
    pvv prog (binOp .lss 3 t_7 t_5) w fun t_9 w =>
    cd t_9 (
      jn (fun σ w => pop σ fun out_10 σ => fin σ <|
        pvv prog (binOp .add 3 t_7 (.int .i64 1)) w fun t_11 w =>
        again_8 [out_10, t_11] w) fun k_12 =>
      pvv prog (Instr.indexAt 23 t_4 t_7) w fun t_13 w =>
      ldv prog (Instr.loadAt 3 t_13) w fun t_14 w =>
      pvv prog (Instr.fieldAt 62 r_0 1) w fun t_15 w =>
      ldv prog (Instr.loadAt 60 t_15) w fun t_16 w =>
      ldv prog (Instr.lookup 60 t_16 t_14 false) w fun t_17 w =>
      ef prog (oCall is_p1 #[t_17]) w fun t_18 w =>
      cd t_18 (
        pvv prog (Instr.fieldAt 62 r_0 1) w fun t_19 w =>
        ldv prog (Instr.loadAt 60 t_19) w fun t_20 w =>
        ldv prog (Instr.lookup 60 t_20 t_14 false) w fun t_21 w =>
        efv prog (Instr.buildSlice 43 1 #[(0, t_21)]) w fun t_22 w =>
        ef prog (oBi .append #[43, 43] 43 #[false, false] #[out_6, t_22]) w fun t_23 w =>
        k_12 [t_23] w) <|
      k_12 [out_6] w) <|
    K out_6 w) [(.slice none 0 0), (.int .i64 0)] w))
theorem B41_eq (r_p0 is_p1 : Value) (w : World) (K : Value → World → Prop) : denFn prog Tryz.f41 T41 [r_p0, is_p1] w K = B41 r_p0 is_p1 w K := by kernel_rfl
theorem c41 {r_p0 is_p1 : Value} {w : World} {K : Value → World → Prop} (h : B41 r_p0 is_p1 w K) : Calls prog 41 #[r_p0, is_p1] w (Ret K) :=
  denFn_calls Tryz.func41 T41_ok (Eq.mpr (B41_eq r_p0 is_p1 w K) h)

-- 97 strings.trimRightUnicode
def T97 : Ann := (.seq .none (.meet 8589934561 [0] (.block (.loop 8589934561 [0] (.seq (.seq .none (.seq .none .none)) (.block (.seq .none (.meet 8323168 [5, 6] (.seq .none (.seq .none .none)) (.seq (.seq .none (.seq .none .none)) .none))))))) (.seq .none .none)))
theorem T97_ok : chkFn prog Tryz.f97 T97 = true := by kernel_rfl
def B97 (s_p0 cutset_p1 : Value) (w : World) (K : Value → World → Prop) : Prop :=
  jn (fun σ w => pop σ fun s_0 σ => fin σ <|
    K s_0 w) fun k_1 =>
  lp (fun σ w again_3 => pop σ fun s_2 σ => fin σ <|
    pv prog (oBi .len #[9] 3 #[false] #[s_2]) w fun t_4 w =>
    pvv prog (binOp .gtr 3 t_4 (.int .i64 0)) w fun t_5 w =>
    cd t_5 (
      pv prog (oBi .len #[9] 3 #[false] #[s_2]) w fun t_6 w =>
      pvv prog (binOp .sub 3 t_6 (.int .i64 1)) w fun t_7 w =>
      pvv prog (Instr.index 9 s_2 t_7) w fun t_8 w =>
      pvv prog (convert 5 21 t_8) w fun t_9 w =>
      jn (fun σ w => pop σ fun r_10 σ => pop σ fun n_11 σ => fin σ <|
        Calls prog 109 #[cutset_p1, r_10] w (Ret fun t_12 w =>
        pvv prog (Op.unary .not t_12) w fun t_13 w =>
        cd t_13 (
          k_1 [s_2] w) <|
        pv prog (oBi .len #[9] 3 #[false] #[s_2]) w fun t_14 w =>
        pvv prog (binOp .sub 3 t_14 n_11) w fun t_15 w =>
        pvv prog (Instr.sliceAt 9 s_2 none (some t_15) none) w fun t_16 w =>
        again_3 [t_16] w)) fun k_17 =>
      pvv prog (binOp .geq 21 t_9 (.int .i32 128)) w fun t_18 w =>
      cd t_18 (
        Calls prog 110 #[s_2] w (Ret fun t_19 w =>
        pvv prog (Instr.extract t_19 0) w fun t_20 w =>
        pvv prog (Instr.extract t_19 1) w fun t_21 w =>
        k_17 [t_20, t_21] w)) <|
      k_17 [t_9, (.int .i64 1)] w) <|
    k_1 [s_2] w) [s_p0] w
theorem B97_eq (s_p0 cutset_p1 : Value) (w : World) (K : Value → World → Prop) : denFn prog Tryz.f97 T97 [s_p0, cutset_p1] w K = B97 s_p0 cutset_p1 w K := by kernel_rfl
theorem c97 {s_p0 cutset_p1 : Value} {w : World} {K : Value → World → Prop} (h : B97 s_p0 cutset_p1 w K) : Calls prog 97 #[s_p0, cutset_p1] w (Ret K) :=
  denFn_calls Tryz.func97 T97_ok (Eq.mpr (B97_eq s_p0 cutset_p1 w K) h)

-- 28 holdfast/holdfastref01.SameInts
def T28 : Ann := (.seq .none (.seq (.seq .none (.seq (.seq .none .none) .none)) (.seq (.seq .none (.block (.loop 67106864 [5] (.seq (.seq .none (.seq .none .none)) (.seq (.block (.seq (.draw [.op 0 .pure, .op 1 .pure, .op 2 .pure, .op 4 .pure, .op 5 .pure, .op 6 .pure, .op 3 .load, .op 7 .load, .op 8 .pure]) (.seq (.seq .none .none) .none))) .none))))) (.seq .none .none))))
theorem T28_ok : chkFn prog Tryz.f28 T28 = true := by kernel_rfl
def B28 (a_p0 b_p1 : Value) (w : World) (K : Value → World → Prop) : Prop :=
  pv prog (oBi .len #[23] 3 #[false] #[a_p0]) w fun t_0 w =>
  pv prog (oBi .len #[23] 3 #[false] #[b_p1]) w fun t_1 w =>
  pvv prog (oEq .neq 3 (.tmp 7) (.tmp 9) t_0 t_1) w fun t_2 w =>
  cd t_2 (
    K (.bool false) w) <|
  lp (fun σ w again_4 => pop σ fun i_3 σ => fin σ <|
    pv prog (oBi .len #[23] 3 #[false] #[a_p0]) w fun t_5 w =>
    pvv prog (binOp .lss 3 i_3 t_5) w fun t_6 w =>
    cd t_6 (
      dr w fun w =>
      pvv prog (Instr.indexAt 23 a_p0 i_3) w fun t_7 w =>
      pvv prog (Instr.indexAt 23 b_p1 i_3) w fun t_8 w =>
      bindS (vN (Instr.loadAt 3 t_7)) fun m_10 => ldv prog (Instr.loadAt 3 t_7) w fun t_9 w =>
      bindS (vN (Instr.loadAt 3 t_8)) fun m_12 => ldv prog (Instr.loadAt 3 t_8) w fun t_11 w =>
      pvv prog (oEq .neq 3 (.tmp 20) (.tmp 24) t_9 t_11) w fun t_13 w =>
      cd t_13 (
        K (.bool false) w) <|
      pvv prog (binOp .add 3 i_3 (.int .i64 1)) w fun t_14 w =>
      again_4 [t_14] w) <|
    K (.bool true) w) [(.int .i64 0)] w
theorem B28_eq (a_p0 b_p1 : Value) (w : World) (K : Value → World → Prop) : denFn prog Tryz.f28 T28 [a_p0, b_p1] w K = B28 a_p0 b_p1 w K := by kernel_rfl
theorem c28 {a_p0 b_p1 : Value} {w : World} {K : Value → World → Prop} (h : B28 a_p0 b_p1 w K) : Calls prog 28 #[a_p0, b_p1] w (Ret K) :=
  denFn_calls Tryz.func28 T28_ok (Eq.mpr (B28_eq a_p0 b_p1 w K) h)

-- 95 strings.trimRightASCII
def T95 : Ann := (.seq .none (.meet 2097121 [0] (.block (.loop 2097121 [0] (.seq (.seq .none (.seq .none .none)) (.block (.seq (.seq .none (.seq .none .none)) .none))))) (.seq .none .none)))
theorem T95_ok : chkFn prog Tryz.f95 T95 = true := by kernel_rfl
def B95 (s_p0 as_p1 : Value) (w : World) (K : Value → World → Prop) : Prop :=
  jn (fun σ w => pop σ fun s_0 σ => fin σ <|
    K s_0 w) fun k_1 =>
  lp (fun σ w again_3 => pop σ fun s_2 σ => fin σ <|
    pv prog (oBi .len #[9] 3 #[false] #[s_2]) w fun t_4 w =>
    pvv prog (binOp .gtr 3 t_4 (.int .i64 0)) w fun t_5 w =>
    cd t_5 (
      pv prog (oBi .len #[9] 3 #[false] #[s_2]) w fun t_6 w =>
      pvv prog (binOp .sub 3 t_6 (.int .i64 1)) w fun t_7 w =>
      pvv prog (Instr.index 9 s_2 t_7) w fun t_8 w =>
      Calls prog 107 #[as_p1, t_8] w (Ret fun t_9 w =>
      pvv prog (Op.unary .not t_9) w fun t_10 w =>
      cd t_10 (
        k_1 [s_2] w) <|
      pv prog (oBi .len #[9] 3 #[false] #[s_2]) w fun t_11 w =>
      pvv prog (binOp .sub 3 t_11 (.int .i64 1)) w fun t_12 w =>
      pvv prog (Instr.sliceAt 9 s_2 none (some t_12) none) w fun t_13 w =>
      again_3 [t_13] w)) <|
    k_1 [s_2] w) [s_p0] w
theorem B95_eq (s_p0 as_p1 : Value) (w : World) (K : Value → World → Prop) : denFn prog Tryz.f95 T95 [s_p0, as_p1] w K = B95 s_p0 as_p1 w K := by kernel_rfl
theorem c95 {s_p0 as_p1 : Value} {w : World} {K : Value → World → Prop} (h : B95 s_p0 as_p1 w K) : Calls prog 95 #[s_p0, as_p1] w (Ret K) :=
  denFn_calls Tryz.func95 T95_ok (Eq.mpr (B95_eq s_p0 as_p1 w K) h)

-- 48 holdfast/codec.IsName
def T48 : Ann := (.seq .none (.seq .none .none))
theorem T48_ok : chkFn prog Tryz.f48 T48 = true := by kernel_rfl
def B48 (s_p0 : Value) (w : World) (K : Value → World → Prop) : Prop :=
  pvv prog (oEq .neq 9 (.tmp 3) (.const (.string ⟨#[]⟩)) s_p0 (.string ⟨#[]⟩)) w fun t_0 w =>
  gate (some (t_0, true)) (fun K => K s_p0 w) w fun t_1 w =>
  gate (some (t_0, true)) (fun K => pv prog (oBi .len #[9] 3 #[false] #[t_1]) w K) w fun t_2 w =>
  gate (some (t_0, true)) (fun K => pvv prog (binOp .leq 3 t_2 (.int .i64 9)) w K) w fun t_3 w =>
  pv prog (oPick t_0 t_3 (.bool false)) w fun t_4 w =>
  gate (some (t_4, true)) (fun K => K s_p0 w) w fun t_5 w =>
  gate (some (t_4, true)) (fun K => Calls prog 72 #[t_5, (.string ⟨#[97, 98, 99, 100, 101, 102, 103, 104, 105, 106, 107, 108, 109, 110, 111, 112, 113, 114, 115, 116, 117, 118, 119, 120, 121, 122, 48, 49, 50, 51, 52, 53, 54, 55, 56, 57, 45]⟩)] w (Ret K)) w fun t_6 w =>
  gate (some (t_4, true)) (fun K => pvv prog (oEq .eql 9 (.tmp 12) (.const (.string ⟨#[]⟩)) t_6 (.string ⟨#[]⟩)) w K) w fun t_7 w =>
  pv prog (oPick t_4 t_7 (.bool false)) w fun t_8 w =>
  K t_8 w
theorem B48_eq (s_p0 : Value) (w : World) (K : Value → World → Prop) : denFn prog Tryz.f48 T48 [s_p0] w K = B48 s_p0 w K := by kernel_rfl
theorem c48 {s_p0 : Value} {w : World} {K : Value → World → Prop} (h : B48 s_p0 w K) : Calls prog 48 #[s_p0] w (Ret K) :=
  denFn_calls Tryz.func48 T48_ok (Eq.mpr (B48_eq s_p0 w K) h)

-- 47 (*holdfast/token.Store).time
def T47 : Ann := (.seq .none (.seq (.block (.seq .none (.seq (.seq .none .none) (.seq .none (.seq (.seq .none .none) (.seq .none (.seq (.seq .none .none) .none))))))) (.seq .none .none)))
theorem T47_ok : chkFn prog Tryz.f47 T47 = true := by kernel_rfl
def B47 (s_p0 now_p1 : Value) (w : World) (K : Value → World → Prop) : Prop :=
  pvv prog (oEq .eql 24 (.tmp 6) (.const (.pointer none)) s_p0 (.pointer none)) w fun t_0 w =>
  cd t_0 (
    K (.int .i64 1) w) <|
  pvv prog (binOp .lss 3 now_p1 (.int .i64 0)) w fun t_1 w =>
  gate (some (t_1, false)) (fun K => K now_p1 w) w fun t_2 w =>
  gate (some (t_1, false)) (fun K => pvv prog (binOp .gtr 3 t_2 (.int .i64 1099511627776)) w K) w fun t_3 w =>
  pv prog (oPick t_1 (.bool true) t_3) w fun t_4 w =>
  cd t_4 (
    K (.int .i64 2) w) <|
  pv prog (oNil s_p0) w fun t_5 w =>
  pvv prog (Instr.fieldAt 67 t_5 2) w fun t_6 w =>
  ldv prog (Instr.loadAt 3 t_6) w fun t_7 w =>
  pvv prog (binOp .lss 3 now_p1 t_7) w fun t_8 w =>
  cd t_8 (
    K (.int .i64 9) w) <|
  K (.int .i64 0) w
theorem B47_eq (s_p0 now_p1 : Value) (w : World) (K : Value → World → Prop) : denFn prog Tryz.f47 T47 [s_p0, now_p1] w K = B47 s_p0 now_p1 w K := by kernel_rfl
theorem c47 {s_p0 now_p1 : Value} {w : World} {K : Value → World → Prop} (h : B47 s_p0 now_p1 w K) : Calls prog 47 #[s_p0, now_p1] w (Ret K) :=
  denFn_calls Tryz.func47 T47_ok (Eq.mpr (B47_eq s_p0 now_p1 w K) h)

-- 131 slices.medianOrdered[int]
def T131 : Ann := (.seq .none (.seq .none (.seq .none (.seq .none (.seq .none .none)))))
theorem T131_ok : chkFn prog Tryz.f131 T131 = true := by kernel_rfl
def B131 (data_p0 a_p1 b_p2 c_p3 swaps_p4 : Value) (w : World) (K : Value → World → Prop) : Prop :=
  Calls prog 141 #[data_p0, a_p1, b_p2, swaps_p4] w (Ret fun t_0 w =>
  pvv prog (Instr.extract t_0 0) w fun t_1 w =>
  pvv prog (Instr.extract t_0 1) w fun t_2 w =>
  Calls prog 141 #[data_p0, t_2, c_p3, swaps_p4] w (Ret fun t_3 w =>
  pvv prog (Instr.extract t_3 0) w fun t_4 w =>
  pvv prog (Instr.extract t_3 1) w fun t_5 w =>
  Calls prog 141 #[data_p0, t_1, t_4, swaps_p4] w (Ret fun t_6 w =>
  pvv prog (Instr.extract t_6 0) w fun t_7 w =>
  pvv prog (Instr.extract t_6 1) w fun t_8 w =>
  K t_8 w)))
theorem B131_eq (data_p0 a_p1 b_p2 c_p3 swaps_p4 : Value) (w : World) (K : Value → World → Prop) : denFn prog Tryz.f131 T131 [data_p0, a_p1, b_p2, c_p3, swaps_p4] w K = B131 data_p0 a_p1 b_p2 c_p3 swaps_p4 w K := by kernel_rfl
theorem c131 {data_p0 a_p1 b_p2 c_p3 swaps_p4 : Value} {w : World} {K : Value → World → Prop} (h : B131 data_p0 a_p1 b_p2 c_p3 swaps_p4 w K) : Calls prog 131 #[data_p0, a_p1, b_p2, c_p3, swaps_p4] w (Ret K) :=
  denFn_calls Tryz.func131 T131_ok (Eq.mpr (B131_eq data_p0 a_p1 b_p2 c_p3 swaps_p4 w K) h)

-- 78 maps.Keys[map[int]holdfast/api.Family,int,holdfast/api.Family]$1
def T78 : Ann := (.seq .none (.block (.loop 16328 [] (.seq .none (.seq (.seq .none .none) (.block (.seq .none (.seq .none (.seq .none .none)))))))))
theorem T78_ok : chkFn prog Tryz.f78 T78 = true := by kernel_rfl
def B78 (yield_p0 x_p1 : Value) (w : World) (K : Value → World → Prop) : Prop :=
  ldv prog (Instr.loadAt 60 x_p1) w fun t_0 w =>
  efv prog (Instr.range 60 t_0) w fun t_1 w =>
  lp (fun σ w again_2 => fin σ <|
    efv prog (Instr.next t_1 false 0) w fun t_3 w =>
    pvv prog (Instr.extract t_3 0) w fun t_4 w =>
    cd t_4 (
      efv prog (Instr.entry t_1) w fun t_5 w =>
      pvv prog (Instr.extract t_5 0) w fun t_6 w =>
      ef prog (oCall yield_p0 #[t_6]) w fun t_7 w =>
      pvv prog (Op.unary .not t_7) w fun t_8 w =>
      cd t_8 (
        K (.tuple #[]) w) <|
      again_2 [] w) <|
    K (.tuple #[]) w) [] w
theorem B78_eq (yield_p0 x_p1 : Value) (w : World) (K : Value → World → Prop) : denFn prog Tryz.f78 T78 [yield_p0, x_p1] w K = B78 yield_p0 x_p1 w K := by kernel_rfl
theorem c78 {yield_p0 x_p1 : Value} {w : World} {K : Value → World → Prop} (h : B78 yield_p0 x_p1 w K) : Calls prog 78 #[yield_p0, x_p1] w (Ret K) :=
  denFn_calls Tryz.func78 T78_ok (Eq.mpr (B78_eq yield_p0 x_p1 w K) h)

-- 27 (*holdfast/holdfastref12.Store).End
def T27 : Ann := (.seq .none (.seq (.seq .none (.seq (.seq .none .none) .none)) (.seq (.seq .none (.seq .none (.seq (.seq .none .none) .none))) (.seq .none (.seq .none .none)))))
theorem T27_ok : chkFn prog Tryz.f27 T27 = true := by kernel_rfl
def B27 (s_p0 family_p1 : Value) (w : World) (K : Value → World → Prop) : Prop :=
  pvv prog (oEq .eql 26 (.tmp 7) (.const (.pointer none)) s_p0 (.pointer none)) w fun t_0 w =>
  cd t_0 (
    K (.int .i64 1) w) <|
  Calls prog 60 #[s_p0, family_p1] w (Ret fun t_1 w =>
  pvv prog (Instr.extract t_1 0) w fun t_2 w =>
  pvv prog (Instr.extract t_1 1) w fun t_3 w =>
  pvv prog (oEq .neq 36 (.tmp 15) (.const (.int .i64 0)) t_3 (.int .i64 0)) w fun t_4 w =>
  cd t_4 (
    K t_3 w) <|
  Calls prog 61 #[s_p0, family_p1] w (Ret fun t_5 w =>
  K (.int .i64 0) w))
theorem B27_eq (s_p0 family_p1 : Value) (w : World) (K : Value → World → Prop) : denFn prog Tryz.f27 T27 [s_p0, family_p1] w K = B27 s_p0 family_p1 w K := by kernel_rfl
theorem c27 {s_p0 family_p1 : Value} {w : World} {K : Value → World → Prop} (h : B27 s_p0 family_p1 w K) : Calls prog 27 #[s_p0, family_p1] w (Ret K) :=
  denFn_calls Tryz.func27 T27_ok (Eq.mpr (B27_eq s_p0 family_p1 w K) h)

-- 142 math/bits.TrailingZeros32
def T142 : Ann := (.seq .none (.seq (.seq .none (.seq (.seq .none .none) .none)) (.seq .none .none)))
theorem T142_ok : chkFn prog Tryz.f142 T142 = true := by kernel_rfl
def B142 (x_p0 : Value) (w : World) (K : Value → World → Prop) : Prop :=
  pvv prog (oEq .eql 121 (.tmp 3) (.const (.int .u32 0)) x_p0 (.int .u32 0)) w fun t_0 w =>
  cd t_0 (
    K (.int .i64 32) w) <|
  pvv prog (Op.unary .neg x_p0) w fun t_1 w =>
  pvv prog (binOp .and 121 x_p0 t_1) w fun t_2 w =>
  pvv prog (binOp .mul 121 t_2 (.int .u32 125613361)) w fun t_3 w =>
  pvv prog (binOp .shr 121 t_3 (.int .u64 27)) w fun t_4 w =>
  pvv prog (Instr.indexAt 172 (.pointer (some ⟨4, 0, none⟩)) t_4) w fun t_5 w =>
  ldv prog (Instr.loadAt 5 t_5) w fun t_6 w =>
  pvv prog (convert 5 3 t_6) w fun t_7 w =>
  K t_7 w
theorem B142_eq (x_p0 : Value) (w : World) (K : Value → World → Prop) : denFn prog Tryz.f142 T142 [x_p0] w K = B142 x_p0 w K := by kernel_rfl
theorem c142 {x_p0 : Value} {w : World} {K : Value → World → Prop} (h : B142 x_p0 w K) : Calls prog 142 #[x_p0] w (Ret K) :=
  denFn_calls Tryz.func142 T142_ok (Eq.mpr (B142_eq x_p0 w K) h)

-- 11 (*holdfast/token.Store).EndClient
def T11 : Ann := (.seq .none (.seq .none .none))
theorem T11_ok : chkFn prog Tryz.f11 T11 = true := by kernel_rfl
def B11 (s_p0 client_p1 sessions_p2 : Value) (w : World) (K : Value → World → Prop) : Prop :=
  efv prog (Instr.box 9 client_p1) w fun client_0 w =>
  efv prog (Instr.box 23 sessions_p2) w fun sessions_1 w =>
  pvv prog (Instr.makeFunc (.func 35) #[] #[client_0, sessions_1]) w fun t_2 w =>
  Calls prog 34 #[s_p0, t_2] w (Ret fun t_3 w =>
  K t_3 w)
theorem B11_eq (s_p0 client_p1 sessions_p2 : Value) (w : World) (K : Value → World → Prop) : denFn prog Tryz.f11 T11 [s_p0, client_p1, sessions_p2] w K = B11 s_p0 client_p1 sessions_p2 w K := by kernel_rfl
theorem c11 {s_p0 client_p1 sessions_p2 : Value} {w : World} {K : Value → World → Prop} (h : B11 s_p0 client_p1 sessions_p2 w K) : Calls prog 11 #[s_p0, client_p1, sessions_p2] w (Ret K) :=
  denFn_calls Tryz.func11 T11_ok (Eq.mpr (B11_eq s_p0 client_p1 sessions_p2 w K) h)

-- 130 slices.medianAdjacentOrdered[int]
def T130 : Ann := (.seq .none (.seq .none .none))
theorem T130_ok : chkFn prog Tryz.f130 T130 = true := by kernel_rfl
def B130 (data_p0 a_p1 swaps_p2 : Value) (w : World) (K : Value → World → Prop) : Prop :=
  pvv prog (binOp .sub 3 a_p1 (.int .i64 1)) w fun t_0 w =>
  pvv prog (binOp .add 3 a_p1 (.int .i64 1)) w fun t_1 w =>
  Calls prog 131 #[data_p0, t_0, a_p1, t_1, swaps_p2] w (Ret fun t_2 w =>
  K t_2 w)
theorem B130_eq (data_p0 a_p1 swaps_p2 : Value) (w : World) (K : Value → World → Prop) : denFn prog Tryz.f130 T130 [data_p0, a_p1, swaps_p2] w K = B130 data_p0 a_p1 swaps_p2 w K := by kernel_rfl
theorem c130 {data_p0 a_p1 swaps_p2 : Value} {w : World} {K : Value → World → Prop} (h : B130 data_p0 a_p1 swaps_p2 w K) : Calls prog 130 #[data_p0, a_p1, swaps_p2] w (Ret K) :=
  denFn_calls Tryz.func130 T130_ok (Eq.mpr (B130_eq data_p0 a_p1 swaps_p2 w K) h)

-- 40 (*holdfast/token.Store).Tokens$1
def T40 : Ann := (.seq .none (.seq .none .none))
theorem T40_ok : chkFn prog Tryz.f40 T40 = true := by kernel_rfl
def B40 (t_p0 x_p1 : Value) (w : World) (K : Value → World → Prop) : Prop :=
  efv prog (Instr.box 49 t_p0) w fun t_0 w =>
  pvv prog (Instr.fieldAt 49 t_0 1) w fun t_1 w =>
  ldv prog (Instr.loadAt 3 t_1) w fun t_2 w =>
  ldv prog (Instr.loadAt 3 x_p1) w fun t_3 w =>
  pvv prog (oEq .eql 3 (.tmp 5) (.tmp 6) t_2 t_3) w fun t_4 w =>
  K t_4 w
theorem B40_eq (t_p0 x_p1 : Value) (w : World) (K : Value → World → Prop) : denFn prog Tryz.f40 T40 [t_p0, x_p1] w K = B40 t_p0 x_p1 w K := by kernel_rfl
theorem c40 {t_p0 x_p1 : Value} {w : World} {K : Value → World → Prop} (h : B40 t_p0 x_p1 w K) : Calls prog 40 #[t_p0, x_p1] w (Ret K) :=
  denFn_calls Tryz.func40 T40_ok (Eq.mpr (B40_eq t_p0 x_p1 w K) h)

-- 49 (holdfast/token.row[holdfast/api.Family]).full
def T49 : Ann := (.seq .none (.seq .none .none))
theorem T49_ok : chkFn prog Tryz.f49 T49 = true := by kernel_rfl
def B49 (r_p0 : Value) (w : World) (K : Value → World → Prop) : Prop :=
  efv prog (Instr.box 62 r_p0) w fun r_0 w =>
  pvv prog (Instr.fieldAt 62 r_0 0) w fun t_1 w =>
  ldv prog (Instr.loadAt 3 t_1) w fun t_2 w =>
  pvv prog (binOp .gtr 3 t_2 (.int .i64 1099511627776)) w fun t_3 w =>
  K t_3 w
theorem B49_eq (r_p0 : Value) (w : World) (K : Value → World → Prop) : denFn prog Tryz.f49 T49 [r_p0] w K = B49 r_p0 w K := by kernel_rfl
theorem c49 {r_p0 : Value} {w : World} {K : Value → World → Prop} (h : B49 r_p0 w K) : Calls prog 49 #[r_p0] w (Ret K) :=
  denFn_calls Tryz.func49 T49_ok (Eq.mpr (B49_eq r_p0 w K) h)

-- 103 slices.nextPowerOfTwo
def T103 : Ann := (.seq .none (.seq .none .none))
theorem T103_ok : chkFn prog Tryz.f103 T103 = true := by kernel_rfl
def B103 (length_p0 : Value) (w : World) (K : Value → World → Prop) : Prop :=
  pvv prog (convert 3 106 length_p0) w fun t_0 w =>
  Calls prog 70 #[t_0] w (Ret fun t_1 w =>
  pvv prog (binOp .shl 106 (.int .u64 1) t_1) w fun t_2 w =>
  K t_2 w)
theorem B103_eq (length_p0 : Value) (w : World) (K : Value → World → Prop) : denFn prog Tryz.f103 T103 [length_p0] w K = B103 length_p0 w K := by kernel_rfl
theorem c103 {length_p0 : Value} {w : World} {K : Value → World → Prop} (h : B103 length_p0 w K) : Calls prog 103 #[length_p0] w (Ret K) :=
  denFn_calls Tryz.func103 T103_ok (Eq.mpr (B103_eq length_p0 w K) h)

-- 128 unicode/utf8.RuneStart
def T128 : Ann := (.seq .none (.seq .none .none))
theorem T128_ok : chkFn prog Tryz.f128 T128 = true := by kernel_rfl
def B128 (b_p0 : Value) (w : World) (K : Value → World → Prop) : Prop :=
  pvv prog (binOp .and 5 b_p0 (.int .u8 192)) w fun t_0 w =>
  pvv prog (oEq .neq 5 (.tmp 4) (.const (.int .u8 128)) t_0 (.int .u8 128)) w fun t_1 w =>
  K t_1 w
theorem B128_eq (b_p0 : Value) (w : World) (K : Value → World → Prop) : denFn prog Tryz.f128 T128 [b_p0] w K = B128 b_p0 w K := by kernel_rfl
theorem c128 {b_p0 : Value} {w : World} {K : Value → World → Prop} (h : B128 b_p0 w K) : Calls prog 128 #[b_p0] w (Ret K) :=
  denFn_calls Tryz.func128 T128_ok (Eq.mpr (B128_eq b_p0 w K) h)

-- 66 maps.Keys[map[int]holdfast/api.Token,int,holdfast/api.Token]
def T66 : Ann := (.seq .none (.seq .none .none))
theorem T66_ok : chkFn prog Tryz.f66 T66 = true := by kernel_rfl
def B66 (m_p0 : Value) (w : World) (K : Value → World → Prop) : Prop :=
  efv prog (Instr.box 63 m_p0) w fun m_0 w =>
  pvv prog (Instr.makeFunc (.func 77) #[] #[m_0]) w fun t_1 w =>
  K t_1 w
theorem B66_eq (m_p0 : Value) (w : World) (K : Value → World → Prop) : denFn prog Tryz.f66 T66 [m_p0] w K = B66 m_p0 w K := by kernel_rfl
theorem c66 {m_p0 : Value} {w : World} {K : Value → World → Prop} (h : B66 m_p0 w K) : Calls prog 66 #[m_p0] w (Ret K) :=
  denFn_calls Tryz.func66 T66_ok (Eq.mpr (B66_eq m_p0 w K) h)

-- 137 strings.IndexByte
def T137 : Ann := (.seq .none (.seq .none .none))
theorem T137_ok : chkFn prog Tryz.f137 T137 = true := by kernel_rfl
def B137 (s_p0 c_p1 : Value) (w : World) (K : Value → World → Prop) : Prop :=
  Calls prog 144 #[s_p0, c_p1] w (Ret fun t_0 w =>
  K t_0 w)
theorem B137_eq (s_p0 c_p1 : Value) (w : World) (K : Value → World → Prop) : denFn prog Tryz.f137 T137 [s_p0, c_p1] w K = B137 s_p0 c_p1 w K := by kernel_rfl
theorem c137 {s_p0 c_p1 : Value} {w : World} {K : Value → World → Prop} (h : B137 s_p0 c_p1 w K) : Calls prog 137 #[s_p0, c_p1] w (Ret K) :=
  denFn_calls Tryz.func137 T137_ok (Eq.mpr (B137_eq s_p0 c_p1 w K) h)

-- 7 holdfast/holdfastref12.New
def T7 : Ann := (.seq .none (.seq .none .none))
theorem T7_ok : chkFn prog Tryz.f7 T7 = true := by kernel_rfl
def B7 (w : World) (K : Value → World → Prop) : Prop :=
  pvv prog (Instr.build 69 #[(0, (.int .i64 1)), (1, (.int .i64 1))]) w fun t_0 w =>
  efv prog (Instr.box 69 t_0) w fun t_1 w =>
  K t_1 w
theorem B7_eq (w : World) (K : Value → World → Prop) : denFn prog Tryz.f7 T7 [] w K = B7  w K := by kernel_rfl
theorem c7 {w : World} {K : Value → World → Prop} (h : B7  w K) : Calls prog 7 #[] w (Ret K) :=
  denFn_calls Tryz.func7 T7_ok (Eq.mpr (B7_eq  w K) h)


end Go.Proofs.YtbcimkjgpplcpaaGreatDoor
