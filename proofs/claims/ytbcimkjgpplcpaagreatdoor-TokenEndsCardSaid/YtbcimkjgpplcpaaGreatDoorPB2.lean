import Derived.Test.YtbcimkjgpplcpaaGreatDoorPI
set_option linter.all false
set_option maxRecDepth 100000
namespace Go.Proofs.YtbcimkjgpplcpaaGreatDoor
open Go Hold
-- 23 (*holdfast/holdfastref12.Store).Grant
def T23 : Ann := (.seq .none (.seq .none (.seq .none (.seq (.block (.seq .none (.seq (.seq (.draw [.op 0 .load, .op 1 .load, .op 2 .eff, .op 3 .eff, .op 4 .pure]) .none) (.seq .none (.seq (.seq (.draw [.op 0 .load, .op 1 .load, .op 2 .eff, .op 3 .eff, .op 4 .pure]) .none) (.seq .none (.seq (.seq (.draw [.op 0 .load, .op 1 .load, .op 2 .eff, .op 3 .eff, .op 4 .pure]) .none) (.seq .none (.seq (.seq (.draw [.op 0 .load, .op 1 .load, .op 2 .eff, .op 3 .eff, .op 4 .pure]) .none) (.seq .none (.seq (.seq (.draw [.op 0 .load, .op 1 .load, .op 2 .eff, .op 3 .eff, .op 4 .pure]) .none) (.seq .none (.seq (.seq (.draw [.op 0 .load, .op 1 .load, .op 2 .eff, .op 3 .eff, .op 4 .pure]) .none) .none))))))))))))) (.seq .none (.seq .none (.seq .none (.seq .none (.seq .none (.seq .none (.seq (.draw [.op 1 .pure, .op 2 .pure, .op 4 .pure, .op 5 .pure, .op 6 .pure, .op 0 .load, .op 3 .load, .op 7 .eff, .op 8 .eff, .op 9 .eff, .op 10 .pure]) .none)))))))))))
theorem T23_ok : chkFn prog Tryz.f23 T23 = true := by kernel_rfl
def B23 (s_p0 session_p1 client_p2 scopes_p3 now_p4 : Value) (w : World) (K : Value → World → Prop) : Prop :=
  efv prog (Instr.alloc 35 true (.tuple #[])) w fun t_0 w =>
  efv prog (Instr.alloc 49 true (.tuple #[])) w fun t_1 w =>
  efv prog (Instr.alloc 35 true (.tuple #[])) w fun f_2 w =>
  efv prog (Instr.alloc 49 true (.tuple #[])) w fun x_3 w =>
  pvv prog (oEq .eql 26 (.tmp 17) (.const (.pointer none)) s_p0 (.pointer none)) w fun t_4 w =>
  cd t_4 (
    dr w fun w =>
    bindS (vN (Instr.loadAt 35 f_2)) fun m_6 => ldv prog (Instr.loadAt 35 f_2) w fun t_5 w =>
    bindS (vN (Instr.loadAt 49 x_3)) fun m_8 => ldv prog (Instr.loadAt 49 x_3) w fun t_7 w =>
    efu prog (Instr.storeAt 35 t_0 t_5) w fun u_9 w => stay prog none m_8 t_7 w <| 
    efu prog (Instr.storeAt 49 t_1 t_7) w fun u_10 w =>
    ∃ r_11, (do loadVar 35 (← asAddr t_0)).run prog w = .ok r_11 w ∧ ∃ r_12, (do loadVar 49 (← asAddr t_1)).run prog w = .ok r_12 w ∧ K (.tuple #[r_11, r_12, (.int .i64 1)]) w) <|
  pvv prog (binOp .lss 3 session_p1 (.int .i64 1)) w fun t_15 w =>
  gate (some (t_15, false)) (fun K => K now_p4 w) w fun t_16 w =>
  gate (some (t_15, false)) (fun K => pvv prog (binOp .lss 3 t_16 (.int .i64 0)) w K) w fun t_17 w =>
  pv prog (oPick t_15 (.bool true) t_17) w fun t_18 w =>
  gate (some (t_18, false)) (fun K => K now_p4 w) w fun t_19 w =>
  gate (some (t_18, false)) (fun K => pvv prog (binOp .gtr 3 t_19 (.int .i64 1099511627776)) w K) w fun t_20 w =>
  pv prog (oPick t_18 (.bool true) t_20) w fun t_21 w =>
  cd t_21 (
    dr w fun w =>
    bindS (vN (Instr.loadAt 35 f_2)) fun m_23 => ldv prog (Instr.loadAt 35 f_2) w fun t_22 w =>
    bindS (vN (Instr.loadAt 49 x_3)) fun m_25 => ldv prog (Instr.loadAt 49 x_3) w fun t_24 w =>
    efu prog (Instr.storeAt 35 t_0 t_22) w fun u_26 w => stay prog none m_25 t_24 w <| 
    efu prog (Instr.storeAt 49 t_1 t_24) w fun u_27 w =>
    ∃ r_28, (do loadVar 35 (← asAddr t_0)).run prog w = .ok r_28 w ∧ ∃ r_29, (do loadVar 49 (← asAddr t_1)).run prog w = .ok r_29 w ∧ K (.tuple #[r_28, r_29, (.int .i64 2)]) w) <|
  Calls prog 56 #[client_p2] w (Ret fun t_32 w =>
  pvv prog (Op.unary .not t_32) w fun t_33 w =>
  cd t_33 (
    dr w fun w =>
    bindS (vN (Instr.loadAt 35 f_2)) fun m_35 => ldv prog (Instr.loadAt 35 f_2) w fun t_34 w =>
    bindS (vN (Instr.loadAt 49 x_3)) fun m_37 => ldv prog (Instr.loadAt 49 x_3) w fun t_36 w =>
    efu prog (Instr.storeAt 35 t_0 t_34) w fun u_38 w => stay prog none m_37 t_36 w <| 
    efu prog (Instr.storeAt 49 t_1 t_36) w fun u_39 w =>
    ∃ r_40, (do loadVar 35 (← asAddr t_0)).run prog w = .ok r_40 w ∧ ∃ r_41, (do loadVar 49 (← asAddr t_1)).run prog w = .ok r_41 w ∧ K (.tuple #[r_40, r_41, (.int .i64 8)]) w) <|
  pv prog (oNil s_p0) w fun t_44 w =>
  pvv prog (Instr.fieldAt 69 t_44 2) w fun t_45 w =>
  ldv prog (Instr.loadAt 3 t_45) w fun t_46 w =>
  pvv prog (binOp .lss 3 now_p4 t_46) w fun t_47 w =>
  cd t_47 (
    dr w fun w =>
    bindS (vN (Instr.loadAt 35 f_2)) fun m_49 => ldv prog (Instr.loadAt 35 f_2) w fun t_48 w =>
    bindS (vN (Instr.loadAt 49 x_3)) fun m_51 => ldv prog (Instr.loadAt 49 x_3) w fun t_50 w =>
    efu prog (Instr.storeAt 35 t_0 t_48) w fun u_52 w => stay prog none m_51 t_50 w <| 
    efu prog (Instr.storeAt 49 t_1 t_50) w fun u_53 w =>
    ∃ r_54, (do loadVar 35 (← asAddr t_0)).run prog w = .ok r_54 w ∧ ∃ r_55, (do loadVar 49 (← asAddr t_1)).run prog w = .ok r_55 w ∧ K (.tuple #[r_54, r_55, (.int .i64 9)]) w) <|
  pv prog (oNil s_p0) w fun t_58 w =>
  pvv prog (Instr.fieldAt 69 t_58 0) w fun t_59 w =>
  ldv prog (Instr.loadAt 3 t_59) w fun t_60 w =>
  pvv prog (binOp .gtr 3 t_60 (.int .i64 1099511627776)) w fun t_61 w =>
  gate (some (t_61, false)) (fun K => K s_p0 w) w fun t_62 w =>
  gate (some (t_61, false)) (fun K => pv prog (oNil t_62) w K) w fun t_63 w =>
  gate (some (t_61, false)) (fun K => pvv prog (Instr.fieldAt 69 t_63 1) w K) w fun t_64 w =>
  gate (some (t_61, false)) (fun K => ldv prog (Instr.loadAt 3 t_64) w K) w fun t_65 w =>
  gate (some (t_61, false)) (fun K => pvv prog (binOp .gtr 3 t_65 (.int .i64 1099511627776)) w K) w fun t_66 w =>
  pv prog (oPick t_61 (.bool true) t_66) w fun t_67 w =>
  cd t_67 (
    dr w fun w =>
    bindS (vN (Instr.loadAt 35 f_2)) fun m_69 => ldv prog (Instr.loadAt 35 f_2) w fun t_68 w =>
    bindS (vN (Instr.loadAt 49 x_3)) fun m_71 => ldv prog (Instr.loadAt 49 x_3) w fun t_70 w =>
    efu prog (Instr.storeAt 35 t_0 t_68) w fun u_72 w => stay prog none m_71 t_70 w <| 
    efu prog (Instr.storeAt 49 t_1 t_70) w fun u_73 w =>
    ∃ r_74, (do loadVar 35 (← asAddr t_0)).run prog w = .ok r_74 w ∧ ∃ r_75, (do loadVar 49 (← asAddr t_1)).run prog w = .ok r_75 w ∧ K (.tuple #[r_74, r_75, (.int .i64 7)]) w) <|
  Calls prog 57 #[s_p0, session_p1] w (Ret fun t_78 w =>
  pv prog (oBi .len #[43] 3 #[false] #[t_78]) w fun t_79 w =>
  pvv prog (binOp .geq 3 t_79 (.int .i64 2)) w fun t_80 w =>
  cd t_80 (
    dr w fun w =>
    bindS (vN (Instr.loadAt 35 f_2)) fun m_82 => ldv prog (Instr.loadAt 35 f_2) w fun t_81 w =>
    bindS (vN (Instr.loadAt 49 x_3)) fun m_84 => ldv prog (Instr.loadAt 49 x_3) w fun t_83 w =>
    efu prog (Instr.storeAt 35 t_0 t_81) w fun u_85 w => stay prog none m_84 t_83 w <| 
    efu prog (Instr.storeAt 49 t_1 t_83) w fun u_86 w =>
    ∃ r_87, (do loadVar 35 (← asAddr t_0)).run prog w = .ok r_87 w ∧ ∃ r_88, (do loadVar 49 (← asAddr t_1)).run prog w = .ok r_88 w ∧ K (.tuple #[r_87, r_88, (.int .i64 23)]) w) <|
  pv prog (oNil s_p0) w fun t_91 w =>
  pvv prog (Instr.fieldAt 69 t_91 0) w fun t_92 w =>
  ldv prog (Instr.loadAt 3 t_92) w fun t_93 w =>
  pvv prog (Instr.build 35 #[(0, t_93), (1, session_p1), (2, client_p2), (3, scopes_p3), (4, (.int .i64 1))]) w fun t_94 w =>
  efu prog (Instr.storeAt 35 f_2 t_94) w fun u_95 w =>
  pv prog (oNil s_p0) w fun t_96 w =>
  pvv prog (Instr.fieldAt 69 t_96 0) w fun t_97 w =>
  ldv prog (Instr.loadAt 3 t_97) w fun t_98 w =>
  pvv prog (binOp .add 3 t_98 (.int .i64 1)) w fun t_99 w =>
  pv prog (oNil s_p0) w fun t_100 w =>
  pvv prog (Instr.fieldAt 69 t_100 0) w fun t_101 w =>
  efu prog (Instr.storeAt 3 t_101 t_99) w fun u_102 w =>
  pv prog (oNil s_p0) w fun t_103 w =>
  pvv prog (Instr.fieldAt 69 t_103 2) w fun t_104 w =>
  efu prog (Instr.storeAt 3 t_104 now_p4) w fun u_105 w =>
  pv prog (oNil s_p0) w fun t_106 w =>
  pvv prog (Instr.fieldAt 69 t_106 3) w fun t_107 w =>
  ldv prog (Instr.loadAt 43 t_107) w fun t_108 w =>
  ef prog (oBi .append #[43, 43] 43 #[false, false] #[(.slice none 0 0), t_108]) w fun t_109 w =>
  ldv prog (Instr.loadAt 35 f_2) w fun t_110 w =>
  efv prog (Instr.buildSlice 43 1 #[(0, t_110)]) w fun t_111 w =>
  ef prog (oBi .append #[43, 43] 43 #[false, false] #[t_109, t_111]) w fun t_112 w =>
  pv prog (oNil s_p0) w fun t_113 w =>
  pvv prog (Instr.fieldAt 69 t_113 3) w fun t_114 w =>
  efu prog (Instr.storeAt 43 t_114 t_112) w fun u_115 w =>
  dr w fun w =>
  pvv prog (Instr.fieldAt 35 f_2 0) w fun t_116 w =>
  pvv prog (binOp .add 3 now_p4 (.int .i64 50)) w fun t_117 w =>
  bindS (vN (Instr.loadAt 35 f_2)) fun m_119 => ldv prog (Instr.loadAt 35 f_2) w fun t_118 w =>
  bindS (vN (Instr.loadAt 3 t_116)) fun m_121 => ldv prog (Instr.loadAt 3 t_116) w fun t_120 w =>
  Calls prog 58 #[s_p0, t_120, scopes_p3, t_117] w (Ret fun t_122 w => stay prog none m_119 t_118 w <| 
  efu prog (Instr.storeAt 35 t_0 t_118) w fun u_123 w => stay prog none m_121 t_120 w <| 
  efu prog (Instr.storeAt 49 t_1 t_122) w fun u_124 w =>
  ∃ r_125, (do loadVar 35 (← asAddr t_0)).run prog w = .ok r_125 w ∧ ∃ r_126, (do loadVar 49 (← asAddr t_1)).run prog w = .ok r_126 w ∧ K (.tuple #[r_125, r_126, (.int .i64 0)]) w)))
theorem B23_eq (s_p0 session_p1 client_p2 scopes_p3 now_p4 : Value) (w : World) (K : Value → World → Prop) : denFn prog Tryz.f23 T23 [s_p0, session_p1, client_p2, scopes_p3, now_p4] w K = B23 s_p0 session_p1 client_p2 scopes_p3 now_p4 w K := by kernel_rfl
theorem c23 {s_p0 session_p1 client_p2 scopes_p3 now_p4 : Value} {w : World} {K : Value → World → Prop} (h : B23 s_p0 session_p1 client_p2 scopes_p3 now_p4 w K) : Calls prog 23 #[s_p0, session_p1, client_p2, scopes_p3, now_p4] w (Ret K) :=
  denFn_calls Tryz.func23 T23_ok (Eq.mpr (B23_eq s_p0 session_p1 client_p2 scopes_p3 now_p4 w K) h)

-- 5 holdfast/holdfastlaw12.TokenNone
def T5 : Ann := (.seq .none (.seq .none (.seq .none (.seq .none (.seq .none (.seq .none (.seq .none (.seq .none (.seq .none .none)))))))))
theorem T5_ok : chkFn prog Tryz.f5 T5 = true := by kernel_rfl
def B5 (n_p0 c_p1 : Value) (w : World) (K : Value → World → Prop) : Prop :=
  Calls prog 17 #[(.pointer none), n_p0, c_p1, (.int .u8 1), n_p0] w (Ret fun t_0 w =>
  pvv prog (Instr.extract t_0 0) w fun t_1 w =>
  pvv prog (Instr.extract t_0 1) w fun t_2 w =>
  pvv prog (Instr.extract t_0 2) w fun t_3 w =>
  efv prog (Instr.alloc 35 true (.tuple #[])) w fun t_4 w =>
  efv prog (Instr.alloc 49 true (.tuple #[])) w fun t_5 w =>
  efu prog (Instr.storeAt 35 t_4 t_1) w fun u_6 w =>
  efu prog (Instr.storeAt 49 t_5 t_2) w fun u_7 w =>
  Calls prog 18 #[(.pointer none), n_p0, n_p0, n_p0] w (Ret fun t_8 w =>
  pvv prog (Instr.extract t_8 0) w fun t_9 w =>
  pvv prog (Instr.extract t_8 1) w fun t_10 w =>
  pvv prog (Instr.extract t_8 2) w fun t_11 w =>
  efv prog (Instr.alloc 35 true (.tuple #[])) w fun t_12 w =>
  efv prog (Instr.alloc 49 true (.tuple #[])) w fun t_13 w =>
  efu prog (Instr.storeAt 35 t_12 t_9) w fun u_14 w =>
  efu prog (Instr.storeAt 49 t_13 t_10) w fun u_15 w =>
  Calls prog 19 #[(.pointer none), n_p0, n_p0] w (Ret fun t_16 w =>
  pvv prog (Instr.extract t_16 0) w fun t_17 w =>
  pvv prog (Instr.extract t_16 1) w fun t_18 w =>
  efv prog (Instr.alloc 49 true (.tuple #[])) w fun t_19 w =>
  efu prog (Instr.storeAt 49 t_19 t_17) w fun u_20 w =>
  Calls prog 20 #[(.pointer none), n_p0, (.int .u8 1), n_p0] w (Ret fun t_21 w =>
  pvv prog (Instr.extract t_21 0) w fun t_22 w =>
  pvv prog (Instr.extract t_21 1) w fun t_23 w =>
  efv prog (Instr.alloc 49 true (.tuple #[])) w fun t_24 w =>
  efu prog (Instr.storeAt 49 t_24 t_22) w fun u_25 w =>
  Calls prog 21 #[(.pointer none), n_p0] w (Ret fun t_26 w =>
  pvv prog (Instr.extract t_26 0) w fun t_27 w =>
  pvv prog (Instr.extract t_26 1) w fun t_28 w =>
  Calls prog 12 #[(.pointer none), n_p0] w (Ret fun t_29 w =>
  pvv prog (Instr.extract t_29 0) w fun t_30 w =>
  pvv prog (Instr.extract t_29 1) w fun t_31 w =>
  efv prog (Instr.alloc 35 true (.tuple #[])) w fun t_32 w =>
  efu prog (Instr.storeAt 35 t_32 t_30) w fun u_33 w =>
  Calls prog 8 #[] w (Ret fun t_34 w =>
  gate (some (t_34, true)) (fun K => K t_3 w) w fun t_35 w =>
  gate (some (t_34, true)) (fun K => pvv prog (oEq .eql 36 (.tmp 66) (.const (.int .i64 1)) t_35 (.int .i64 1)) w K) w fun t_36 w =>
  pv prog (oPick t_34 t_36 (.bool false)) w fun t_37 w =>
  gate (some (t_37, true)) (fun K => K t_11 w) w fun t_38 w =>
  gate (some (t_37, true)) (fun K => pvv prog (oEq .eql 36 (.tmp 70) (.const (.int .i64 1)) t_38 (.int .i64 1)) w K) w fun t_39 w =>
  pv prog (oPick t_37 t_39 (.bool false)) w fun t_40 w =>
  gate (some (t_40, true)) (fun K => K t_18 w) w fun t_41 w =>
  gate (some (t_40, true)) (fun K => pvv prog (oEq .eql 36 (.tmp 74) (.const (.int .i64 1)) t_41 (.int .i64 1)) w K) w fun t_42 w =>
  pv prog (oPick t_40 t_42 (.bool false)) w fun t_43 w =>
  gate (some (t_43, true)) (fun K => K t_23 w) w fun t_44 w =>
  gate (some (t_43, true)) (fun K => pvv prog (oEq .eql 36 (.tmp 78) (.const (.int .i64 1)) t_44 (.int .i64 1)) w K) w fun t_45 w =>
  pv prog (oPick t_43 t_45 (.bool false)) w fun t_46 w =>
  gate (some (t_46, true)) (fun K => K t_28 w) w fun t_47 w =>
  gate (some (t_46, true)) (fun K => pvv prog (oEq .eql 36 (.tmp 82) (.const (.int .i64 1)) t_47 (.int .i64 1)) w K) w fun t_48 w =>
  pv prog (oPick t_46 t_48 (.bool false)) w fun t_49 w =>
  gate (some (t_49, true)) (fun K => K t_31 w) w fun t_50 w =>
  gate (some (t_49, true)) (fun K => pvv prog (oEq .eql 36 (.tmp 86) (.const (.int .i64 1)) t_50 (.int .i64 1)) w K) w fun t_51 w =>
  pv prog (oPick t_49 t_51 (.bool false)) w fun t_52 w =>
  gate (some (t_52, true)) (fun K => K (.pointer none) w) w fun t_53 w =>
  gate (some (t_52, true)) (fun K => K n_p0 w) w fun t_54 w =>
  gate (some (t_52, true)) (fun K => Calls prog 22 #[t_53, t_54] w (Ret K)) w fun t_55 w =>
  gate (some (t_52, true)) (fun K => pvv prog (oEq .eql 36 (.tmp 92) (.const (.int .i64 1)) t_55 (.int .i64 1)) w K) w fun t_56 w =>
  pv prog (oPick t_52 t_56 (.bool false)) w fun t_57 w =>
  gate (some (t_57, true)) (fun K => K (.pointer none) w) w fun t_58 w =>
  gate (some (t_57, true)) (fun K => K n_p0 w) w fun t_59 w =>
  gate (some (t_57, true)) (fun K => efv prog (Instr.buildSlice 23 1 #[(0, t_59)]) w K) w fun t_60 w =>
  gate (some (t_57, true)) (fun K => Calls prog 13 #[t_58, t_60] w (Ret K)) w fun t_61 w =>
  gate (some (t_57, true)) (fun K => pv prog (oBi .len #[23] 3 #[false] #[t_61]) w K) w fun t_62 w =>
  gate (some (t_57, true)) (fun K => pvv prog (oEq .eql 3 (.tmp 100) (.const (.int .i64 0)) t_62 (.int .i64 0)) w K) w fun t_63 w =>
  pv prog (oPick t_57 t_63 (.bool false)) w fun t_64 w =>
  gate (some (t_64, true)) (fun K => K (.pointer none) w) w fun t_65 w =>
  gate (some (t_64, true)) (fun K => K c_p1 w) w fun t_66 w =>
  gate (some (t_64, true)) (fun K => K n_p0 w) w fun t_67 w =>
  gate (some (t_64, true)) (fun K => efv prog (Instr.buildSlice 23 1 #[(0, t_67)]) w K) w fun t_68 w =>
  gate (some (t_64, true)) (fun K => Calls prog 11 #[t_65, t_66, t_68] w (Ret K)) w fun t_69 w =>
  gate (some (t_64, true)) (fun K => pv prog (oBi .len #[23] 3 #[false] #[t_69]) w K) w fun t_70 w =>
  gate (some (t_64, true)) (fun K => pvv prog (oEq .eql 3 (.tmp 109) (.const (.int .i64 0)) t_70 (.int .i64 0)) w K) w fun t_71 w =>
  pv prog (oPick t_64 t_71 (.bool false)) w fun t_72 w =>
  gate (some (t_72, true)) (fun K => K (.pointer none) w) w fun t_73 w =>
  gate (some (t_72, true)) (fun K => K n_p0 w) w fun t_74 w =>
  gate (some (t_72, true)) (fun K => Calls prog 15 #[t_73, t_74] w (Ret K)) w fun t_75 w =>
  gate (some (t_72, true)) (fun K => pv prog (oBi .len #[43] 3 #[false] #[t_75]) w K) w fun t_76 w =>
  gate (some (t_72, true)) (fun K => pvv prog (oEq .eql 3 (.tmp 116) (.const (.int .i64 0)) t_76 (.int .i64 0)) w K) w fun t_77 w =>
  pv prog (oPick t_72 t_77 (.bool false)) w fun t_78 w =>
  gate (some (t_78, true)) (fun K => K (.pointer none) w) w fun t_79 w =>
  gate (some (t_78, true)) (fun K => K n_p0 w) w fun t_80 w =>
  gate (some (t_78, true)) (fun K => Calls prog 14 #[t_79, t_80] w (Ret K)) w fun t_81 w =>
  gate (some (t_78, true)) (fun K => pv prog (oBi .len #[41] 3 #[false] #[t_81]) w K) w fun t_82 w =>
  gate (some (t_78, true)) (fun K => pvv prog (oEq .eql 3 (.tmp 123) (.const (.int .i64 0)) t_82 (.int .i64 0)) w K) w fun t_83 w =>
  pv prog (oPick t_78 t_83 (.bool false)) w fun t_84 w =>
  gate (some (t_84, true)) (fun K => K (.pointer none) w) w fun t_85 w =>
  gate (some (t_84, true)) (fun K => Calls prog 16 #[t_85] w (Ret K)) w fun t_86 w =>
  gate (some (t_84, true)) (fun K => pv prog (oBi .len #[45] 3 #[false] #[t_86]) w K) w fun t_87 w =>
  gate (some (t_84, true)) (fun K => pvv prog (oEq .eql 3 (.tmp 129) (.const (.int .i64 0)) t_87 (.int .i64 0)) w K) w fun t_88 w =>
  pv prog (oPick t_84 t_88 (.bool false)) w fun t_89 w =>
  gate (some (t_89, true)) (fun K => K (.pointer none) w) w fun t_90 w =>
  gate (some (t_89, true)) (fun K => Calls prog 10 #[t_90] w (Ret K)) w fun t_91 w =>
  gate (some (t_89, true)) (fun K => pvv prog (oEq .eql 24 (.tmp 134) (.const (.pointer none)) t_91 (.pointer none)) w K) w fun t_92 w =>
  pv prog (oPick t_89 t_92 (.bool false)) w fun t_93 w =>
  K t_93 w)))))))
theorem B5_eq (n_p0 c_p1 : Value) (w : World) (K : Value → World → Prop) : denFn prog Tryz.f5 T5 [n_p0, c_p1] w K = B5 n_p0 c_p1 w K := by kernel_rfl
theorem c5 {n_p0 c_p1 : Value} {w : World} {K : Value → World → Prop} (h : B5 n_p0 c_p1 w K) : Calls prog 5 #[n_p0, c_p1] w (Ret K) :=
  denFn_calls Tryz.func5 T5_ok (Eq.mpr (B5_eq n_p0 c_p1 w K) h)

-- 4 holdfast/holdfastlaw12.TokenEnds
def T4 : Ann := (.seq .none (.seq .none (.seq (.seq .none (.seq (.seq .none .none) .none)) (.seq (.seq .none (.block (.loop 549751619712 [7] (.seq (.seq .none (.seq .none .none)) (.seq (.block .none) .none))))) (.seq .none (.seq .none (.seq (.seq .none (.block (.loop 20282409603651670406355065371664 [10] (.seq (.seq .none (.seq .none .none)) (.seq (.block (.seq .none (.seq .none (.seq .none (.seq (.seq .none (.block (.loop 19342517965928887442571264 [15, 16] (.seq (.seq .none (.seq .none .none)) (.seq (.block (.draw [.op 0 .pure, .op 1 .pure, .op 2 .pure, .op 3 .pure, .op 4 .pure, .op 6 .pure, .op 5 .load, .op 7 .load, .op 8 .pure, .op 9 .pure, .op 10 .pure])) .none))))) (.seq .none (.seq (.seq .none .none) .none))))))) .none))))) (.seq (.seq .none (.block (.loop 5316891700730059839944804293870223376 [17] (.seq (.seq .none (.seq .none .none)) (.seq (.block (.seq .none (.seq (.seq .none .none) .none))) .none))))) (.seq .none .none)))))))))
theorem T4_ok : chkFn prog Tryz.f4 T4 = true := by kernel_rfl
def B4 (l_p0 sessions_p1 : Value) (w : World) (K : Value → World → Prop) : Prop :=
  Calls prog 6 #[] w (Ret fun t_0 w =>
  Calls prog 7 #[] w (Ret fun t_1 w =>
  Calls prog 8 #[] w (Ret fun t_2 w =>
  pvv prog (Op.unary .not t_2) w fun t_3 w =>
  cd t_3 (
    K (.bool false) w) <|
  lp (fun σ w again_5 => pop σ fun i_4 σ => fin σ <|
    pv prog (oBi .len #[22] 3 #[false] #[l_p0]) w fun t_6 w =>
    pvv prog (binOp .lss 3 i_4 t_6) w fun t_7 w =>
    gate (some (t_7, true)) (fun K => K i_4 w) w fun t_8 w =>
    gate (some (t_7, true)) (fun K => pvv prog (binOp .lss 3 t_8 (.int .i64 60)) w K) w fun t_9 w =>
    pv prog (oPick t_7 t_9 (.bool false)) w fun t_10 w =>
    cd t_10 (
      pvv prog (Instr.indexAt 22 l_p0 i_4) w fun t_11 w =>
      ldv prog (Instr.loadAt 32 t_11) w fun t_12 w =>
      Calls prog 9 #[t_0, t_1, t_12] w (Ret fun t_13 w =>
      pvv prog (binOp .add 3 i_4 (.int .i64 1)) w fun t_14 w =>
      again_5 [t_14] w)) <|
    Calls prog 10 #[t_0] w (Ret fun t_15 w =>
    Calls prog 13 #[t_0, sessions_p1] w (Ret fun t_16 w =>
    lp (fun σ w again_18 => pop σ fun i_17 σ => fin σ <|
      pv prog (oBi .len #[23] 3 #[false] #[t_16]) w fun t_19 w =>
      pvv prog (binOp .lss 3 i_17 t_19) w fun t_20 w =>
      cd t_20 (
        pvv prog (Instr.indexAt 23 t_16 i_17) w fun t_21 w =>
        ldv prog (Instr.loadAt 3 t_21) w fun t_22 w =>
        Calls prog 12 #[t_15, t_22] w (Ret fun t_23 w =>
        pvv prog (Instr.extract t_23 0) w fun t_24 w =>
        pvv prog (Instr.extract t_23 1) w fun t_25 w =>
        efv prog (Instr.alloc 35 true (.tuple #[])) w fun f_26 w =>
        efu prog (Instr.storeAt 35 f_26 t_24) w fun u_27 w =>
        pvv prog (Instr.indexAt 23 t_16 i_17) w fun t_28 w =>
        ldv prog (Instr.loadAt 3 t_28) w fun t_29 w =>
        Calls prog 12 #[t_0, t_29] w (Ret fun t_30 w =>
        pvv prog (Instr.extract t_30 0) w fun t_31 w =>
        pvv prog (Instr.extract t_30 1) w fun t_32 w =>
        efv prog (Instr.alloc 35 true (.tuple #[])) w fun t_33 w =>
        efu prog (Instr.storeAt 35 t_33 t_31) w fun u_34 w =>
        lp (fun σ w again_37 => pop σ fun in_35 σ => pop σ fun k_36 σ => fin σ <|
          pv prog (oBi .len #[23] 3 #[false] #[sessions_p1]) w fun t_38 w =>
          pvv prog (binOp .lss 3 k_36 t_38) w fun t_39 w =>
          cd t_39 (
            dr w fun w =>
            gate (some (in_35, false)) (fun K => K sessions_p1 w) w fun t_40 w =>
            gate (some (in_35, false)) (fun K => K k_36 w) w fun t_41 w =>
            gate (some (in_35, false)) (fun K => pvv prog (Instr.indexAt 23 t_40 t_41) w K) w fun t_42 w =>
            gate (some (in_35, false)) (fun K => pvv prog (Instr.fieldAt 35 f_26 1) w K) w fun t_43 w =>
            bindS (vN (Instr.loadAt 3 t_42)) fun m_45 => gate (some (in_35, false)) (fun K => ldv prog (Instr.loadAt 3 t_42) w K) w fun t_44 w =>
            bindS (vN (Instr.loadAt 3 t_43)) fun m_47 => gate (some (in_35, false)) (fun K => ldv prog (Instr.loadAt 3 t_43) w K) w fun t_46 w =>
            gate (some (in_35, false)) (fun K => pvv prog (oEq .eql 3 (.tmp 79) (.tmp 81) t_44 t_46) w K) w fun t_48 w =>
            pv prog (oPick in_35 (.bool true) t_48) w fun t_49 w =>
            pvv prog (binOp .add 3 k_36 (.int .i64 1)) w fun t_50 w =>
            again_37 [t_49, t_50] w) <|
          pvv prog (oEq .neq 36 (.tmp 84) (.const (.int .i64 0)) t_25 (.int .i64 0)) w fun t_51 w =>
          gate (some (t_51, false)) (fun K => K t_32 w) w fun t_52 w =>
          gate (some (t_51, false)) (fun K => pvv prog (oEq .neq 36 (.tmp 87) (.const (.int .i64 12)) t_52 (.int .i64 12)) w K) w fun t_53 w =>
          pv prog (oPick t_51 (.bool true) t_53) w fun t_54 w =>
          gate (some (t_54, false)) (fun K => K in_35 w) w fun t_55 w =>
          gate (some (t_54, false)) (fun K => pvv prog (Op.unary .not t_55) w K) w fun t_56 w =>
          pv prog (oPick t_54 (.bool true) t_56) w fun t_57 w =>
          gate (some (t_57, false)) (fun K => K t_0 w) w fun t_58 w =>
          gate (some (t_57, false)) (fun K => K t_16 w) w fun t_59 w =>
          gate (some (t_57, false)) (fun K => K i_17 w) w fun t_60 w =>
          gate (some (t_57, false)) (fun K => pvv prog (Instr.indexAt 23 t_59 t_60) w K) w fun t_61 w =>
          gate (some (t_57, false)) (fun K => ldv prog (Instr.loadAt 3 t_61) w K) w fun t_62 w =>
          gate (some (t_57, false)) (fun K => Calls prog 14 #[t_58, t_62] w (Ret K)) w fun t_63 w =>
          gate (some (t_57, false)) (fun K => pv prog (oBi .len #[41] 3 #[false] #[t_63]) w K) w fun t_64 w =>
          gate (some (t_57, false)) (fun K => pvv prog (oEq .neq 3 (.tmp 101) (.const (.int .i64 0)) t_64 (.int .i64 0)) w K) w fun t_65 w =>
          pv prog (oPick t_57 (.bool true) t_65) w fun t_66 w =>
          cd t_66 (
            K (.bool false) w) <|
          pvv prog (binOp .add 3 i_17 (.int .i64 1)) w fun t_67 w =>
          again_18 [t_67] w) [(.bool false), (.int .i64 0)] w))) <|
      lp (fun σ w again_69 => pop σ fun k_68 σ => fin σ <|
        pv prog (oBi .len #[23] 3 #[false] #[sessions_p1]) w fun t_70 w =>
        pvv prog (binOp .lss 3 k_68 t_70) w fun t_71 w =>
        gate (some (t_71, true)) (fun K => K k_68 w) w fun t_72 w =>
        gate (some (t_71, true)) (fun K => pvv prog (binOp .lss 3 t_72 (.int .i64 20)) w K) w fun t_73 w =>
        pv prog (oPick t_71 t_73 (.bool false)) w fun t_74 w =>
        cd t_74 (
          pvv prog (Instr.indexAt 23 sessions_p1 k_68) w fun t_75 w =>
          ldv prog (Instr.loadAt 3 t_75) w fun t_76 w =>
          Calls prog 15 #[t_0, t_76] w (Ret fun t_77 w =>
          pv prog (oBi .len #[43] 3 #[false] #[t_77]) w fun t_78 w =>
          pvv prog (oEq .neq 3 (.tmp 120) (.const (.int .i64 0)) t_78 (.int .i64 0)) w fun t_79 w =>
          cd t_79 (
            K (.bool false) w) <|
          pvv prog (binOp .add 3 k_68 (.int .i64 1)) w fun t_80 w =>
          again_69 [t_80] w)) <|
        Calls prog 16 #[t_0] w (Ret fun t_81 w =>
        pv prog (oBi .len #[45] 3 #[false] #[t_81]) w fun t_82 w =>
        Calls prog 16 #[t_15] w (Ret fun t_83 w =>
        pv prog (oBi .len #[45] 3 #[false] #[t_83]) w fun t_84 w =>
        pvv prog (binOp .leq 3 t_82 t_84) w fun t_85 w =>
        K t_85 w))) [(.int .i64 0)] w) [(.int .i64 0)] w))) [(.int .i64 0)] w)))
theorem B4_eq (l_p0 sessions_p1 : Value) (w : World) (K : Value → World → Prop) : denFn prog Tryz.f4 T4 [l_p0, sessions_p1] w K = B4 l_p0 sessions_p1 w K := by kernel_rfl
theorem c4 {l_p0 sessions_p1 : Value} {w : World} {K : Value → World → Prop} (h : B4 l_p0 sessions_p1 w K) : Calls prog 4 #[l_p0, sessions_p1] w (Ret K) :=
  denFn_calls Tryz.func4 T4_ok (Eq.mpr (B4_eq l_p0 sessions_p1 w K) h)

-- 126 unicode/utf8.decodeRuneInStringSlow
def T126 : Ann := (.seq .none (.seq .none (.seq (.seq .none (.seq (.seq .none .none) .none)) (.seq .none (.seq .none (.seq (.seq .none (.seq (.seq .none (.seq .none .none)) .none)) (.seq .none (.seq .none (.seq (.seq .none (.seq (.seq .none .none) .none)) (.seq .none (.seq (.seq .none (.seq (.seq .none .none) .none)) (.seq (.seq .none (.seq (.seq .none .none) .none)) (.seq .none (.seq (.seq .none (.seq (.seq .none .none) .none)) (.seq (.seq .none (.seq (.seq .none .none) .none)) (.seq .none (.seq (.seq .none (.seq (.seq .none .none) .none)) (.seq .none .none))))))))))))))))))
theorem T126_ok : chkFn prog Tryz.f126 T126 = true := by kernel_rfl
def B126 (s_p0 : Value) (w : World) (K : Value → World → Prop) : Prop :=
  pv prog (oBi .len #[9] 3 #[false] #[s_p0]) w fun t_0 w =>
  pvv prog (binOp .lss 3 t_0 (.int .i64 1)) w fun t_1 w =>
  cd t_1 (
    K (.tuple #[(.int .i32 65533), (.int .i64 0)]) w) <|
  pvv prog (Instr.index 9 s_p0 (.int .i64 0)) w fun t_2 w =>
  pvv prog (Instr.indexAt 165 (.pointer (some ⟨1, 0, none⟩)) t_2) w fun t_3 w =>
  ldv prog (Instr.loadAt 5 t_3) w fun t_4 w =>
  pvv prog (binOp .geq 5 t_4 (.int .u8 240)) w fun t_5 w =>
  cd t_5 (
    pvv prog (convert 5 21 t_4) w fun t_6 w =>
    pvv prog (binOp .shl 21 t_6 (.int .u64 31)) w fun t_7 w =>
    pvv prog (binOp .shr 21 t_7 (.int .u64 31)) w fun t_8 w =>
    pvv prog (Instr.index 9 s_p0 (.int .i64 0)) w fun t_9 w =>
    pvv prog (convert 5 21 t_9) w fun t_10 w =>
    pvv prog (binOp .andNot 21 t_10 t_8) w fun t_11 w =>
    pvv prog (binOp .and 21 (.int .i32 65533) t_8) w fun t_12 w =>
    pvv prog (binOp .or 21 t_11 t_12) w fun t_13 w =>
    K (.tuple #[t_13, (.int .i64 1)]) w) <|
  pvv prog (binOp .and 5 t_4 (.int .u8 7)) w fun t_14 w =>
  pvv prog (convert 5 3 t_14) w fun t_15 w =>
  pvv prog (binOp .shr 5 t_4 (.int .u64 4)) w fun t_16 w =>
  pvv prog (Instr.indexAt 168 (.pointer (some ⟨2, 0, none⟩)) t_16) w fun t_17 w =>
  ldv prog (Instr.loadAt 167 t_17) w fun t_18 w =>
  efv prog (Instr.alloc 167 true (.tuple #[])) w fun accept_19 w =>
  efu prog (Instr.storeAt 167 accept_19 t_18) w fun u_20 w =>
  pvv prog (binOp .lss 3 t_0 t_15) w fun t_21 w =>
  cd t_21 (
    K (.tuple #[(.int .i32 65533), (.int .i64 1)]) w) <|
  pvv prog (Instr.index 9 s_p0 (.int .i64 1)) w fun t_22 w =>
  pvv prog (Instr.fieldAt 167 accept_19 0) w fun t_23 w =>
  ldv prog (Instr.loadAt 5 t_23) w fun t_24 w =>
  pvv prog (binOp .lss 5 t_22 t_24) w fun t_25 w =>
  gate (some (t_25, false)) (fun K => pvv prog (Instr.fieldAt 167 accept_19 1) w K) w fun t_26 w =>
  gate (some (t_25, false)) (fun K => ldv prog (Instr.loadAt 5 t_26) w K) w fun t_27 w =>
  gate (some (t_25, false)) (fun K => K t_22 w) w fun t_28 w =>
  gate (some (t_25, false)) (fun K => pvv prog (binOp .lss 5 t_27 t_28) w K) w fun t_29 w =>
  pv prog (oPick t_25 (.bool true) t_29) w fun t_30 w =>
  cd t_30 (
    K (.tuple #[(.int .i32 65533), (.int .i64 1)]) w) <|
  pvv prog (binOp .leq 3 t_15 (.int .i64 2)) w fun t_31 w =>
  cd t_31 (
    pvv prog (binOp .and 5 t_2 (.int .u8 31)) w fun t_32 w =>
    pvv prog (convert 5 21 t_32) w fun t_33 w =>
    pvv prog (binOp .shl 21 t_33 (.int .u64 6)) w fun t_34 w =>
    pvv prog (binOp .and 5 t_22 (.int .u8 63)) w fun t_35 w =>
    pvv prog (convert 5 21 t_35) w fun t_36 w =>
    pvv prog (binOp .or 21 t_34 t_36) w fun t_37 w =>
    K (.tuple #[t_37, (.int .i64 2)]) w) <|
  pvv prog (Instr.index 9 s_p0 (.int .i64 2)) w fun t_38 w =>
  pvv prog (binOp .lss 5 t_38 (.int .u8 128)) w fun t_39 w =>
  gate (some (t_39, false)) (fun K => K t_38 w) w fun t_40 w =>
  gate (some (t_39, false)) (fun K => pvv prog (binOp .lss 5 (.int .u8 191) t_40) w K) w fun t_41 w =>
  pv prog (oPick t_39 (.bool true) t_41) w fun t_42 w =>
  cd t_42 (
    K (.tuple #[(.int .i32 65533), (.int .i64 1)]) w) <|
  pvv prog (binOp .leq 3 t_15 (.int .i64 3)) w fun t_43 w =>
  cd t_43 (
    pvv prog (binOp .and 5 t_2 (.int .u8 15)) w fun t_44 w =>
    pvv prog (convert 5 21 t_44) w fun t_45 w =>
    pvv prog (binOp .shl 21 t_45 (.int .u64 12)) w fun t_46 w =>
    pvv prog (binOp .and 5 t_22 (.int .u8 63)) w fun t_47 w =>
    pvv prog (convert 5 21 t_47) w fun t_48 w =>
    pvv prog (binOp .shl 21 t_48 (.int .u64 6)) w fun t_49 w =>
    pvv prog (binOp .or 21 t_46 t_49) w fun t_50 w =>
    pvv prog (binOp .and 5 t_38 (.int .u8 63)) w fun t_51 w =>
    pvv prog (convert 5 21 t_51) w fun t_52 w =>
    pvv prog (binOp .or 21 t_50 t_52) w fun t_53 w =>
    K (.tuple #[t_53, (.int .i64 3)]) w) <|
  pvv prog (Instr.index 9 s_p0 (.int .i64 3)) w fun t_54 w =>
  pvv prog (binOp .lss 5 t_54 (.int .u8 128)) w fun t_55 w =>
  gate (some (t_55, false)) (fun K => K t_54 w) w fun t_56 w =>
  gate (some (t_55, false)) (fun K => pvv prog (binOp .lss 5 (.int .u8 191) t_56) w K) w fun t_57 w =>
  pv prog (oPick t_55 (.bool true) t_57) w fun t_58 w =>
  cd t_58 (
    K (.tuple #[(.int .i32 65533), (.int .i64 1)]) w) <|
  pvv prog (binOp .and 5 t_2 (.int .u8 7)) w fun t_59 w =>
  pvv prog (convert 5 21 t_59) w fun t_60 w =>
  pvv prog (binOp .shl 21 t_60 (.int .u64 18)) w fun t_61 w =>
  pvv prog (binOp .and 5 t_22 (.int .u8 63)) w fun t_62 w =>
  pvv prog (convert 5 21 t_62) w fun t_63 w =>
  pvv prog (binOp .shl 21 t_63 (.int .u64 12)) w fun t_64 w =>
  pvv prog (binOp .or 21 t_61 t_64) w fun t_65 w =>
  pvv prog (binOp .and 5 t_38 (.int .u8 63)) w fun t_66 w =>
  pvv prog (convert 5 21 t_66) w fun t_67 w =>
  pvv prog (binOp .shl 21 t_67 (.int .u64 6)) w fun t_68 w =>
  pvv prog (binOp .or 21 t_65 t_68) w fun t_69 w =>
  pvv prog (binOp .and 5 t_54 (.int .u8 63)) w fun t_70 w =>
  pvv prog (convert 5 21 t_70) w fun t_71 w =>
  pvv prog (binOp .or 21 t_69 t_71) w fun t_72 w =>
  K (.tuple #[t_72, (.int .i64 4)]) w
theorem B126_eq (s_p0 : Value) (w : World) (K : Value → World → Prop) : denFn prog Tryz.f126 T126 [s_p0] w K = B126 s_p0 w K := by kernel_rfl
theorem c126 {s_p0 : Value} {w : World} {K : Value → World → Prop} (h : B126 s_p0 w K) : Calls prog 126 #[s_p0] w (Ret K) :=
  denFn_calls Tryz.func126 T126_ok (Eq.mpr (B126_eq s_p0 w K) h)

-- 62 (*holdfast/holdfastref12.Store).ends
def T62 : Ann := (.seq .none (.seq (.seq .none (.seq (.seq .none .none) .none)) (.seq .none (.seq .none (.seq (.seq .none (.block (.loop 144115188075790976 [7, 9] (.seq (.seq .none (.seq .none .none)) (.meet 144115188071661696 [7] (.block (.seq .none (.seq (.seq .none .none) .none))) .none))))) (.seq .none .none))))))
theorem T62_ok : chkFn prog Tryz.f62 T62 = true := by kernel_rfl
def B62 (s_p0 client_p1 sessions_p2 : Value) (w : World) (K : Value → World → Prop) : Prop :=
  pvv prog (oEq .eql 26 (.tmp 10) (.const (.pointer none)) s_p0 (.pointer none)) w fun t_0 w =>
  cd t_0 (
    K (.slice none 0 0) w) <|
  pv prog (oNil s_p0) w fun t_1 w =>
  pvv prog (Instr.fieldAt 69 t_1 3) w fun t_2 w =>
  ldv prog (Instr.loadAt 43 t_2) w fun t_3 w =>
  lp (fun σ w again_6 => pop σ fun out_4 σ => pop σ fun i_5 σ => fin σ <|
    pv prog (oBi .len #[43] 3 #[false] #[t_3]) w fun t_7 w =>
    pvv prog (binOp .lss 3 i_5 t_7) w fun t_8 w =>
    cd t_8 (
      jn (fun σ w => pop σ fun out_9 σ => fin σ <|
        pvv prog (binOp .add 3 i_5 (.int .i64 1)) w fun t_10 w =>
        again_6 [out_9, t_10] w) fun k_11 =>
      pvv prog (Instr.indexAt 43 t_3 i_5) w fun t_12 w =>
      pvv prog (Instr.fieldAt 35 t_12 1) w fun t_13 w =>
      ldv prog (Instr.loadAt 3 t_13) w fun t_14 w =>
      Calls prog 74 #[sessions_p2, t_14] w (Ret fun t_15 w =>
      gate (some (t_15, true)) (fun K => K client_p1 w) w fun t_16 w =>
      gate (some (t_15, true)) (fun K => pvv prog (oEq .eql 9 (.tmp 30) (.const (.string ⟨#[]⟩)) t_16 (.string ⟨#[]⟩)) w K) w fun t_17 w =>
      gate (some (t_15, true)) (fun K => K t_17 w) w fun t_18 w =>
      gate (some (t_18, false)) (fun K => K t_3 w) w fun t_19 w =>
      gate (some (t_18, false)) (fun K => K i_5 w) w fun t_20 w =>
      gate (some (t_18, false)) (fun K => pvv prog (Instr.indexAt 43 t_19 t_20) w K) w fun t_21 w =>
      gate (some (t_18, false)) (fun K => pvv prog (Instr.fieldAt 35 t_21 2) w K) w fun t_22 w =>
      gate (some (t_18, false)) (fun K => ldv prog (Instr.loadAt 9 t_22) w K) w fun t_23 w =>
      gate (some (t_18, false)) (fun K => K client_p1 w) w fun t_24 w =>
      gate (some (t_18, false)) (fun K => pvv prog (oEq .eql 9 (.tmp 37) (.tmp 38) t_23 t_24) w K) w fun t_25 w =>
      gate (some (t_15, true)) (fun K => pv prog (oPick t_18 (.bool true) t_25) w K) w fun t_26 w =>
      pv prog (oPick t_15 t_26 (.bool false)) w fun t_27 w =>
      cd t_27 (
        pvv prog (Instr.indexAt 43 t_3 i_5) w fun t_28 w =>
        pvv prog (Instr.fieldAt 35 t_28 0) w fun t_29 w =>
        ldv prog (Instr.loadAt 3 t_29) w fun t_30 w =>
        efv prog (Instr.buildSlice 23 1 #[(0, t_30)]) w fun t_31 w =>
        ef prog (oBi .append #[23, 23] 23 #[false, false] #[out_4, t_31]) w fun t_32 w =>
        pvv prog (Instr.indexAt 43 t_3 i_5) w fun t_33 w =>
        pvv prog (Instr.fieldAt 35 t_33 0) w fun t_34 w =>
        ldv prog (Instr.loadAt 3 t_34) w fun t_35 w =>
        Calls prog 61 #[s_p0, t_35] w (Ret fun t_36 w =>
        k_11 [t_32] w)) <|
      k_11 [out_4] w)) <|
    K out_4 w) [(.slice none 0 0), (.int .i64 0)] w
theorem B62_eq (s_p0 client_p1 sessions_p2 : Value) (w : World) (K : Value → World → Prop) : denFn prog Tryz.f62 T62 [s_p0, client_p1, sessions_p2] w K = B62 s_p0 client_p1 sessions_p2 w K := by kernel_rfl
theorem c62 {s_p0 client_p1 sessions_p2 : Value} {w : World} {K : Value → World → Prop} (h : B62 s_p0 client_p1 sessions_p2 w K) : Calls prog 62 #[s_p0, client_p1, sessions_p2] w (Ret K) :=
  denFn_calls Tryz.func62 T62_ok (Eq.mpr (B62_eq s_p0 client_p1 sessions_p2 w K) h)

-- 31 (*holdfast/holdfastref12.Store).Sweep
def T31 : Ann := (.seq .none (.seq (.seq .none (.seq .none (.seq (.seq .none .none) .none))) (.seq .none (.seq .none (.seq .none (.seq (.seq .none (.block (.loop 2251799812637568 [7, 8, 9] (.seq (.seq .none (.seq .none .none)) (.meet 2251799276814720 [7, 8] (.block (.seq .none (.seq .none .none))) .none))))) (.seq .none (.seq .none .none))))))))
theorem T31_ok : chkFn prog Tryz.f31 T31 = true := by kernel_rfl
def B31 (s_p0 now_p1 : Value) (w : World) (K : Value → World → Prop) : Prop :=
  Calls prog 59 #[s_p0, now_p1] w (Ret fun t_0 w =>
  pvv prog (oEq .neq 36 (.tmp 13) (.const (.int .i64 0)) t_0 (.int .i64 0)) w fun t_1 w =>
  cd t_1 (
    K (.tuple #[(.int .i64 0), t_0]) w) <|
  pv prog (oNil s_p0) w fun t_2 w =>
  pvv prog (Instr.fieldAt 69 t_2 2) w fun t_3 w =>
  efu prog (Instr.storeAt 3 t_3 now_p1) w fun u_4 w =>
  lp (fun σ w again_8 => pop σ fun t_5 σ => pop σ fun n_6 σ => pop σ fun i_7 σ => fin σ <|
    pv prog (oNil s_p0) w fun t_9 w =>
    pvv prog (Instr.fieldAt 69 t_9 4) w fun t_10 w =>
    ldv prog (Instr.loadAt 41 t_10) w fun t_11 w =>
    pv prog (oBi .len #[41] 3 #[false] #[t_11]) w fun t_12 w =>
    pvv prog (binOp .lss 3 i_7 t_12) w fun t_13 w =>
    cd t_13 (
      jn (fun σ w => pop σ fun t_14 σ => pop σ fun n_15 σ => fin σ <|
        pvv prog (binOp .add 3 i_7 (.int .i64 1)) w fun t_16 w =>
        again_8 [t_14, n_15, t_16] w) fun k_17 =>
      pv prog (oNil s_p0) w fun t_18 w =>
      pvv prog (Instr.fieldAt 69 t_18 4) w fun t_19 w =>
      ldv prog (Instr.loadAt 41 t_19) w fun t_20 w =>
      pvv prog (Instr.indexAt 41 t_20 i_7) w fun t_21 w =>
      pvv prog (Instr.fieldAt 49 t_21 3) w fun t_22 w =>
      ldv prog (Instr.loadAt 3 t_22) w fun t_23 w =>
      pvv prog (binOp .lss 3 now_p1 t_23) w fun t_24 w =>
      cd t_24 (
        pv prog (oNil s_p0) w fun t_25 w =>
        pvv prog (Instr.fieldAt 69 t_25 4) w fun t_26 w =>
        ldv prog (Instr.loadAt 41 t_26) w fun t_27 w =>
        pvv prog (Instr.indexAt 41 t_27 i_7) w fun t_28 w =>
        ldv prog (Instr.loadAt 49 t_28) w fun t_29 w =>
        efv prog (Instr.buildSlice 41 1 #[(0, t_29)]) w fun t_30 w =>
        ef prog (oBi .append #[41, 41] 41 #[false, false] #[t_5, t_30]) w fun t_31 w =>
        k_17 [t_31, n_6] w) <|
      pvv prog (binOp .add 3 n_6 (.int .i64 1)) w fun t_32 w =>
      k_17 [t_5, t_32] w) <|
    pv prog (oNil s_p0) w fun t_33 w =>
    pvv prog (Instr.fieldAt 69 t_33 4) w fun t_34 w =>
    efu prog (Instr.storeAt 41 t_34 t_5) w fun u_35 w =>
    K (.tuple #[n_6, (.int .i64 0)]) w) [(.slice none 0 0), (.int .i64 0), (.int .i64 0)] w)
theorem B31_eq (s_p0 now_p1 : Value) (w : World) (K : Value → World → Prop) : denFn prog Tryz.f31 T31 [s_p0, now_p1] w K = B31 s_p0 now_p1 w K := by kernel_rfl
theorem c31 {s_p0 now_p1 : Value} {w : World} {K : Value → World → Prop} (h : B31 s_p0 now_p1 w K) : Calls prog 31 #[s_p0, now_p1] w (Ret K) :=
  denFn_calls Tryz.func31 T31_ok (Eq.mpr (B31_eq s_p0 now_p1 w K) h)

-- 56 holdfast/holdfastref02.IsName
def T56 : Ann := (.seq .none (.seq (.seq .none (.block (.loop 8589934588 [3] (.seq (.seq .none (.seq .none .none)) (.seq (.block (.seq .none (.seq .none (.seq (.seq .none .none) .none)))) .none))))) (.seq .none .none)))
theorem T56_ok : chkFn prog Tryz.f56 T56 = true := by kernel_rfl
def B56 (s_p0 : Value) (w : World) (K : Value → World → Prop) : Prop :=
  lp (fun σ w again_1 => pop σ fun i_0 σ => fin σ <|
    pv prog (oBi .len #[9] 3 #[false] #[s_p0]) w fun t_2 w =>
    pvv prog (binOp .lss 3 i_0 t_2) w fun t_3 w =>
    cd t_3 (
      pvv prog (Instr.index 9 s_p0 i_0) w fun t_4 w =>
      pvv prog (binOp .geq 5 t_4 (.int .u8 97)) w fun t_5 w =>
      gate (some (t_5, true)) (fun K => K t_4 w) w fun t_6 w =>
      gate (some (t_5, true)) (fun K => pvv prog (binOp .leq 5 t_6 (.int .u8 122)) w K) w fun t_7 w =>
      pv prog (oPick t_5 t_7 (.bool false)) w fun t_8 w =>
      gate (some (t_8, false)) (fun K => K t_4 w) w fun t_9 w =>
      gate (some (t_8, false)) (fun K => pvv prog (binOp .geq 5 t_9 (.int .u8 48)) w K) w fun t_10 w =>
      gate (some (t_8, false)) (fun K => K t_10 w) w fun t_11 w =>
      gate (some (t_11, true)) (fun K => K t_4 w) w fun t_12 w =>
      gate (some (t_11, true)) (fun K => pvv prog (binOp .leq 5 t_12 (.int .u8 57)) w K) w fun t_13 w =>
      gate (some (t_8, false)) (fun K => pv prog (oPick t_11 t_13 (.bool false)) w K) w fun t_14 w =>
      pv prog (oPick t_8 (.bool true) t_14) w fun t_15 w =>
      gate (some (t_15, false)) (fun K => K t_4 w) w fun t_16 w =>
      gate (some (t_15, false)) (fun K => pvv prog (oEq .eql 5 (.tmp 29) (.const (.int .u8 45)) t_16 (.int .u8 45)) w K) w fun t_17 w =>
      pv prog (oPick t_15 (.bool true) t_17) w fun t_18 w =>
      pvv prog (Op.unary .not t_18) w fun t_19 w =>
      cd t_19 (
        K (.bool false) w) <|
      pvv prog (binOp .add 3 i_0 (.int .i64 1)) w fun t_20 w =>
      again_1 [t_20] w) <|
    pv prog (oBi .len #[9] 3 #[false] #[s_p0]) w fun t_21 w =>
    pvv prog (binOp .geq 3 t_21 (.int .i64 1)) w fun t_22 w =>
    gate (some (t_22, true)) (fun K => K s_p0 w) w fun t_23 w =>
    gate (some (t_22, true)) (fun K => pv prog (oBi .len #[9] 3 #[false] #[t_23]) w K) w fun t_24 w =>
    gate (some (t_22, true)) (fun K => pvv prog (binOp .leq 3 t_24 (.int .i64 9)) w K) w fun t_25 w =>
    pv prog (oPick t_22 t_25 (.bool false)) w fun t_26 w =>
    K t_26 w) [(.int .i64 0)] w
theorem B56_eq (s_p0 : Value) (w : World) (K : Value → World → Prop) : denFn prog Tryz.f56 T56 [s_p0] w K = B56 s_p0 w K := by kernel_rfl
theorem c56 {s_p0 : Value} {w : World} {K : Value → World → Prop} (h : B56 s_p0 w K) : Calls prog 56 #[s_p0] w (Ret K) :=
  denFn_calls Tryz.func56 T56_ok (Eq.mpr (B56_eq s_p0 w K) h)

-- 72 strings.Trim
def T72 : Ann := (.seq .none (.seq (.seq .none (.seq (.seq .none .none) .none)) (.seq (.seq .none (.seq (.seq (.draw [.op 0 .pure, .op 1 .pure, .op 2 .pure, .op 4 .pure, .op 5 .pure, .op 3 .eff, .op 6 .eff, .op 7 .pure]) .none) .none)) (.seq (.seq .none (.seq .none (.seq (.seq .none .none) .none))) (.seq .none .none)))))
theorem T72_ok : chkFn prog Tryz.f72 T72 = true := by kernel_rfl
def B72 (s_p0 cutset_p1 : Value) (w : World) (K : Value → World → Prop) : Prop :=
  pvv prog (oEq .eql 9 (.tmp 7) (.const (.string ⟨#[]⟩)) s_p0 (.string ⟨#[]⟩)) w fun t_0 w =>
  gate (some (t_0, false)) (fun K => K cutset_p1 w) w fun t_1 w =>
  gate (some (t_0, false)) (fun K => pvv prog (oEq .eql 9 (.tmp 10) (.const (.string ⟨#[]⟩)) t_1 (.string ⟨#[]⟩)) w K) w fun t_2 w =>
  pv prog (oPick t_0 (.bool true) t_2) w fun t_3 w =>
  cd t_3 (
    K s_p0 w) <|
  pv prog (oBi .len #[9] 3 #[false] #[cutset_p1]) w fun t_4 w =>
  pvv prog (oEq .eql 3 (.tmp 15) (.const (.int .i64 1)) t_4 (.int .i64 1)) w fun t_5 w =>
  gate (some (t_5, true)) (fun K => K cutset_p1 w) w fun t_6 w =>
  gate (some (t_5, true)) (fun K => pvv prog (Instr.index 9 t_6 (.int .i64 0)) w K) w fun t_7 w =>
  gate (some (t_5, true)) (fun K => pvv prog (binOp .lss 5 t_7 (.int .u8 128)) w K) w fun t_8 w =>
  pv prog (oPick t_5 t_8 (.bool false)) w fun t_9 w =>
  cd t_9 (
    dr w fun w =>
    pvv prog (Instr.index 9 cutset_p1 (.int .i64 0)) w fun t_10 w =>
    pvv prog (Instr.index 9 cutset_p1 (.int .i64 0)) w fun t_11 w =>
    Calls prog 92 #[s_p0, t_10] w (Ret fun t_12 w =>
    Calls prog 91 #[t_12, t_11] w (Ret fun t_13 w =>
    K t_13 w))) <|
  Calls prog 93 #[cutset_p1] w (Ret fun t_16 w =>
  pvv prog (Instr.extract t_16 0) w fun t_17 w =>
  pvv prog (Instr.extract t_16 1) w fun t_18 w =>
  efv prog (Instr.alloc 126 true (.tuple #[])) w fun as_19 w =>
  efu prog (Instr.storeAt 126 as_19 t_17) w fun u_20 w =>
  cd t_18 (
    Calls prog 95 #[s_p0, as_19] w (Ret fun t_21 w =>
    Calls prog 94 #[t_21, as_19] w (Ret fun t_22 w =>
    K t_22 w))) <|
  Calls prog 97 #[s_p0, cutset_p1] w (Ret fun t_23 w =>
  Calls prog 96 #[t_23, cutset_p1] w (Ret fun t_24 w =>
  K t_24 w)))
theorem B72_eq (s_p0 cutset_p1 : Value) (w : World) (K : Value → World → Prop) : denFn prog Tryz.f72 T72 [s_p0, cutset_p1] w K = B72 s_p0 cutset_p1 w K := by kernel_rfl
theorem c72 {s_p0 cutset_p1 : Value} {w : World} {K : Value → World → Prop} (h : B72 s_p0 cutset_p1 w K) : Calls prog 72 #[s_p0, cutset_p1] w (Ret K) :=
  denFn_calls Tryz.func72 T72_ok (Eq.mpr (B72_eq s_p0 cutset_p1 w K) h)

-- 53 (holdfast/token.row[holdfast/api.Token]).find
def T53 : Ann := (.seq .none (.seq (.seq .none (.seq (.seq .none .none) .none)) (.seq .none (.seq (.seq .none (.seq (.seq .none .none) .none)) (.seq .none .none)))))
theorem T53_ok : chkFn prog Tryz.f53 T53 = true := by kernel_rfl
def B53 (r_p0 id_p1 : Value) (w : World) (K : Value → World → Prop) : Prop :=
  efv prog (Instr.box 65 r_p0) w fun r_0 w =>
  efv prog (Instr.alloc 49 true (.tuple #[])) w fun x_1 w =>
  pvv prog (binOp .lss 3 id_p1 (.int .i64 1)) w fun t_2 w =>
  gate (some (t_2, false)) (fun K => K id_p1 w) w fun t_3 w =>
  gate (some (t_2, false)) (fun K => pvv prog (Instr.fieldAt 65 r_0 0) w K) w fun t_4 w =>
  gate (some (t_2, false)) (fun K => ldv prog (Instr.loadAt 3 t_4) w K) w fun t_5 w =>
  gate (some (t_2, false)) (fun K => pvv prog (binOp .geq 3 t_3 t_5) w K) w fun t_6 w =>
  pv prog (oPick t_2 (.bool true) t_6) w fun t_7 w =>
  cd t_7 (
    ldv prog (Instr.loadAt 49 x_1) w fun t_8 w =>
    efu prog (Instr.storeAt 49 x_1 t_8) w fun u_9 w =>
    ∃ r_10, (do loadVar 49 (← asAddr x_1)).run prog w = .ok r_10 w ∧ K (.tuple #[r_10, (.int .i64 4)]) w) <|
  pvv prog (Instr.fieldAt 65 r_0 1) w fun t_11 w =>
  ldv prog (Instr.loadAt 63 t_11) w fun t_12 w =>
  ldv prog (Instr.lookup 63 t_12 id_p1 true) w fun t_13 w =>
  pvv prog (Instr.extract t_13 0) w fun t_14 w =>
  pvv prog (Instr.extract t_13 1) w fun t_15 w =>
  efu prog (Instr.storeAt 49 x_1 t_14) w fun u_16 w =>
  pvv prog (Op.unary .not t_15) w fun t_17 w =>
  cd t_17 (
    ldv prog (Instr.loadAt 49 x_1) w fun t_18 w =>
    efu prog (Instr.storeAt 49 x_1 t_18) w fun u_19 w =>
    ∃ r_20, (do loadVar 49 (← asAddr x_1)).run prog w = .ok r_20 w ∧ K (.tuple #[r_20, (.int .i64 12)]) w) <|
  ldv prog (Instr.loadAt 49 x_1) w fun t_21 w =>
  efu prog (Instr.storeAt 49 x_1 t_21) w fun u_22 w =>
  ∃ r_23, (do loadVar 49 (← asAddr x_1)).run prog w = .ok r_23 w ∧ K (.tuple #[r_23, (.int .i64 0)]) w
theorem B53_eq (r_p0 id_p1 : Value) (w : World) (K : Value → World → Prop) : denFn prog Tryz.f53 T53 [r_p0, id_p1] w K = B53 r_p0 id_p1 w K := by kernel_rfl
theorem c53 {r_p0 id_p1 : Value} {w : World} {K : Value → World → Prop} (h : B53 r_p0 id_p1 w K) : Calls prog 53 #[r_p0, id_p1] w (Ret K) :=
  denFn_calls Tryz.func53 T53_ok (Eq.mpr (B53_eq r_p0 id_p1 w K) h)

-- 10 (*holdfast/token.Store).Fork
def T10 : Ann := (.seq .none (.seq (.seq .none (.seq (.seq .none .none) .none)) (.seq .none (.seq (.draw [.op 0 .pure, .op 1 .pure, .op 2 .pure, .op 3 .pure, .op 6 .pure, .op 7 .pure, .op 8 .pure, .op 9 .pure, .op 4 .load, .op 10 .load, .op 5 .eff, .op 11 .eff, .op 12 .pure, .op 13 .pure, .op 14 .eff, .op 15 .pure, .op 16 .pure, .op 17 .eff]) (.seq .none .none)))))
theorem T10_ok : chkFn prog Tryz.f10 T10 = true := by kernel_rfl
def B10 (s_p0 : Value) (w : World) (K : Value → World → Prop) : Prop :=
  pvv prog (oEq .eql 24 (.tmp 4) (.const (.pointer none)) s_p0 (.pointer none)) w fun t_0 w =>
  cd t_0 (
    K (.pointer none) w) <|
  pv prog (oNil s_p0) w fun t_1 w =>
  ldv prog (Instr.loadAt 67 t_1) w fun t_2 w =>
  efv prog (Instr.alloc 67 true (.tuple #[])) w fun f_3 w =>
  efu prog (Instr.storeAt 67 f_3 t_2) w fun u_4 w =>
  dr w fun w =>
  pv prog (oNil s_p0) w fun t_5 w =>
  pvv prog (Instr.fieldAt 67 t_5 0) w fun t_6 w =>
  pvv prog (Instr.fieldAt 62 t_6 1) w fun t_7 w =>
  pv prog (oNil s_p0) w fun t_8 w =>
  pvv prog (Instr.fieldAt 67 t_8 1) w fun t_9 w =>
  pvv prog (Instr.fieldAt 65 t_9 1) w fun t_10 w =>
  bindS (vN (Instr.loadAt 60 t_7)) fun m_12 => ldv prog (Instr.loadAt 60 t_7) w fun t_11 w =>
  bindS (vN (Instr.loadAt 63 t_10)) fun m_14 => ldv prog (Instr.loadAt 63 t_10) w fun t_13 w =>
  Calls prog 32 #[t_11] w (Ret fun t_15 w => stay prog none m_14 t_13 w <| 
  Calls prog 33 #[t_13] w (Ret fun t_16 w => stay prog none m_12 t_11 w <| 
  pvv prog (Instr.fieldAt 67 f_3 0) w fun t_17 w =>
  pvv prog (Instr.fieldAt 62 t_17 1) w fun t_18 w =>
  efu prog (Instr.storeAt 60 t_18 t_15) w fun u_19 w =>
  pvv prog (Instr.fieldAt 67 f_3 1) w fun t_20 w =>
  pvv prog (Instr.fieldAt 65 t_20 1) w fun t_21 w =>
  efu prog (Instr.storeAt 63 t_21 t_16) w fun u_22 w =>
  K f_3 w))
theorem B10_eq (s_p0 : Value) (w : World) (K : Value → World → Prop) : denFn prog Tryz.f10 T10 [s_p0] w K = B10 s_p0 w K := by kernel_rfl
theorem c10 {s_p0 : Value} {w : World} {K : Value → World → Prop} (h : B10 s_p0 w K) : Calls prog 10 #[s_p0] w (Ret K) :=
  denFn_calls Tryz.func10 T10_ok (Eq.mpr (B10_eq s_p0 w K) h)

-- 21 (*holdfast/token.Store).Sweep
def T21 : Ann := (.seq .none (.seq (.seq .none (.seq .none (.seq (.seq .none .none) .none))) (.seq .none (.seq .none (.seq .none (.seq .none .none))))))
theorem T21_ok : chkFn prog Tryz.f21 T21 = true := by kernel_rfl
def B21 (s_p0 now_p1 : Value) (w : World) (K : Value → World → Prop) : Prop :=
  efv prog (Instr.box 3 now_p1) w fun now_0 w =>
  ldv prog (Instr.loadAt 3 now_0) w fun t_1 w =>
  Calls prog 47 #[s_p0, t_1] w (Ret fun t_2 w =>
  pvv prog (oEq .neq 36 (.tmp 11) (.const (.int .i64 0)) t_2 (.int .i64 0)) w fun t_3 w =>
  cd t_3 (
    K (.tuple #[(.int .i64 0), t_2]) w) <|
  ldv prog (Instr.loadAt 3 now_0) w fun t_4 w =>
  pv prog (oNil s_p0) w fun t_5 w =>
  pvv prog (Instr.fieldAt 67 t_5 2) w fun t_6 w =>
  efu prog (Instr.storeAt 3 t_6 t_4) w fun u_7 w =>
  pv prog (oNil s_p0) w fun t_8 w =>
  pvv prog (Instr.fieldAt 67 t_8 1) w fun t_9 w =>
  pvv prog (Instr.fieldAt 65 t_9 1) w fun t_10 w =>
  ldv prog (Instr.loadAt 63 t_10) w fun t_11 w =>
  ld prog (oBi .len #[63] 3 #[false] #[t_11]) w fun t_12 w =>
  pv prog (oNil s_p0) w fun t_13 w =>
  pvv prog (Instr.fieldAt 67 t_13 1) w fun t_14 w =>
  pvv prog (Instr.fieldAt 65 t_14 1) w fun t_15 w =>
  ldv prog (Instr.loadAt 63 t_15) w fun t_16 w =>
  pvv prog (Instr.makeFunc (.func 55) #[] #[now_0]) w fun t_17 w =>
  Calls prog 54 #[t_16, t_17] w (Ret fun t_18 w =>
  pv prog (oNil s_p0) w fun t_19 w =>
  pvv prog (Instr.fieldAt 67 t_19 1) w fun t_20 w =>
  pvv prog (Instr.fieldAt 65 t_20 1) w fun t_21 w =>
  ldv prog (Instr.loadAt 63 t_21) w fun t_22 w =>
  ld prog (oBi .len #[63] 3 #[false] #[t_22]) w fun t_23 w =>
  pvv prog (binOp .sub 3 t_12 t_23) w fun t_24 w =>
  K (.tuple #[t_24, (.int .i64 0)]) w))
theorem B21_eq (s_p0 now_p1 : Value) (w : World) (K : Value → World → Prop) : denFn prog Tryz.f21 T21 [s_p0, now_p1] w K = B21 s_p0 now_p1 w K := by kernel_rfl
theorem c21 {s_p0 now_p1 : Value} {w : World} {K : Value → World → Prop} (h : B21 s_p0 now_p1 w K) : Calls prog 21 #[s_p0, now_p1] w (Ret K) :=
  denFn_calls Tryz.func21 T21_ok (Eq.mpr (B21_eq s_p0 now_p1 w K) h)

-- 93 strings.makeASCIISet
def T93 : Ann := (.seq .none (.seq (.seq .none (.block (.loop 1048568 [4] (.seq (.seq .none (.seq .none .none)) (.seq (.block (.seq .none (.seq (.seq .none (.seq (.seq .none .none) .none)) .none))) .none))))) (.seq .none .none)))
theorem T93_ok : chkFn prog Tryz.f93 T93 = true := by kernel_rfl
def B93 (chars_p0 : Value) (w : World) (K : Value → World → Prop) : Prop :=
  efv prog (Instr.alloc 126 true (.tuple #[])) w fun as_0 w =>
  lp (fun σ w again_2 => pop σ fun i_1 σ => fin σ <|
    pv prog (oBi .len #[9] 3 #[false] #[chars_p0]) w fun t_3 w =>
    pvv prog (binOp .lss 3 i_1 t_3) w fun t_4 w =>
    cd t_4 (
      pvv prog (Instr.index 9 chars_p0 i_1) w fun t_5 w =>
      pvv prog (binOp .geq 5 t_5 (.int .u8 128)) w fun t_6 w =>
      cd t_6 (
        ldv prog (Instr.loadAt 126 as_0) w fun t_7 w =>
        efu prog (Instr.storeAt 126 as_0 t_7) w fun u_8 w =>
        ∃ r_9, (do loadVar 126 (← asAddr as_0)).run prog w = .ok r_9 w ∧ K (.tuple #[r_9, (.bool false)]) w) <|
      pvv prog (Instr.indexAt 126 as_0 t_5) w fun t_10 w =>
      efu prog (Instr.storeAt 4 t_10 (.bool true)) w fun u_11 w =>
      pvv prog (binOp .add 3 i_1 (.int .i64 1)) w fun t_12 w =>
      again_2 [t_12] w) <|
    ldv prog (Instr.loadAt 126 as_0) w fun t_13 w =>
    efu prog (Instr.storeAt 126 as_0 t_13) w fun u_14 w =>
    ∃ r_15, (do loadVar 126 (← asAddr as_0)).run prog w = .ok r_15 w ∧ K (.tuple #[r_15, (.bool true)]) w) [(.int .i64 0)] w
theorem B93_eq (chars_p0 : Value) (w : World) (K : Value → World → Prop) : denFn prog Tryz.f93 T93 [chars_p0] w K = B93 chars_p0 w K := by kernel_rfl
theorem c93 {chars_p0 : Value} {w : World} {K : Value → World → Prop} (h : B93 chars_p0 w K) : Calls prog 93 #[chars_p0] w (Ret K) :=
  denFn_calls Tryz.func93 T93_ok (Eq.mpr (B93_eq chars_p0 w K) h)

-- 54 maps.DeleteFunc[map[int]holdfast/api.Token,int,holdfast/api.Token]
def T54 : Ann := (.seq .none (.block (.loop 524080 [] (.seq .none (.seq (.seq .none .none) (.block (.seq .none (.seq .none (.seq .none .none)))))))))
theorem T54_ok : chkFn prog Tryz.f54 T54 = true := by kernel_rfl
def B54 (m_p0 del_p1 : Value) (w : World) (K : Value → World → Prop) : Prop :=
  efv prog (Instr.range 63 m_p0) w fun t_0 w =>
  lp (fun σ w again_1 => fin σ <|
    efv prog (Instr.next t_0 false 0) w fun t_2 w =>
    pvv prog (Instr.extract t_2 0) w fun t_3 w =>
    cd t_3 (
      efv prog (Instr.entry t_0) w fun t_4 w =>
      pvv prog (Instr.extract t_4 0) w fun t_5 w =>
      pvv prog (Instr.extract t_4 1) w fun t_6 w =>
      efv prog (Instr.alloc 49 true (.tuple #[])) w fun v_7 w =>
      efu prog (Instr.storeAt 49 v_7 t_6) w fun u_8 w =>
      ldv prog (Instr.loadAt 49 v_7) w fun t_9 w =>
      ef prog (oCall del_p1 #[t_5, t_9]) w fun t_10 w =>
      cd t_10 (
        ef prog (oBi .delete #[63, 3] 0 #[false, false] #[m_p0, t_5]) w fun u_11 w =>
        again_1 [] w) <|
      again_1 [] w) <|
    K (.tuple #[]) w) [] w
theorem B54_eq (m_p0 del_p1 : Value) (w : World) (K : Value → World → Prop) : denFn prog Tryz.f54 T54 [m_p0, del_p1] w K = B54 m_p0 del_p1 w K := by kernel_rfl
theorem c54 {m_p0 del_p1 : Value} {w : World} {K : Value → World → Prop} (h : B54 m_p0 del_p1 w K) : Calls prog 54 #[m_p0, del_p1] w (Ret K) :=
  denFn_calls Tryz.func54 T54_ok (Eq.mpr (B54_eq m_p0 del_p1 w K) h)

-- 12 (*holdfast/token.Store).Family
def T12 : Ann := (.seq .none (.seq (.seq .none (.seq (.seq .none .none) .none)) (.seq .none .none)))
theorem T12_ok : chkFn prog Tryz.f12 T12 = true := by kernel_rfl
def B12 (s_p0 id_p1 : Value) (w : World) (K : Value → World → Prop) : Prop :=
  efv prog (Instr.alloc 35 true (.tuple #[])) w fun t_0 w =>
  pvv prog (oEq .eql 24 (.tmp 6) (.const (.pointer none)) s_p0 (.pointer none)) w fun t_1 w =>
  cd t_1 (
    pvv prog (Instr.build 35 #[]) w fun t_2 w =>
    efu prog (Instr.storeAt 35 t_0 t_2) w fun u_3 w =>
    ∃ r_4, (do loadVar 35 (← asAddr t_0)).run prog w = .ok r_4 w ∧ K (.tuple #[r_4, (.int .i64 1)]) w) <|
  pv prog (oNil s_p0) w fun t_5 w =>
  pvv prog (Instr.fieldAt 67 t_5 0) w fun t_6 w =>
  ldv prog (Instr.loadAt 62 t_6) w fun t_7 w =>
  Calls prog 37 #[t_7, id_p1] w (Ret fun t_8 w =>
  pvv prog (Instr.extract t_8 0) w fun t_9 w =>
  pvv prog (Instr.extract t_8 1) w fun t_10 w =>
  efu prog (Instr.storeAt 35 t_0 t_9) w fun u_11 w =>
  ∃ r_12, (do loadVar 35 (← asAddr t_0)).run prog w = .ok r_12 w ∧ K (.tuple #[r_12, t_10]) w)
theorem B12_eq (s_p0 id_p1 : Value) (w : World) (K : Value → World → Prop) : denFn prog Tryz.f12 T12 [s_p0, id_p1] w K = B12 s_p0 id_p1 w K := by kernel_rfl
theorem c12 {s_p0 id_p1 : Value} {w : World} {K : Value → World → Prop} (h : B12 s_p0 id_p1 w K) : Calls prog 12 #[s_p0, id_p1] w (Ret K) :=
  denFn_calls Tryz.func12 T12_ok (Eq.mpr (B12_eq s_p0 id_p1 w K) h)

-- 68 holdfast/codec.Number
def T68 : Ann := (.seq .none (.seq (.seq .none (.seq (.seq .none .none) .none)) (.seq .none (.seq .none .none))))
theorem T68_ok : chkFn prog Tryz.f68 T68 = true := by kernel_rfl
def B68 (n_p0 : Value) (w : World) (K : Value → World → Prop) : Prop :=
  pvv prog (binOp .lss 3 n_p0 (.int .i64 0)) w fun t_0 w =>
  gate (some (t_0, false)) (fun K => K n_p0 w) w fun t_1 w =>
  gate (some (t_0, false)) (fun K => pvv prog (binOp .gtr 3 t_1 (.int .i64 4611686018427387904)) w K) w fun t_2 w =>
  pv prog (oPick t_0 (.bool true) t_2) w fun t_3 w =>
  cd t_3 (
    K (.tuple #[(.string ⟨#[]⟩), (.int .i64 2)]) w) <|
  Calls prog 80 #[n_p0, (.int .i64 16)] w (Ret fun t_4 w =>
  Calls prog 79 #[t_4, (.string ⟨#[48]⟩)] w (Ret fun t_5 w =>
  pv prog (oBi .len #[9] 3 #[false] #[t_5]) w fun t_6 w =>
  pvv prog (binOp .add 3 (.int .i64 97) t_6) w fun t_7 w =>
  pvv prog (convert 3 21 t_7) w fun t_8 w =>
  pvv prog (convert 21 9 t_8) w fun t_9 w =>
  pvv prog (binOp .add 9 t_9 t_5) w fun t_10 w =>
  K (.tuple #[t_10, (.int .i64 0)]) w))
theorem B68_eq (n_p0 : Value) (w : World) (K : Value → World → Prop) : denFn prog Tryz.f68 T68 [n_p0] w K = B68 n_p0 w K := by kernel_rfl
theorem c68 {n_p0 : Value} {w : World} {K : Value → World → Prop} (h : B68 n_p0 w K) : Calls prog 68 #[n_p0] w (Ret K) :=
  denFn_calls Tryz.func68 T68_ok (Eq.mpr (B68_eq n_p0 w K) h)

-- 138 unicode/utf8.ValidRune
def T138 : Ann := (.seq .none (.seq (.block (.seq .none (.seq (.seq .none .none) (.seq .none (.seq (.seq .none .none) .none))))) (.seq .none .none)))
theorem T138_ok : chkFn prog Tryz.f138 T138 = true := by kernel_rfl
def B138 (r_p0 : Value) (w : World) (K : Value → World → Prop) : Prop :=
  pvv prog (binOp .leq 21 (.int .i32 0) r_p0) w fun t_0 w =>
  gate (some (t_0, true)) (fun K => K r_p0 w) w fun t_1 w =>
  gate (some (t_0, true)) (fun K => pvv prog (binOp .lss 21 t_1 (.int .i32 55296)) w K) w fun t_2 w =>
  pv prog (oPick t_0 t_2 (.bool false)) w fun t_3 w =>
  cd t_3 (
    K (.bool true) w) <|
  pvv prog (binOp .lss 21 (.int .i32 57343) r_p0) w fun t_4 w =>
  gate (some (t_4, true)) (fun K => K r_p0 w) w fun t_5 w =>
  gate (some (t_4, true)) (fun K => pvv prog (binOp .leq 21 t_5 (.int .i32 1114111)) w K) w fun t_6 w =>
  pv prog (oPick t_4 t_6 (.bool false)) w fun t_7 w =>
  cd t_7 (
    K (.bool true) w) <|
  K (.bool false) w
theorem B138_eq (r_p0 : Value) (w : World) (K : Value → World → Prop) : denFn prog Tryz.f138 T138 [r_p0] w K = B138 r_p0 w K := by kernel_rfl
theorem c138 {r_p0 : Value} {w : World} {K : Value → World → Prop} (h : B138 r_p0 w K) : Calls prog 138 #[r_p0] w (Ret K) :=
  denFn_calls Tryz.func138 T138_ok (Eq.mpr (B138_eq r_p0 w K) h)

-- 64 slices.Index[[]int,int]
def T64 : Ann := (.seq .none (.seq (.seq .none (.block (.loop 524080 [8] (.seq .none (.seq (.seq .none .none) (.seq (.block (.seq .none (.seq .none (.seq (.seq .none .none) .none)))) .none)))))) (.seq .none .none)))
theorem T64_ok : chkFn prog Tryz.f64 T64 = true := by kernel_rfl
def B64 (s_p0 v_p1 : Value) (w : World) (K : Value → World → Prop) : Prop :=
  pv prog (oBi .len #[23] 3 #[false] #[s_p0]) w fun t_0 w =>
  lp (fun σ w again_2 => pop σ fun t_1 σ => fin σ <|
    pvv prog (binOp .lss 3 t_1 t_0) w fun t_3 w =>
    cd t_3 (
      pvv prog (Instr.indexAt 23 s_p0 t_1) w fun t_4 w =>
      ldv prog (Instr.loadAt 3 t_4) w fun t_5 w =>
      pvv prog (oEq .eql 3 (.tmp 11) (.tmp 15) v_p1 t_5) w fun t_6 w =>
      cd t_6 (
        K t_1 w) <|
      pvv prog (binOp .add 3 t_1 (.int .i64 1)) w fun t_7 w =>
      again_2 [t_7] w) <|
    K (.int .i64 (-1)) w) [(.int .i64 0)] w
theorem B64_eq (s_p0 v_p1 : Value) (w : World) (K : Value → World → Prop) : denFn prog Tryz.f64 T64 [s_p0, v_p1] w K = B64 s_p0 v_p1 w K := by kernel_rfl
theorem c64 {s_p0 v_p1 : Value} {w : World} {K : Value → World → Prop} (h : B64 s_p0 v_p1 w K) : Calls prog 64 #[s_p0, v_p1] w (Ret K) :=
  denFn_calls Tryz.func64 T64_ok (Eq.mpr (B64_eq s_p0 v_p1 w K) h)

-- 27 (*holdfast/holdfastref12.Store).End
def T27 : Ann := (.seq .none (.seq (.seq .none (.seq (.seq .none .none) .none)) (.seq (.seq .none (.seq .none (.seq (.seq .none .none) .none))) (.seq .none (.seq .none .none)))))
theorem T27_ok : chkFn prog Tryz.f27 T27 = true := by kernel_rfl
def B27 (s_p0 family_p1 : Value) (w : World) (K : Value → World → Prop) : Prop :=
  pvv prog (oEq .eql 26 (.tmp 7) (.const (.pointer none)) s_p0 (.pointer none)) w fun t_0 w =>
  cd t_0 (
    K (.int .i64 1) w) <|
  Calls prog 60 #[s_p0, family_p1] w (Ret fun t_1 w =>
  pvv prog (Instr.extract t_1 0) w fun t_2 w =>
  pvv prog (Instr.extract t_1 1) w fun t_3 w =>
  pvv prog (oEq .neq 36 (.tmp 15) (.const (.int .i64 0)) t_3 (.int .i64 0)) w fun t_4 w =>
  cd t_4 (
    K t_3 w) <|
  Calls prog 61 #[s_p0, family_p1] w (Ret fun t_5 w =>
  K (.int .i64 0) w))
theorem B27_eq (s_p0 family_p1 : Value) (w : World) (K : Value → World → Prop) : denFn prog Tryz.f27 T27 [s_p0, family_p1] w K = B27 s_p0 family_p1 w K := by kernel_rfl
theorem c27 {s_p0 family_p1 : Value} {w : World} {K : Value → World → Prop} (h : B27 s_p0 family_p1 w K) : Calls prog 27 #[s_p0, family_p1] w (Ret K) :=
  denFn_calls Tryz.func27 T27_ok (Eq.mpr (B27_eq s_p0 family_p1 w K) h)

-- 14 (*holdfast/token.Store).Tokens
def T14 : Ann := (.seq .none (.seq (.seq .none (.seq (.seq .none .none) .none)) (.seq .none .none)))
theorem T14_ok : chkFn prog Tryz.f14 T14 = true := by kernel_rfl
def B14 (s_p0 family_p1 : Value) (w : World) (K : Value → World → Prop) : Prop :=
  efv prog (Instr.box 3 family_p1) w fun family_0 w =>
  pvv prog (oEq .eql 24 (.tmp 5) (.const (.pointer none)) s_p0 (.pointer none)) w fun t_1 w =>
  cd t_1 (
    K (.slice none 0 0) w) <|
  pv prog (oNil s_p0) w fun t_2 w =>
  pvv prog (Instr.fieldAt 67 t_2 1) w fun t_3 w =>
  ldv prog (Instr.loadAt 65 t_3) w fun t_4 w =>
  pvv prog (Instr.makeFunc (.func 40) #[] #[family_0]) w fun t_5 w =>
  Calls prog 39 #[t_4, t_5] w (Ret fun t_6 w =>
  K t_6 w)
theorem B14_eq (s_p0 family_p1 : Value) (w : World) (K : Value → World → Prop) : denFn prog Tryz.f14 T14 [s_p0, family_p1] w K = B14 s_p0 family_p1 w K := by kernel_rfl
theorem c14 {s_p0 family_p1 : Value} {w : World} {K : Value → World → Prop} (h : B14 s_p0 family_p1 w K) : Calls prog 14 #[s_p0, family_p1] w (Ret K) :=
  denFn_calls Tryz.func14 T14_ok (Eq.mpr (B14_eq s_p0 family_p1 w K) h)

-- 33 maps.Clone[map[int]holdfast/api.Token,int,holdfast/api.Token]
def T33 : Ann := (.seq .none (.seq (.seq .none (.seq (.seq .none .none) .none)) (.seq .none .none)))
theorem T33_ok : chkFn prog Tryz.f33 T33 = true := by kernel_rfl
def B33 (m_p0 : Value) (w : World) (K : Value → World → Prop) : Prop :=
  pvv prog (oEq .eql 63 (.tmp 3) (.const (.map none)) m_p0 (.map none)) w fun t_0 w =>
  cd t_0 (
    K (.map none) w) <|
  pvv prog (Instr.makeInterface 63 m_p0) w fun t_1 w =>
  ef prog (oCall (.func (.func 63) #[] #[]) #[t_1]) w fun t_2 w =>
  efv prog (Instr.typeAssert t_2 20 63 false) w fun t_3 w =>
  K t_3 w
theorem B33_eq (m_p0 : Value) (w : World) (K : Value → World → Prop) : denFn prog Tryz.f33 T33 [m_p0] w K = B33 m_p0 w K := by kernel_rfl
theorem c33 {m_p0 : Value} {w : World} {K : Value → World → Prop} (h : B33 m_p0 w K) : Calls prog 33 #[m_p0] w (Ret K) :=
  denFn_calls Tryz.func33 T33_ok (Eq.mpr (B33_eq m_p0 w K) h)

-- 55 (*holdfast/token.Store).Sweep$1
def T55 : Ann := (.seq .none (.seq .none .none))
theorem T55_ok : chkFn prog Tryz.f55 T55 = true := by kernel_rfl
def B55 (x_p0 t_p1 x_p2 : Value) (w : World) (K : Value → World → Prop) : Prop :=
  efv prog (Instr.box 49 t_p1) w fun t_0 w =>
  ldv prog (Instr.loadAt 3 x_p2) w fun t_1 w =>
  pvv prog (Instr.fieldAt 49 t_0 3) w fun t_2 w =>
  ldv prog (Instr.loadAt 3 t_2) w fun t_3 w =>
  pvv prog (binOp .geq 3 t_1 t_3) w fun t_4 w =>
  K t_4 w
theorem B55_eq (x_p0 t_p1 x_p2 : Value) (w : World) (K : Value → World → Prop) : denFn prog Tryz.f55 T55 [x_p0, t_p1, x_p2] w K = B55 x_p0 t_p1 x_p2 w K := by kernel_rfl
theorem c55 {x_p0 t_p1 x_p2 : Value} {w : World} {K : Value → World → Prop} (h : B55 x_p0 t_p1 x_p2 w K) : Calls prog 55 #[x_p0, t_p1, x_p2] w (Ret K) :=
  denFn_calls Tryz.func55 T55_ok (Eq.mpr (B55_eq x_p0 t_p1 x_p2 w K) h)

-- 40 (*holdfast/token.Store).Tokens$1
def T40 : Ann := (.seq .none (.seq .none .none))
theorem T40_ok : chkFn prog Tryz.f40 T40 = true := by kernel_rfl
def B40 (t_p0 x_p1 : Value) (w : World) (K : Value → World → Prop) : Prop :=
  efv prog (Instr.box 49 t_p0) w fun t_0 w =>
  pvv prog (Instr.fieldAt 49 t_0 1) w fun t_1 w =>
  ldv prog (Instr.loadAt 3 t_1) w fun t_2 w =>
  ldv prog (Instr.loadAt 3 x_p1) w fun t_3 w =>
  pvv prog (oEq .eql 3 (.tmp 5) (.tmp 6) t_2 t_3) w fun t_4 w =>
  K t_4 w
theorem B40_eq (t_p0 x_p1 : Value) (w : World) (K : Value → World → Prop) : denFn prog Tryz.f40 T40 [t_p0, x_p1] w K = B40 t_p0 x_p1 w K := by kernel_rfl
theorem c40 {t_p0 x_p1 : Value} {w : World} {K : Value → World → Prop} (h : B40 t_p0 x_p1 w K) : Calls prog 40 #[t_p0, x_p1] w (Ret K) :=
  denFn_calls Tryz.func40 T40_ok (Eq.mpr (B40_eq t_p0 x_p1 w K) h)

-- 50 (holdfast/token.row[holdfast/api.Token]).full
def T50 : Ann := (.seq .none (.seq .none .none))
theorem T50_ok : chkFn prog Tryz.f50 T50 = true := by kernel_rfl
def B50 (r_p0 : Value) (w : World) (K : Value → World → Prop) : Prop :=
  efv prog (Instr.box 65 r_p0) w fun r_0 w =>
  pvv prog (Instr.fieldAt 65 r_0 0) w fun t_1 w =>
  ldv prog (Instr.loadAt 3 t_1) w fun t_2 w =>
  pvv prog (binOp .gtr 3 t_2 (.int .i64 1099511627776)) w fun t_3 w =>
  K t_3 w
theorem B50_eq (r_p0 : Value) (w : World) (K : Value → World → Prop) : denFn prog Tryz.f50 T50 [r_p0] w K = B50 r_p0 w K := by kernel_rfl
theorem c50 {r_p0 : Value} {w : World} {K : Value → World → Prop} (h : B50 r_p0 w K) : Calls prog 50 #[r_p0] w (Ret K) :=
  denFn_calls Tryz.func50 T50_ok (Eq.mpr (B50_eq r_p0 w K) h)

-- 107 (*strings.asciiSet).contains
def T107 : Ann := (.seq .none (.seq .none .none))
theorem T107_ok : chkFn prog Tryz.f107 T107 = true := by kernel_rfl
def B107 (as_p0 c_p1 : Value) (w : World) (K : Value → World → Prop) : Prop :=
  pv prog (oNil as_p0) w fun t_0 w =>
  pvv prog (Instr.indexAt 126 t_0 c_p1) w fun t_1 w =>
  ldv prog (Instr.loadAt 4 t_1) w fun t_2 w =>
  K t_2 w
theorem B107_eq (as_p0 c_p1 : Value) (w : World) (K : Value → World → Prop) : denFn prog Tryz.f107 T107 [as_p0, c_p1] w K = B107 as_p0 c_p1 w K := by kernel_rfl
theorem c107 {as_p0 c_p1 : Value} {w : World} {K : Value → World → Prop} (h : B107 as_p0 c_p1 w K) : Calls prog 107 #[as_p0, c_p1] w (Ret K) :=
  denFn_calls Tryz.func107 T107_ok (Eq.mpr (B107_eq as_p0 c_p1 w K) h)

-- 109 strings.ContainsRune
def T109 : Ann := (.seq .none (.seq .none .none))
theorem T109_ok : chkFn prog Tryz.f109 T109 = true := by kernel_rfl
def B109 (s_p0 r_p1 : Value) (w : World) (K : Value → World → Prop) : Prop :=
  Calls prog 127 #[s_p0, r_p1] w (Ret fun t_0 w =>
  pvv prog (binOp .geq 3 t_0 (.int .i64 0)) w fun t_1 w =>
  K t_1 w)
theorem B109_eq (s_p0 r_p1 : Value) (w : World) (K : Value → World → Prop) : denFn prog Tryz.f109 T109 [s_p0, r_p1] w K = B109 s_p0 r_p1 w K := by kernel_rfl
theorem c109 {s_p0 r_p1 : Value} {w : World} {K : Value → World → Prop} (h : B109 s_p0 r_p1 w K) : Calls prog 109 #[s_p0, r_p1] w (Ret K) :=
  denFn_calls Tryz.func109 T109_ok (Eq.mpr (B109_eq s_p0 r_p1 w K) h)

-- 66 maps.Keys[map[int]holdfast/api.Token,int,holdfast/api.Token]
def T66 : Ann := (.seq .none (.seq .none .none))
theorem T66_ok : chkFn prog Tryz.f66 T66 = true := by kernel_rfl
def B66 (m_p0 : Value) (w : World) (K : Value → World → Prop) : Prop :=
  efv prog (Instr.box 63 m_p0) w fun m_0 w =>
  pvv prog (Instr.makeFunc (.func 77) #[] #[m_0]) w fun t_1 w =>
  K t_1 w
theorem B66_eq (m_p0 : Value) (w : World) (K : Value → World → Prop) : denFn prog Tryz.f66 T66 [m_p0] w K = B66 m_p0 w K := by kernel_rfl
theorem c66 {m_p0 : Value} {w : World} {K : Value → World → Prop} (h : B66 m_p0 w K) : Calls prog 66 #[m_p0] w (Ret K) :=
  denFn_calls Tryz.func66 T66_ok (Eq.mpr (B66_eq m_p0 w K) h)

-- 144 internal/stringslite.IndexByte
def T144 : Ann := (.seq .none (.seq .none .none))
theorem T144_ok : chkFn prog Tryz.f144 T144 = true := by kernel_rfl
def B144 (s_p0 c_p1 : Value) (w : World) (K : Value → World → Prop) : Prop :=
  ef prog (oCall (.func (.func 145) #[] #[]) #[s_p0, c_p1]) w fun t_0 w =>
  K t_0 w
theorem B144_eq (s_p0 c_p1 : Value) (w : World) (K : Value → World → Prop) : denFn prog Tryz.f144 T144 [s_p0, c_p1] w K = B144 s_p0 c_p1 w K := by kernel_rfl
theorem c144 {s_p0 c_p1 : Value} {w : World} {K : Value → World → Prop} (h : B144 s_p0 c_p1 w K) : Calls prog 144 #[s_p0, c_p1] w (Ret K) :=
  denFn_calls Tryz.func144 T144_ok (Eq.mpr (B144_eq s_p0 c_p1 w K) h)

-- 71 cmp.isNaN[string]
def T71 : Ann := (.seq .none (.seq .none .none))
theorem T71_ok : chkFn prog Tryz.f71 T71 = true := by kernel_rfl
def B71 (x_p0 : Value) (w : World) (K : Value → World → Prop) : Prop :=
  pvv prog (oEq .neq 9 (.tmp 3) (.tmp 4) x_p0 x_p0) w fun t_0 w =>
  K t_0 w
theorem B71_eq (x_p0 : Value) (w : World) (K : Value → World → Prop) : denFn prog Tryz.f71 T71 [x_p0] w K = B71 x_p0 w K := by kernel_rfl
theorem c71 {x_p0 : Value} {w : World} {K : Value → World → Prop} (h : B71 x_p0 w K) : Calls prog 71 #[x_p0] w (Ret K) :=
  denFn_calls Tryz.func71 T71_ok (Eq.mpr (B71_eq x_p0 w K) h)

-- 7 holdfast/holdfastref12.New
def T7 : Ann := (.seq .none (.seq .none .none))
theorem T7_ok : chkFn prog Tryz.f7 T7 = true := by kernel_rfl
def B7 (w : World) (K : Value → World → Prop) : Prop :=
  pvv prog (Instr.build 69 #[(0, (.int .i64 1)), (1, (.int .i64 1))]) w fun t_0 w =>
  efv prog (Instr.box 69 t_0) w fun t_1 w =>
  K t_1 w
theorem B7_eq (w : World) (K : Value → World → Prop) : denFn prog Tryz.f7 T7 [] w K = B7  w K := by kernel_rfl
theorem c7 {w : World} {K : Value → World → Prop} (h : B7  w K) : Calls prog 7 #[] w (Ret K) :=
  denFn_calls Tryz.func7 T7_ok (Eq.mpr (B7_eq  w K) h)


end Go.Proofs.YtbcimkjgpplcpaaGreatDoor
