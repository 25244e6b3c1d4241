import Derived.Test.YtbcimkjgpplcpaaDoorPI
set_option linter.all false
set_option maxRecDepth 100000
namespace Go.Proofs.YtbcimkjgpplcpaaDoor
open Go Hold
-- 33 (*holdfast/holdfastref12.Store).Grant
def T33 : Ann := (.seq .none (.seq .none (.seq .none (.seq (.block (.seq .none (.seq (.seq (.draw [.op 0 .load, .op 1 .load, .op 2 .eff, .op 3 .eff, .op 4 .pure]) .none) (.seq .none (.seq (.seq (.draw [.op 0 .load, .op 1 .load, .op 2 .eff, .op 3 .eff, .op 4 .pure]) .none) (.seq .none (.seq (.seq (.draw [.op 0 .load, .op 1 .load, .op 2 .eff, .op 3 .eff, .op 4 .pure]) .none) (.seq .none (.seq (.seq (.draw [.op 0 .load, .op 1 .load, .op 2 .eff, .op 3 .eff, .op 4 .pure]) .none) (.seq .none (.seq (.seq (.draw [.op 0 .load, .op 1 .load, .op 2 .eff, .op 3 .eff, .op 4 .pure]) .none) (.seq .none (.seq (.seq (.draw [.op 0 .load, .op 1 .load, .op 2 .eff, .op 3 .eff, .op 4 .pure]) .none) .none))))))))))))) (.seq .none (.seq .none (.seq .none (.seq .none (.seq .none (.seq .none (.seq (.draw [.op 1 .pure, .op 2 .pure, .op 4 .pure, .op 5 .pure, .op 6 .pure, .op 0 .load, .op 3 .load, .op 7 .eff, .op 8 .eff, .op 9 .eff, .op 10 .pure]) .none)))))))))))
theorem T33_ok : chkFn prog Tryd.f33 T33 = true := by kernel_rfl
def B33 (s_p0 session_p1 client_p2 scopes_p3 now_p4 : Value) (w : World) (K : Value → World → Prop) : Prop :=
  efv prog (Instr.alloc 27 true (.tuple #[])) w fun t_0 w =>
  efv prog (Instr.alloc 29 true (.tuple #[])) w fun t_1 w =>
  efv prog (Instr.alloc 27 true (.tuple #[])) w fun f_2 w =>
  efv prog (Instr.alloc 29 true (.tuple #[])) w fun x_3 w =>
  pvv prog (oEq .eql 38 (.tmp 17) (.const (.pointer none)) s_p0 (.pointer none)) w fun t_4 w =>
  cd t_4 (
    dr w fun w =>
    bindS (vN (Instr.loadAt 27 f_2)) fun m_6 => ldv prog (Instr.loadAt 27 f_2) w fun t_5 w =>
    bindS (vN (Instr.loadAt 29 x_3)) fun m_8 => ldv prog (Instr.loadAt 29 x_3) w fun t_7 w =>
    efu prog (Instr.storeAt 27 t_0 t_5) w fun u_9 w => stay prog none m_8 t_7 w <| 
    efu prog (Instr.storeAt 29 t_1 t_7) w fun u_10 w =>
    ∃ r_11, (do loadVar 27 (← asAddr t_0)).run prog w = .ok r_11 w ∧ ∃ r_12, (do loadVar 29 (← asAddr t_1)).run prog w = .ok r_12 w ∧ K (.tuple #[r_11, r_12, (.int .i64 1)]) w) <|
  pvv prog (binOp .lss 3 session_p1 (.int .i64 1)) w fun t_15 w =>
  gate (some (t_15, false)) (fun K => K now_p4 w) w fun t_16 w =>
  gate (some (t_15, false)) (fun K => pvv prog (binOp .lss 3 t_16 (.int .i64 0)) w K) w fun t_17 w =>
  pv prog (oPick t_15 (.bool true) t_17) w fun t_18 w =>
  gate (some (t_18, false)) (fun K => K now_p4 w) w fun t_19 w =>
  gate (some (t_18, false)) (fun K => pvv prog (binOp .gtr 3 t_19 (.int .i64 1099511627776)) w K) w fun t_20 w =>
  pv prog (oPick t_18 (.bool true) t_20) w fun t_21 w =>
  cd t_21 (
    dr w fun w =>
    bindS (vN (Instr.loadAt 27 f_2)) fun m_23 => ldv prog (Instr.loadAt 27 f_2) w fun t_22 w =>
    bindS (vN (Instr.loadAt 29 x_3)) fun m_25 => ldv prog (Instr.loadAt 29 x_3) w fun t_24 w =>
    efu prog (Instr.storeAt 27 t_0 t_22) w fun u_26 w => stay prog none m_25 t_24 w <| 
    efu prog (Instr.storeAt 29 t_1 t_24) w fun u_27 w =>
    ∃ r_28, (do loadVar 27 (← asAddr t_0)).run prog w = .ok r_28 w ∧ ∃ r_29, (do loadVar 29 (← asAddr t_1)).run prog w = .ok r_29 w ∧ K (.tuple #[r_28, r_29, (.int .i64 2)]) w) <|
  Calls prog 61 #[client_p2] w (Ret fun t_32 w =>
  pvv prog (Op.unary .not t_32) w fun t_33 w =>
  cd t_33 (
    dr w fun w =>
    bindS (vN (Instr.loadAt 27 f_2)) fun m_35 => ldv prog (Instr.loadAt 27 f_2) w fun t_34 w =>
    bindS (vN (Instr.loadAt 29 x_3)) fun m_37 => ldv prog (Instr.loadAt 29 x_3) w fun t_36 w =>
    efu prog (Instr.storeAt 27 t_0 t_34) w fun u_38 w => stay prog none m_37 t_36 w <| 
    efu prog (Instr.storeAt 29 t_1 t_36) w fun u_39 w =>
    ∃ r_40, (do loadVar 27 (← asAddr t_0)).run prog w = .ok r_40 w ∧ ∃ r_41, (do loadVar 29 (← asAddr t_1)).run prog w = .ok r_41 w ∧ K (.tuple #[r_40, r_41, (.int .i64 8)]) w) <|
  pv prog (oNil s_p0) w fun t_44 w =>
  pvv prog (Instr.fieldAt 83 t_44 2) w fun t_45 w =>
  ldv prog (Instr.loadAt 3 t_45) w fun t_46 w =>
  pvv prog (binOp .lss 3 now_p4 t_46) w fun t_47 w =>
  cd t_47 (
    dr w fun w =>
    bindS (vN (Instr.loadAt 27 f_2)) fun m_49 => ldv prog (Instr.loadAt 27 f_2) w fun t_48 w =>
    bindS (vN (Instr.loadAt 29 x_3)) fun m_51 => ldv prog (Instr.loadAt 29 x_3) w fun t_50 w =>
    efu prog (Instr.storeAt 27 t_0 t_48) w fun u_52 w => stay prog none m_51 t_50 w <| 
    efu prog (Instr.storeAt 29 t_1 t_50) w fun u_53 w =>
    ∃ r_54, (do loadVar 27 (← asAddr t_0)).run prog w = .ok r_54 w ∧ ∃ r_55, (do loadVar 29 (← asAddr t_1)).run prog w = .ok r_55 w ∧ K (.tuple #[r_54, r_55, (.int .i64 9)]) w) <|
  pv prog (oNil s_p0) w fun t_58 w =>
  pvv prog (Instr.fieldAt 83 t_58 0) w fun t_59 w =>
  ldv prog (Instr.loadAt 3 t_59) w fun t_60 w =>
  pvv prog (binOp .gtr 3 t_60 (.int .i64 1099511627776)) w fun t_61 w =>
  gate (some (t_61, false)) (fun K => K s_p0 w) w fun t_62 w =>
  gate (some (t_61, false)) (fun K => pv prog (oNil t_62) w K) w fun t_63 w =>
  gate (some (t_61, false)) (fun K => pvv prog (Instr.fieldAt 83 t_63 1) w K) w fun t_64 w =>
  gate (some (t_61, false)) (fun K => ldv prog (Instr.loadAt 3 t_64) w K) w fun t_65 w =>
  gate (some (t_61, false)) (fun K => pvv prog (binOp .gtr 3 t_65 (.int .i64 1099511627776)) w K) w fun t_66 w =>
  pv prog (oPick t_61 (.bool true) t_66) w fun t_67 w =>
  cd t_67 (
    dr w fun w =>
    bindS (vN (Instr.loadAt 27 f_2)) fun m_69 => ldv prog (Instr.loadAt 27 f_2) w fun t_68 w =>
    bindS (vN (Instr.loadAt 29 x_3)) fun m_71 => ldv prog (Instr.loadAt 29 x_3) w fun t_70 w =>
    efu prog (Instr.storeAt 27 t_0 t_68) w fun u_72 w => stay prog none m_71 t_70 w <| 
    efu prog (Instr.storeAt 29 t_1 t_70) w fun u_73 w =>
    ∃ r_74, (do loadVar 27 (← asAddr t_0)).run prog w = .ok r_74 w ∧ ∃ r_75, (do loadVar 29 (← asAddr t_1)).run prog w = .ok r_75 w ∧ K (.tuple #[r_74, r_75, (.int .i64 7)]) w) <|
  Calls prog 62 #[s_p0, session_p1] w (Ret fun t_78 w =>
  pv prog (oBi .len #[33] 3 #[false] #[t_78]) w fun t_79 w =>
  pvv prog (binOp .geq 3 t_79 (.int .i64 2)) w fun t_80 w =>
  cd t_80 (
    dr w fun w =>
    bindS (vN (Instr.loadAt 27 f_2)) fun m_82 => ldv prog (Instr.loadAt 27 f_2) w fun t_81 w =>
    bindS (vN (Instr.loadAt 29 x_3)) fun m_84 => ldv prog (Instr.loadAt 29 x_3) w fun t_83 w =>
    efu prog (Instr.storeAt 27 t_0 t_81) w fun u_85 w => stay prog none m_84 t_83 w <| 
    efu prog (Instr.storeAt 29 t_1 t_83) w fun u_86 w =>
    ∃ r_87, (do loadVar 27 (← asAddr t_0)).run prog w = .ok r_87 w ∧ ∃ r_88, (do loadVar 29 (← asAddr t_1)).run prog w = .ok r_88 w ∧ K (.tuple #[r_87, r_88, (.int .i64 23)]) w) <|
  pv prog (oNil s_p0) w fun t_91 w =>
  pvv prog (Instr.fieldAt 83 t_91 0) w fun t_92 w =>
  ldv prog (Instr.loadAt 3 t_92) w fun t_93 w =>
  pvv prog (Instr.build 27 #[(0, t_93), (1, session_p1), (2, client_p2), (3, scopes_p3), (4, (.int .i64 1))]) w fun t_94 w =>
  efu prog (Instr.storeAt 27 f_2 t_94) w fun u_95 w =>
  pv prog (oNil s_p0) w fun t_96 w =>
  pvv prog (Instr.fieldAt 83 t_96 0) w fun t_97 w =>
  ldv prog (Instr.loadAt 3 t_97) w fun t_98 w =>
  pvv prog (binOp .add 3 t_98 (.int .i64 1)) w fun t_99 w =>
  pv prog (oNil s_p0) w fun t_100 w =>
  pvv prog (Instr.fieldAt 83 t_100 0) w fun t_101 w =>
  efu prog (Instr.storeAt 3 t_101 t_99) w fun u_102 w =>
  pv prog (oNil s_p0) w fun t_103 w =>
  pvv prog (Instr.fieldAt 83 t_103 2) w fun t_104 w =>
  efu prog (Instr.storeAt 3 t_104 now_p4) w fun u_105 w =>
  pv prog (oNil s_p0) w fun t_106 w =>
  pvv prog (Instr.fieldAt 83 t_106 3) w fun t_107 w =>
  ldv prog (Instr.loadAt 33 t_107) w fun t_108 w =>
  ef prog (oBi .append #[33, 33] 33 #[false, false] #[(.slice none 0 0), t_108]) w fun t_109 w =>
  ldv prog (Instr.loadAt 27 f_2) w fun t_110 w =>
  efv prog (Instr.buildSlice 33 1 #[(0, t_110)]) w fun t_111 w =>
  ef prog (oBi .append #[33, 33] 33 #[false, false] #[t_109, t_111]) w fun t_112 w =>
  pv prog (oNil s_p0) w fun t_113 w =>
  pvv prog (Instr.fieldAt 83 t_113 3) w fun t_114 w =>
  efu prog (Instr.storeAt 33 t_114 t_112) w fun u_115 w =>
  dr w fun w =>
  pvv prog (Instr.fieldAt 27 f_2 0) w fun t_116 w =>
  pvv prog (binOp .add 3 now_p4 (.int .i64 50)) w fun t_117 w =>
  bindS (vN (Instr.loadAt 27 f_2)) fun m_119 => ldv prog (Instr.loadAt 27 f_2) w fun t_118 w =>
  bindS (vN (Instr.loadAt 3 t_116)) fun m_121 => ldv prog (Instr.loadAt 3 t_116) w fun t_120 w =>
  Calls prog 63 #[s_p0, t_120, scopes_p3, t_117] w (Ret fun t_122 w => stay prog none m_119 t_118 w <| 
  efu prog (Instr.storeAt 27 t_0 t_118) w fun u_123 w => stay prog none m_121 t_120 w <| 
  efu prog (Instr.storeAt 29 t_1 t_122) w fun u_124 w =>
  ∃ r_125, (do loadVar 27 (← asAddr t_0)).run prog w = .ok r_125 w ∧ ∃ r_126, (do loadVar 29 (← asAddr t_1)).run prog w = .ok r_126 w ∧ K (.tuple #[r_125, r_126, (.int .i64 0)]) w)))
theorem B33_eq (s_p0 session_p1 client_p2 scopes_p3 now_p4 : Value) (w : World) (K : Value → World → Prop) : denFn prog Tryd.f33 T33 [s_p0, session_p1, client_p2, scopes_p3, now_p4] w K = B33 s_p0 session_p1 client_p2 scopes_p3 now_p4 w K := by kernel_rfl
theorem c33 {s_p0 session_p1 client_p2 scopes_p3 now_p4 : Value} {w : World} {K : Value → World → Prop} (h : B33 s_p0 session_p1 client_p2 scopes_p3 now_p4 w K) : Calls prog 33 #[s_p0, session_p1, client_p2, scopes_p3, now_p4] w (Ret K) :=
  denFn_calls Tryd.func33 T33_ok (Eq.mpr (B33_eq s_p0 session_p1 client_p2 scopes_p3 now_p4 w K) h)

-- 9 (*holdfast/token.Store).Grant
def T9 : Ann := (.seq .none (.seq .none (.seq (.block (.seq .none (.seq (.seq (.draw [.op 2 .pure, .op 0 .load, .op 1 .load, .op 3 .eff, .op 4 .eff, .op 5 .pure]) .none) (.seq .none (.seq (.seq (.draw [.op 0 .load, .op 1 .load, .op 2 .eff, .op 3 .eff, .op 4 .pure]) .none) (.seq .none (.seq (.seq (.draw [.op 0 .load, .op 1 .load, .op 2 .eff, .op 3 .eff, .op 4 .pure]) .none) (.seq .none (.seq (.seq (.draw [.op 2 .pure, .op 0 .load, .op 1 .load, .op 3 .eff, .op 4 .eff, .op 5 .pure]) .none) (.seq .none (.seq (.seq (.draw [.op 0 .load, .op 1 .load, .op 2 .eff, .op 3 .eff, .op 4 .pure]) .none) (.seq .none (.seq (.seq (.draw [.op 0 .load, .op 1 .load, .op 2 .eff, .op 3 .eff, .op 4 .pure]) .none) .none))))))))))))) (.seq .none (.seq (.draw [.op 0 .pure, .op 1 .pure, .op 2 .pure, .op 3 .pure, .op 5 .pure, .op 4 .load, .op 6 .load, .op 7 .load, .op 8 .eff]) (.seq .none (.seq .none (.seq (.draw [.op 1 .pure, .op 2 .pure, .op 4 .pure, .op 5 .pure, .op 6 .pure, .op 0 .load, .op 3 .load, .op 7 .eff, .op 8 .eff, .op 9 .eff, .op 10 .pure]) .none))))))))
theorem T9_ok : chkFn prog Tryd.f9 T9 = true := by kernel_rfl
def B9 (s_p0 session_p1 client_p2 scopes_p3 now_p4 : Value) (w : World) (K : Value → World → Prop) : Prop :=
  efv prog (Instr.alloc 27 true (.tuple #[])) w fun f_0 w =>
  efv prog (Instr.alloc 29 true (.tuple #[])) w fun t_1 w =>
  Calls prog 24 #[s_p0, now_p4] w (Ret fun t_2 w =>
  pvv prog (oEq .eql 30 (.tmp 17) (.const (.int .i64 1)) t_2 (.int .i64 1)) w fun t_3 w =>
  gate (some (t_3, false)) (fun K => K t_2 w) w fun t_4 w =>
  gate (some (t_3, false)) (fun K => pvv prog (oEq .eql 30 (.tmp 20) (.const (.int .i64 2)) t_4 (.int .i64 2)) w K) w fun t_5 w =>
  pv prog (oPick t_3 (.bool true) t_5) w fun t_6 w =>
  cd t_6 (
    dr w fun w =>
    bindS (vN (Instr.loadAt 27 f_0)) fun m_8 => ldv prog (Instr.loadAt 27 f_0) w fun t_7 w =>
    bindS (vN (Instr.loadAt 29 t_1)) fun m_10 => ldv prog (Instr.loadAt 29 t_1) w fun t_9 w =>
    efu prog (Instr.storeAt 27 f_0 t_7) w fun u_11 w => stay prog none m_10 t_9 w <| 
    efu prog (Instr.storeAt 29 t_1 t_9) w fun u_12 w =>
    ∃ r_13, (do loadVar 27 (← asAddr f_0)).run prog w = .ok r_13 w ∧ ∃ r_14, (do loadVar 29 (← asAddr t_1)).run prog w = .ok r_14 w ∧ K (.tuple #[r_13, r_14, t_2]) w) <|
  pvv prog (binOp .lss 3 session_p1 (.int .i64 1)) w fun t_17 w =>
  cd t_17 (
    dr w fun w =>
    bindS (vN (Instr.loadAt 27 f_0)) fun m_19 => ldv prog (Instr.loadAt 27 f_0) w fun t_18 w =>
    bindS (vN (Instr.loadAt 29 t_1)) fun m_21 => ldv prog (Instr.loadAt 29 t_1) w fun t_20 w =>
    efu prog (Instr.storeAt 27 f_0 t_18) w fun u_22 w => stay prog none m_21 t_20 w <| 
    efu prog (Instr.storeAt 29 t_1 t_20) w fun u_23 w =>
    ∃ r_24, (do loadVar 27 (← asAddr f_0)).run prog w = .ok r_24 w ∧ ∃ r_25, (do loadVar 29 (← asAddr t_1)).run prog w = .ok r_25 w ∧ K (.tuple #[r_24, r_25, (.int .i64 2)]) w) <|
  Calls prog 25 #[client_p2] w (Ret fun t_28 w =>
  pvv prog (Op.unary .not t_28) w fun t_29 w =>
  cd t_29 (
    dr w fun w =>
    bindS (vN (Instr.loadAt 27 f_0)) fun m_31 => ldv prog (Instr.loadAt 27 f_0) w fun t_30 w =>
    bindS (vN (Instr.loadAt 29 t_1)) fun m_33 => ldv prog (Instr.loadAt 29 t_1) w fun t_32 w =>
    efu prog (Instr.storeAt 27 f_0 t_30) w fun u_34 w => stay prog none m_33 t_32 w <| 
    efu prog (Instr.storeAt 29 t_1 t_32) w fun u_35 w =>
    ∃ r_36, (do loadVar 27 (← asAddr f_0)).run prog w = .ok r_36 w ∧ ∃ r_37, (do loadVar 29 (← asAddr t_1)).run prog w = .ok r_37 w ∧ K (.tuple #[r_36, r_37, (.int .i64 8)]) w) <|
  pvv prog (oEq .neq 30 (.tmp 38) (.const (.int .i64 0)) t_2 (.int .i64 0)) w fun t_40 w =>
  cd t_40 (
    dr w fun w =>
    bindS (vN (Instr.loadAt 27 f_0)) fun m_42 => ldv prog (Instr.loadAt 27 f_0) w fun t_41 w =>
    bindS (vN (Instr.loadAt 29 t_1)) fun m_44 => ldv prog (Instr.loadAt 29 t_1) w fun t_43 w =>
    efu prog (Instr.storeAt 27 f_0 t_41) w fun u_45 w => stay prog none m_44 t_43 w <| 
    efu prog (Instr.storeAt 29 t_1 t_43) w fun u_46 w =>
    ∃ r_47, (do loadVar 27 (← asAddr f_0)).run prog w = .ok r_47 w ∧ ∃ r_48, (do loadVar 29 (← asAddr t_1)).run prog w = .ok r_48 w ∧ K (.tuple #[r_47, r_48, t_2]) w) <|
  pv prog (oNil s_p0) w fun t_51 w =>
  pvv prog (Instr.fieldAt 74 t_51 0) w fun t_52 w =>
  ldv prog (Instr.loadAt 69 t_52) w fun t_53 w =>
  Calls prog 26 #[t_53] w (Ret fun t_54 w =>
  gate (some (t_54, false)) (fun K => K s_p0 w) w fun t_55 w =>
  gate (some (t_54, false)) (fun K => pv prog (oNil t_55) w K) w fun t_56 w =>
  gate (some (t_54, false)) (fun K => pvv prog (Instr.fieldAt 74 t_56 1) w K) w fun t_57 w =>
  gate (some (t_54, false)) (fun K => ldv prog (Instr.loadAt 72 t_57) w K) w fun t_58 w =>
  gate (some (t_54, false)) (fun K => Calls prog 27 #[t_58] w (Ret K)) w fun t_59 w =>
  pv prog (oPick t_54 (.bool true) t_59) w fun t_60 w =>
  cd t_60 (
    dr w fun w =>
    bindS (vN (Instr.loadAt 27 f_0)) fun m_62 => ldv prog (Instr.loadAt 27 f_0) w fun t_61 w =>
    bindS (vN (Instr.loadAt 29 t_1)) fun m_64 => ldv prog (Instr.loadAt 29 t_1) w fun t_63 w =>
    efu prog (Instr.storeAt 27 f_0 t_61) w fun u_65 w => stay prog none m_64 t_63 w <| 
    efu prog (Instr.storeAt 29 t_1 t_63) w fun u_66 w =>
    ∃ r_67, (do loadVar 27 (← asAddr f_0)).run prog w = .ok r_67 w ∧ ∃ r_68, (do loadVar 29 (← asAddr t_1)).run prog w = .ok r_68 w ∧ K (.tuple #[r_67, r_68, (.int .i64 7)]) w) <|
  Calls prog 10 #[s_p0, session_p1] w (Ret fun t_71 w =>
  pv prog (oBi .len #[33] 3 #[false] #[t_71]) w fun t_72 w =>
  pvv prog (binOp .geq 3 t_72 (.int .i64 2)) w fun t_73 w =>
  cd t_73 (
    dr w fun w =>
    bindS (vN (Instr.loadAt 27 f_0)) fun m_75 => ldv prog (Instr.loadAt 27 f_0) w fun t_74 w =>
    bindS (vN (Instr.loadAt 29 t_1)) fun m_77 => ldv prog (Instr.loadAt 29 t_1) w fun t_76 w =>
    efu prog (Instr.storeAt 27 f_0 t_74) w fun u_78 w => stay prog none m_77 t_76 w <| 
    efu prog (Instr.storeAt 29 t_1 t_76) w fun u_79 w =>
    ∃ r_80, (do loadVar 27 (← asAddr f_0)).run prog w = .ok r_80 w ∧ ∃ r_81, (do loadVar 29 (← asAddr t_1)).run prog w = .ok r_81 w ∧ K (.tuple #[r_80, r_81, (.int .i64 23)]) w) <|
  pv prog (oNil s_p0) w fun t_84 w =>
  pvv prog (Instr.fieldAt 74 t_84 0) w fun t_85 w =>
  pvv prog (Instr.fieldAt 69 t_85 0) w fun t_86 w =>
  ldv prog (Instr.loadAt 3 t_86) w fun t_87 w =>
  pvv prog (Instr.build 27 #[(0, t_87), (1, session_p1), (2, client_p2), (3, scopes_p3), (4, (.int .i64 1))]) w fun t_88 w =>
  efu prog (Instr.storeAt 27 f_0 t_88) w fun u_89 w =>
  dr w fun w =>
  pv prog (oNil s_p0) w fun t_90 w =>
  pvv prog (Instr.fieldAt 74 t_90 0) w fun t_91 w =>
  pvv prog (Instr.fieldAt 69 t_91 1) w fun t_92 w =>
  pvv prog (Instr.fieldAt 27 f_0 0) w fun t_93 w =>
  bindS (vN (Instr.loadAt 67 t_92)) fun m_95 => ldv prog (Instr.loadAt 67 t_92) w fun t_94 w =>
  bindS (vN (Instr.loadAt 3 t_93)) fun m_97 => ldv prog (Instr.loadAt 3 t_93) w fun t_96 w =>
  bindS (vN (Instr.loadAt 27 f_0)) fun m_99 => ldv prog (Instr.loadAt 27 f_0) w fun t_98 w =>
  efu prog (Instr.mapUpdate 67 t_94 t_96 t_98) w fun u_100 w =>
  pv prog (oNil s_p0) w fun t_101 w =>
  pvv prog (Instr.fieldAt 74 t_101 0) w fun t_102 w =>
  pvv prog (Instr.fieldAt 69 t_102 0) w fun t_103 w =>
  ldv prog (Instr.loadAt 3 t_103) w fun t_104 w =>
  pvv prog (binOp .add 3 t_104 (.int .i64 1)) w fun t_105 w =>
  pv prog (oNil s_p0) w fun t_106 w =>
  pvv prog (Instr.fieldAt 74 t_106 0) w fun t_107 w =>
  pvv prog (Instr.fieldAt 69 t_107 0) w fun t_108 w =>
  efu prog (Instr.storeAt 3 t_108 t_105) w fun u_109 w =>
  pv prog (oNil s_p0) w fun t_110 w =>
  pvv prog (Instr.fieldAt 74 t_110 2) w fun t_111 w =>
  efu prog (Instr.storeAt 3 t_111 now_p4) w fun u_112 w =>
  dr w fun w =>
  pvv prog (Instr.fieldAt 27 f_0 0) w fun t_113 w =>
  pvv prog (binOp .add 3 now_p4 (.int .i64 50)) w fun t_114 w =>
  bindS (vN (Instr.loadAt 27 f_0)) fun m_116 => ldv prog (Instr.loadAt 27 f_0) w fun t_115 w =>
  bindS (vN (Instr.loadAt 3 t_113)) fun m_118 => ldv prog (Instr.loadAt 3 t_113) w fun t_117 w =>
  Calls prog 28 #[s_p0, t_117, scopes_p3, t_114] w (Ret fun t_119 w => stay prog none m_116 t_115 w <| 
  efu prog (Instr.storeAt 27 f_0 t_115) w fun u_120 w =>
  efu prog (Instr.storeAt 29 t_1 t_119) w fun u_121 w =>
  ∃ r_122, (do loadVar 27 (← asAddr f_0)).run prog w = .ok r_122 w ∧ ∃ r_123, (do loadVar 29 (← asAddr t_1)).run prog w = .ok r_123 w ∧ K (.tuple #[r_122, r_123, (.int .i64 0)]) w)))))
theorem B9_eq (s_p0 session_p1 client_p2 scopes_p3 now_p4 : Value) (w : World) (K : Value → World → Prop) : denFn prog Tryd.f9 T9 [s_p0, session_p1, client_p2, scopes_p3, now_p4] w K = B9 s_p0 session_p1 client_p2 scopes_p3 now_p4 w K := by kernel_rfl
theorem c9 {s_p0 session_p1 client_p2 scopes_p3 now_p4 : Value} {w : World} {K : Value → World → Prop} (h : B9 s_p0 session_p1 client_p2 scopes_p3 now_p4 w K) : Calls prog 9 #[s_p0, session_p1, client_p2, scopes_p3, now_p4] w (Ret K) :=
  denFn_calls Tryd.func9 T9_ok (Eq.mpr (B9_eq s_p0 session_p1 client_p2 scopes_p3 now_p4 w K) h)

-- 93 unicode/utf8.decodeRuneInStringSlow
def T93 : Ann := (.seq .none (.seq .none (.seq (.seq .none (.seq (.seq .none .none) .none)) (.seq .none (.seq .none (.seq (.seq .none (.seq (.seq .none (.seq .none .none)) .none)) (.seq .none (.seq .none (.seq (.seq .none (.seq (.seq .none .none) .none)) (.seq .none (.seq (.seq .none (.seq (.seq .none .none) .none)) (.seq (.seq .none (.seq (.seq .none .none) .none)) (.seq .none (.seq (.seq .none (.seq (.seq .none .none) .none)) (.seq (.seq .none (.seq (.seq .none .none) .none)) (.seq .none (.seq (.seq .none (.seq (.seq .none .none) .none)) (.seq .none .none))))))))))))))))))
theorem T93_ok : chkFn prog Tryd.f93 T93 = true := by kernel_rfl
def B93 (s_p0 : Value) (w : World) (K : Value → World → Prop) : Prop :=
  pv prog (oBi .len #[9] 3 #[false] #[s_p0]) w fun t_0 w =>
  pvv prog (binOp .lss 3 t_0 (.int .i64 1)) w fun t_1 w =>
  cd t_1 (
    K (.tuple #[(.int .i32 65533), (.int .i64 0)]) w) <|
  pvv prog (Instr.index 9 s_p0 (.int .i64 0)) w fun t_2 w =>
  pvv prog (Instr.indexAt 148 (.pointer (some ⟨0, 0, none⟩)) t_2) w fun t_3 w =>
  ldv prog (Instr.loadAt 5 t_3) w fun t_4 w =>
  pvv prog (binOp .geq 5 t_4 (.int .u8 240)) w fun t_5 w =>
  cd t_5 (
    pvv prog (convert 5 21 t_4) w fun t_6 w =>
    pvv prog (binOp .shl 21 t_6 (.int .u64 31)) w fun t_7 w =>
    pvv prog (binOp .shr 21 t_7 (.int .u64 31)) w fun t_8 w =>
    pvv prog (Instr.index 9 s_p0 (.int .i64 0)) w fun t_9 w =>
    pvv prog (convert 5 21 t_9) w fun t_10 w =>
    pvv prog (binOp .andNot 21 t_10 t_8) w fun t_11 w =>
    pvv prog (binOp .and 21 (.int .i32 65533) t_8) w fun t_12 w =>
    pvv prog (binOp .or 21 t_11 t_12) w fun t_13 w =>
    K (.tuple #[t_13, (.int .i64 1)]) w) <|
  pvv prog (binOp .and 5 t_4 (.int .u8 7)) w fun t_14 w =>
  pvv prog (convert 5 3 t_14) w fun t_15 w =>
  pvv prog (binOp .shr 5 t_4 (.int .u64 4)) w fun t_16 w =>
  pvv prog (Instr.indexAt 151 (.pointer (some ⟨1, 0, none⟩)) t_16) w fun t_17 w =>
  ldv prog (Instr.loadAt 150 t_17) w fun t_18 w =>
  efv prog (Instr.alloc 150 true (.tuple #[])) w fun accept_19 w =>
  efu prog (Instr.storeAt 150 accept_19 t_18) w fun u_20 w =>
  pvv prog (binOp .lss 3 t_0 t_15) w fun t_21 w =>
  cd t_21 (
    K (.tuple #[(.int .i32 65533), (.int .i64 1)]) w) <|
  pvv prog (Instr.index 9 s_p0 (.int .i64 1)) w fun t_22 w =>
  pvv prog (Instr.fieldAt 150 accept_19 0) w fun t_23 w =>
  ldv prog (Instr.loadAt 5 t_23) w fun t_24 w =>
  pvv prog (binOp .lss 5 t_22 t_24) w fun t_25 w =>
  gate (some (t_25, false)) (fun K => pvv prog (Instr.fieldAt 150 accept_19 1) w K) w fun t_26 w =>
  gate (some (t_25, false)) (fun K => ldv prog (Instr.loadAt 5 t_26) w K) w fun t_27 w =>
  gate (some (t_25, false)) (fun K => K t_22 w) w fun t_28 w =>
  gate (some (t_25, false)) (fun K => pvv prog (binOp .lss 5 t_27 t_28) w K) w fun t_29 w =>
  pv prog (oPick t_25 (.bool true) t_29) w fun t_30 w =>
  cd t_30 (
    K (.tuple #[(.int .i32 65533), (.int .i64 1)]) w) <|
  pvv prog (binOp .leq 3 t_15 (.int .i64 2)) w fun t_31 w =>
  cd t_31 (
    pvv prog (binOp .and 5 t_2 (.int .u8 31)) w fun t_32 w =>
    pvv prog (convert 5 21 t_32) w fun t_33 w =>
    pvv prog (binOp .shl 21 t_33 (.int .u64 6)) w fun t_34 w =>
    pvv prog (binOp .and 5 t_22 (.int .u8 63)) w fun t_35 w =>
    pvv prog (convert 5 21 t_35) w fun t_36 w =>
    pvv prog (binOp .or 21 t_34 t_36) w fun t_37 w =>
    K (.tuple #[t_37, (.int .i64 2)]) w) <|
  pvv prog (Instr.index 9 s_p0 (.int .i64 2)) w fun t_38 w =>
  pvv prog (binOp .lss 5 t_38 (.int .u8 128)) w fun t_39 w =>
  gate (some (t_39, false)) (fun K => K t_38 w) w fun t_40 w =>
  gate (some (t_39, false)) (fun K => pvv prog (binOp .lss 5 (.int .u8 191) t_40) w K) w fun t_41 w =>
  pv prog (oPick t_39 (.bool true) t_41) w fun t_42 w =>
  cd t_42 (
    K (.tuple #[(.int .i32 65533), (.int .i64 1)]) w) <|
  pvv prog (binOp .leq 3 t_15 (.int .i64 3)) w fun t_43 w =>
  cd t_43 (
    pvv prog (binOp .and 5 t_2 (.int .u8 15)) w fun t_44 w =>
    pvv prog (convert 5 21 t_44) w fun t_45 w =>
    pvv prog (binOp .shl 21 t_45 (.int .u64 12)) w fun t_46 w =>
    pvv prog (binOp .and 5 t_22 (.int .u8 63)) w fun t_47 w =>
    pvv prog (convert 5 21 t_47) w fun t_48 w =>
    pvv prog (binOp .shl 21 t_48 (.int .u64 6)) w fun t_49 w =>
    pvv prog (binOp .or 21 t_46 t_49) w fun t_50 w =>
    pvv prog (binOp .and 5 t_38 (.int .u8 63)) w fun t_51 w =>
    pvv prog (convert 5 21 t_51) w fun t_52 w =>
    pvv prog (binOp .or 21 t_50 t_52) w fun t_53 w =>
    K (.tuple #[t_53, (.int .i64 3)]) w) <|
  pvv prog (Instr.index 9 s_p0 (.int .i64 3)) w fun t_54 w =>
  pvv prog (binOp .lss 5 t_54 (.int .u8 128)) w fun t_55 w =>
  gate (some (t_55, false)) (fun K => K t_54 w) w fun t_56 w =>
  gate (some (t_55, false)) (fun K => pvv prog (binOp .lss 5 (.int .u8 191) t_56) w K) w fun t_57 w =>
  pv prog (oPick t_55 (.bool true) t_57) w fun t_58 w =>
  cd t_58 (
    K (.tuple #[(.int .i32 65533), (.int .i64 1)]) w) <|
  pvv prog (binOp .and 5 t_2 (.int .u8 7)) w fun t_59 w =>
  pvv prog (convert 5 21 t_59) w fun t_60 w =>
  pvv prog (binOp .shl 21 t_60 (.int .u64 18)) w fun t_61 w =>
  pvv prog (binOp .and 5 t_22 (.int .u8 63)) w fun t_62 w =>
  pvv prog (convert 5 21 t_62) w fun t_63 w =>
  pvv prog (binOp .shl 21 t_63 (.int .u64 12)) w fun t_64 w =>
  pvv prog (binOp .or 21 t_61 t_64) w fun t_65 w =>
  pvv prog (binOp .and 5 t_38 (.int .u8 63)) w fun t_66 w =>
  pvv prog (convert 5 21 t_66) w fun t_67 w =>
  pvv prog (binOp .shl 21 t_67 (.int .u64 6)) w fun t_68 w =>
  pvv prog (binOp .or 21 t_65 t_68) w fun t_69 w =>
  pvv prog (binOp .and 5 t_54 (.int .u8 63)) w fun t_70 w =>
  pvv prog (convert 5 21 t_70) w fun t_71 w =>
  pvv prog (binOp .or 21 t_69 t_71) w fun t_72 w =>
  K (.tuple #[t_72, (.int .i64 4)]) w
theorem B93_eq (s_p0 : Value) (w : World) (K : Value → World → Prop) : denFn prog Tryd.f93 T93 [s_p0] w K = B93 s_p0 w K := by kernel_rfl
theorem c93 {s_p0 : Value} {w : World} {K : Value → World → Prop} (h : B93 s_p0 w K) : Calls prog 93 #[s_p0] w (Ret K) :=
  denFn_calls Tryd.func93 T93_ok (Eq.mpr (B93_eq s_p0 w K) h)

-- 111 slices.siftDownOrdered[int]
def T111 : Ann := (.seq .none (.block (.loop 75557863725914323417856 [8] (.block (.seq .none (.seq (.seq .none (.seq .none .none)) (.meet 549755683328 [9] (.seq (.draw [.op 0 .pure, .op 1 .pure, .op 2 .pure, .op 3 .pure, .op 4 .pure, .op 5 .pure, .op 6 .pure, .op 7 .pure, .op 8 .pure, .op 9 .pure, .op 11 .pure, .op 12 .pure, .op 13 .pure, .op 14 .pure, .op 15 .pure, .op 16 .pure, .op 10 .load, .op 17 .load, .op 18 .eff, .op 19 .pure]) (.seq .none .none)) (.seq (.seq (.draw [.op 0 .pure, .op 1 .pure, .op 2 .pure, .op 3 .pure, .op 4 .pure, .op 6 .pure, .op 7 .pure, .op 8 .pure, .op 9 .pure, .op 10 .pure, .op 5 .load, .op 11 .load, .op 12 .eff, .op 13 .pure]) (.seq .none .none)) (.seq (.draw [.op 0 .pure, .op 1 .pure, .op 2 .pure, .op 3 .pure, .op 4 .pure, .op 5 .pure, .op 6 .pure, .op 7 .pure, .op 8 .pure, .op 9 .pure, .op 10 .pure, .op 11 .pure, .op 12 .pure, .op 14 .pure, .op 15 .pure, .op 16 .pure, .op 17 .pure, .op 18 .pure, .op 13 .load, .op 19 .load, .op 20 .pure, .op 21 .eff, .op 22 .pure, .op 23 .eff]) .none)))))))))
theorem T111_ok : chkFn prog Tryd.f111 T111 = true := by kernel_rfl
def B111 (data_p0 lo_p1 hi_p2 first_p3 : Value) (w : World) (K : Value → World → Prop) : Prop :=
  lp (fun σ w again_1 => pop σ fun root_0 σ => fin σ <|
    pvv prog (binOp .mul 3 (.int .i64 2) root_0) w fun t_2 w =>
    pvv prog (binOp .add 3 t_2 (.int .i64 1)) w fun t_3 w =>
    pvv prog (binOp .geq 3 t_3 hi_p2) w fun t_4 w =>
    cd t_4 (
      K (.tuple #[]) w) <|
    jn (fun σ w => pop σ fun child_5 σ => fin σ <|
      dr w fun w =>
      pvv prog (binOp .add 3 first_p3 root_0) w fun t_6 w =>
      pvv prog (Instr.indexAt 41 data_p0 t_6) w fun t_7 w =>
      pvv prog (binOp .add 3 first_p3 child_5) w fun t_8 w =>
      pvv prog (Instr.indexAt 41 data_p0 t_8) w fun t_9 w =>
      bindS (vN (Instr.loadAt 3 t_7)) fun m_11 => ldv prog (Instr.loadAt 3 t_7) w fun t_10 w =>
      bindS (vN (Instr.loadAt 3 t_9)) fun m_13 => ldv prog (Instr.loadAt 3 t_9) w fun t_12 w =>
      Calls prog 102 #[t_10, t_12] w (Ret fun t_14 w =>
      pvv prog (Op.unary .not t_14) w fun t_15 w =>
      cd t_15 (
        K (.tuple #[]) w) <|
      dr w fun w =>
      pvv prog (binOp .add 3 first_p3 root_0) w fun t_16 w =>
      pvv prog (binOp .add 3 first_p3 child_5) w fun t_17 w =>
      pvv prog (binOp .add 3 first_p3 child_5) w fun t_18 w =>
      pvv prog (Instr.indexAt 41 data_p0 t_18) w fun t_19 w =>
      pvv prog (binOp .add 3 first_p3 root_0) w fun t_20 w =>
      pvv prog (Instr.indexAt 41 data_p0 t_20) w fun t_21 w =>
      bindS (vN (Instr.loadAt 3 t_19)) fun m_23 => ldv prog (Instr.loadAt 3 t_19) w fun t_22 w =>
      bindS (vN (Instr.loadAt 3 t_21)) fun m_25 => ldv prog (Instr.loadAt 3 t_21) w fun t_24 w =>
      pvv prog (Instr.indexAt 41 data_p0 t_16) w fun t_26 w =>
      efu prog (Instr.storeAt 3 t_26 t_22) w fun u_27 w =>
      pvv prog (Instr.indexAt 41 data_p0 t_17) w fun t_28 w =>
      efu prog (Instr.storeAt 3 t_28 t_24) w fun u_29 w =>
      again_1 [child_5] w)) fun k_33 =>
    dr w fun w =>
    pvv prog (binOp .add 3 t_3 (.int .i64 1)) w fun t_34 w =>
    pvv prog (binOp .lss 3 t_34 hi_p2) w fun t_35 w =>
    gate (some (t_35, true)) (fun K => K data_p0 w) w fun t_36 w =>
    gate (some (t_35, true)) (fun K => K first_p3 w) w fun t_37 w =>
    gate (some (t_35, true)) (fun K => K t_3 w) w fun t_38 w =>
    gate (some (t_35, true)) (fun K => pvv prog (binOp .add 3 t_37 t_38) w K) w fun t_39 w =>
    gate (some (t_35, true)) (fun K => pvv prog (Instr.indexAt 41 t_36 t_39) w K) w fun t_40 w =>
    gate (some (t_35, true)) (fun K => K data_p0 w) w fun t_41 w =>
    gate (some (t_35, true)) (fun K => K first_p3 w) w fun t_42 w =>
    gate (some (t_35, true)) (fun K => K t_3 w) w fun t_43 w =>
    gate (some (t_35, true)) (fun K => pvv prog (binOp .add 3 t_42 t_43) w K) w fun t_44 w =>
    gate (some (t_35, true)) (fun K => pvv prog (binOp .add 3 t_44 (.int .i64 1)) w K) w fun t_45 w =>
    gate (some (t_35, true)) (fun K => pvv prog (Instr.indexAt 41 t_41 t_45) w K) w fun t_46 w =>
    bindS (vN (Instr.loadAt 3 t_40)) fun m_48 => gate (some (t_35, true)) (fun K => ldv prog (Instr.loadAt 3 t_40) w K) w fun t_47 w =>
    bindS (vN (Instr.loadAt 3 t_46)) fun m_50 => gate (some (t_35, true)) (fun K => ldv prog (Instr.loadAt 3 t_46) w K) w fun t_49 w =>
    gate (some (t_35, true)) (fun K => Calls prog 102 #[t_47, t_49] w (Ret fun s_54 w => K s_54 w)) w fun t_51 w =>
    pv prog (oPick t_35 t_51 (.bool false)) w fun t_52 w =>
    cd t_52 (
      pvv prog (binOp .add 3 t_3 (.int .i64 1)) w fun t_53 w =>
      k_33 [t_53] w) <|
    k_33 [t_3] w) [lo_p1] w
theorem B111_eq (data_p0 lo_p1 hi_p2 first_p3 : Value) (w : World) (K : Value → World → Prop) : denFn prog Tryd.f111 T111 [data_p0, lo_p1, hi_p2, first_p3] w K = B111 data_p0 lo_p1 hi_p2 first_p3 w K := by kernel_rfl
theorem c111 {data_p0 lo_p1 hi_p2 first_p3 : Value} {w : World} {K : Value → World → Prop} (h : B111 data_p0 lo_p1 hi_p2 first_p3 w K) : Calls prog 111 #[data_p0, lo_p1, hi_p2, first_p3] w (Ret K) :=
  denFn_calls Tryd.func111 T111_ok (Eq.mpr (B111_eq data_p0 lo_p1 hi_p2 first_p3 w K) h)

-- 4 holdfast/holdfastlaw12.TokenLasts
def T4 : Ann := (.seq .none (.seq .none (.seq (.seq .none (.seq (.seq .none .none) .none)) (.seq (.seq .none (.block (.loop 137437905408 [9] (.seq (.seq .none (.seq .none .none)) (.seq (.block .none) .none))))) (.seq .none (.seq (.seq .none (.seq (.seq .none .none) .none)) (.seq .none (.seq .none (.seq .none .none)))))))))
theorem T4_ok : chkFn prog Tryd.f4 T4 = true := by kernel_rfl
def B4 (l_p0 id_p1 now_p2 : Value) (w : World) (K : Value → World → Prop) : Prop :=
  Calls prog 7 #[] w (Ret fun t_0 w =>
  Calls prog 12 #[] w (Ret fun t_1 w =>
  Calls prog 8 #[] w (Ret fun t_2 w =>
  pvv prog (Op.unary .not t_2) w fun t_3 w =>
  cd t_3 (
    K (.bool false) w) <|
  lp (fun σ w again_5 => pop σ fun i_4 σ => fin σ <|
    pv prog (oBi .len #[37] 3 #[false] #[l_p0]) w fun t_6 w =>
    pvv prog (binOp .lss 3 i_4 t_6) w fun t_7 w =>
    gate (some (t_7, true)) (fun K => K i_4 w) w fun t_8 w =>
    gate (some (t_7, true)) (fun K => pvv prog (binOp .lss 3 t_8 (.int .i64 60)) w K) w fun t_9 w =>
    pv prog (oPick t_7 t_9 (.bool false)) w fun t_10 w =>
    cd t_10 (
      pvv prog (Instr.indexAt 37 l_p0 i_4) w fun t_11 w =>
      ldv prog (Instr.loadAt 43 t_11) w fun t_12 w =>
      Calls prog 13 #[t_0, t_1, t_12] w (Ret fun t_13 w =>
      pvv prog (binOp .add 3 i_4 (.int .i64 1)) w fun t_14 w =>
      again_5 [t_14] w)) <|
    Calls prog 14 #[t_0, id_p1, now_p2] w (Ret fun t_15 w =>
    pvv prog (Instr.extract t_15 0) w fun t_16 w =>
    pvv prog (Instr.extract t_15 1) w fun t_17 w =>
    efv prog (Instr.alloc 29 true (.tuple #[])) w fun t_18 w =>
    efu prog (Instr.storeAt 29 t_18 t_16) w fun u_19 w =>
    pvv prog (oEq .neq 30 (.tmp 44) (.const (.int .i64 0)) t_17 (.int .i64 0)) w fun t_20 w =>
    cd t_20 (
      ldv prog (Instr.loadAt 29 t_18) w fun t_21 w =>
      pvv prog (Instr.build 29 #[]) w fun t_22 w =>
      pvv prog (oEq .eql 29 (.tmp 46) (.tmp 47) t_21 t_22) w fun t_23 w =>
      K t_23 w) <|
    pvv prog (Instr.fieldAt 29 t_18 3) w fun t_24 w =>
    ldv prog (Instr.loadAt 3 t_24) w fun t_25 w =>
    pvv prog (binOp .sub 3 t_25 (.int .i64 1)) w fun t_26 w =>
    Calls prog 14 #[t_0, id_p1, t_26] w (Ret fun t_27 w =>
    pvv prog (Instr.extract t_27 0) w fun t_28 w =>
    pvv prog (Instr.extract t_27 1) w fun t_29 w =>
    efv prog (Instr.alloc 29 true (.tuple #[])) w fun t_30 w =>
    efu prog (Instr.storeAt 29 t_30 t_28) w fun u_31 w =>
    pvv prog (Instr.fieldAt 29 t_18 3) w fun t_32 w =>
    ldv prog (Instr.loadAt 3 t_32) w fun t_33 w =>
    Calls prog 14 #[t_0, id_p1, t_33] w (Ret fun t_34 w =>
    pvv prog (Instr.extract t_34 0) w fun t_35 w =>
    pvv prog (Instr.extract t_34 1) w fun t_36 w =>
    efv prog (Instr.alloc 29 true (.tuple #[])) w fun t_37 w =>
    efu prog (Instr.storeAt 29 t_37 t_35) w fun u_38 w =>
    pvv prog (oEq .eql 30 (.tmp 66) (.const (.int .i64 0)) t_29 (.int .i64 0)) w fun t_39 w =>
    gate (some (t_39, false)) (fun K => pvv prog (Instr.fieldAt 29 t_18 3) w K) w fun t_40 w =>
    gate (some (t_39, false)) (fun K => ldv prog (Instr.loadAt 3 t_40) w K) w fun t_41 w =>
    gate (some (t_39, false)) (fun K => pvv prog (binOp .sub 3 t_41 (.int .i64 1)) w K) w fun t_42 w =>
    gate (some (t_39, false)) (fun K => K now_p2 w) w fun t_43 w =>
    gate (some (t_39, false)) (fun K => pvv prog (binOp .lss 3 t_42 t_43) w K) w fun t_44 w =>
    gate (some (t_39, false)) (fun K => K t_44 w) w fun t_45 w =>
    gate (some (t_45, true)) (fun K => K t_29 w) w fun t_46 w =>
    gate (some (t_45, true)) (fun K => pvv prog (oEq .eql 30 (.tmp 75) (.const (.int .i64 9)) t_46 (.int .i64 9)) w K) w fun t_47 w =>
    gate (some (t_39, false)) (fun K => pv prog (oPick t_45 t_47 (.bool false)) w K) w fun t_48 w =>
    pv prog (oPick t_39 (.bool true) t_48) w fun t_49 w =>
    gate (some (t_49, true)) (fun K => K t_36 w) w fun t_50 w =>
    gate (some (t_49, true)) (fun K => pvv prog (oEq .eql 30 (.tmp 80) (.const (.int .i64 12)) t_50 (.int .i64 12)) w K) w fun t_51 w =>
    pv prog (oPick t_49 t_51 (.bool false)) w fun t_52 w =>
    K t_52 w)))) [(.int .i64 0)] w)))
theorem B4_eq (l_p0 id_p1 now_p2 : Value) (w : World) (K : Value → World → Prop) : denFn prog Tryd.f4 T4 [l_p0, id_p1, now_p2] w K = B4 l_p0 id_p1 now_p2 w K := by kernel_rfl
theorem c4 {l_p0 id_p1 now_p2 : Value} {w : World} {K : Value → World → Prop} (h : B4 l_p0 id_p1 now_p2 w K) : Calls prog 4 #[l_p0, id_p1, now_p2] w (Ret K) :=
  denFn_calls Tryd.func4 T4_ok (Eq.mpr (B4_eq l_p0 id_p1 now_p2 w K) h)

-- 98 slices.breakPatternsOrdered[int]
def T98 : Ann := (.seq .none (.seq .none (.seq (.seq .none (.seq .none (.seq .none (.block (.loop 36893488147351995904 [9] (.seq (.seq .none (.seq .none .none)) (.seq (.block (.seq .none (.meet 138538465100800 [10] (.seq .none (.seq .none .none)) (.draw [.op 0 .pure, .op 1 .pure, .op 2 .pure, .op 3 .pure, .op 4 .pure, .op 5 .pure, .op 6 .pure, .op 7 .pure, .op 8 .pure, .op 9 .pure, .op 10 .pure, .op 12 .pure, .op 13 .pure, .op 14 .pure, .op 11 .load, .op 15 .load, .op 16 .pure, .op 17 .eff, .op 18 .pure, .op 19 .eff])))) .none))))))) .none)))
theorem T98_ok : chkFn prog Tryd.f98 T98 = true := by kernel_rfl
def B98 (data_p0 a_p1 b_p2 : Value) (w : World) (K : Value → World → Prop) : Prop :=
  pvv prog (binOp .sub 3 b_p2 a_p1) w fun t_0 w =>
  pvv prog (binOp .geq 3 t_0 (.int .i64 8)) w fun t_1 w =>
  cd t_1 (
    pvv prog (convert 3 156 t_0) w fun t_2 w =>
    efv prog (Instr.alloc 156 true (.tuple #[])) w fun random_3 w =>
    efu prog (Instr.storeAt 156 random_3 t_2) w fun u_4 w =>
    Calls prog 112 #[t_0] w (Ret fun t_5 w =>
    pvv prog (binOp .quo 3 t_0 (.int .i64 4)) w fun t_6 w =>
    pvv prog (binOp .mul 3 t_6 (.int .i64 2)) w fun t_7 w =>
    pvv prog (binOp .add 3 a_p1 t_7) w fun t_8 w =>
    pvv prog (binOp .sub 3 t_8 (.int .i64 1)) w fun t_9 w =>
    lp (fun σ w again_11 => pop σ fun idx_10 σ => fin σ <|
      pvv prog (binOp .quo 3 t_0 (.int .i64 4)) w fun t_12 w =>
      pvv prog (binOp .mul 3 t_12 (.int .i64 2)) w fun t_13 w =>
      pvv prog (binOp .add 3 a_p1 t_13) w fun t_14 w =>
      pvv prog (binOp .add 3 t_14 (.int .i64 1)) w fun t_15 w =>
      pvv prog (binOp .leq 3 idx_10 t_15) w fun t_16 w =>
      cd t_16 (
        Calls prog 113 #[random_3] w (Ret fun t_17 w =>
        pvv prog (binOp .sub 133 t_5 (.int .u64 1)) w fun t_18 w =>
        pvv prog (binOp .and 133 t_17 t_18) w fun t_19 w =>
        pvv prog (convert 133 3 t_19) w fun t_20 w =>
        jn (fun σ w => pop σ fun other_21 σ => fin σ <|
          dr w fun w =>
          pvv prog (binOp .add 3 a_p1 other_21) w fun t_22 w =>
          pvv prog (binOp .add 3 a_p1 other_21) w fun t_23 w =>
          pvv prog (Instr.indexAt 41 data_p0 t_23) w fun t_24 w =>
          pvv prog (Instr.indexAt 41 data_p0 idx_10) w fun t_25 w =>
          bindS (vN (Instr.loadAt 3 t_24)) fun m_27 => ldv prog (Instr.loadAt 3 t_24) w fun t_26 w =>
          bindS (vN (Instr.loadAt 3 t_25)) fun m_29 => ldv prog (Instr.loadAt 3 t_25) w fun t_28 w =>
          pvv prog (Instr.indexAt 41 data_p0 idx_10) w fun t_30 w =>
          efu prog (Instr.storeAt 3 t_30 t_26) w fun u_31 w =>
          pvv prog (Instr.indexAt 41 data_p0 t_22) w fun t_32 w =>
          efu prog (Instr.storeAt 3 t_32 t_28) w fun u_33 w =>
          pvv prog (binOp .add 3 idx_10 (.int .i64 1)) w fun t_34 w =>
          again_11 [t_34] w) fun k_37 =>
        pvv prog (binOp .geq 3 t_20 t_0) w fun t_38 w =>
        cd t_38 (
          pvv prog (binOp .sub 3 t_20 t_0) w fun t_39 w =>
          k_37 [t_39] w) <|
        k_37 [t_20] w)) <|
      K (.tuple #[]) w) [t_9] w)) <|
  K (.tuple #[]) w
theorem B98_eq (data_p0 a_p1 b_p2 : Value) (w : World) (K : Value → World → Prop) : denFn prog Tryd.f98 T98 [data_p0, a_p1, b_p2] w K = B98 data_p0 a_p1 b_p2 w K := by kernel_rfl
theorem c98 {data_p0 a_p1 b_p2 : Value} {w : World} {K : Value → World → Prop} (h : B98 data_p0 a_p1 b_p2 w K) : Calls prog 98 #[data_p0, a_p1, b_p2] w (Ret K) :=
  denFn_calls Tryd.func98 T98_ok (Eq.mpr (B98_eq data_p0 a_p1 b_p2 w K) h)

-- 89 unicode/utf8.DecodeLastRuneInString
def T89 : Ann := (.seq .none (.seq .none (.seq (.seq .none (.seq (.seq .none .none) .none)) (.seq .none (.seq .none (.seq (.seq .none (.seq (.seq .none .none) .none)) (.seq .none (.meet 17171480608 [5] (.seq .none (.block (.loop 17146314784 [5] (.seq (.seq .none (.seq .none .none)) (.seq (.block (.seq .none (.seq .none .none))) .none))))) (.meet 51539607584 [5] (.seq .none (.seq .none .none)) (.seq .none (.seq (.seq .none (.seq (.seq .none .none) .none)) (.seq .none .none))))))))))))
theorem T89_ok : chkFn prog Tryd.f89 T89 = true := by kernel_rfl
def B89 (s_p0 : Value) (w : World) (K : Value → World → Prop) : Prop :=
  pv prog (oBi .len #[9] 3 #[false] #[s_p0]) w fun t_0 w =>
  pvv prog (oEq .eql 3 (.tmp 9) (.const (.int .i64 0)) t_0 (.int .i64 0)) w fun t_1 w =>
  cd t_1 (
    K (.tuple #[(.int .i32 65533), (.int .i64 0)]) w) <|
  pvv prog (binOp .sub 3 t_0 (.int .i64 1)) w fun t_2 w =>
  pvv prog (Instr.index 9 s_p0 t_2) w fun t_3 w =>
  pvv prog (convert 5 21 t_3) w fun t_4 w =>
  pvv prog (binOp .lss 21 t_4 (.int .i32 128)) w fun t_5 w =>
  cd t_5 (
    K (.tuple #[t_4, (.int .i64 1)]) w) <|
  pvv prog (binOp .sub 3 t_0 (.int .i64 4)) w fun t_6 w =>
  pv prog (oBi .max #[3, 3] 3 #[false, true] #[t_6, (.int .i64 0)]) w fun t_7 w =>
  jn (fun σ w => pop σ fun start_8 σ => fin σ <|
    jn (fun σ w => pop σ fun start_9 σ => fin σ <|
      pvv prog (Instr.sliceAt 9 s_p0 (some start_9) (some t_0) none) w fun t_10 w =>
      Calls prog 87 #[t_10] w (Ret fun t_11 w =>
      pvv prog (Instr.extract t_11 0) w fun t_12 w =>
      pvv prog (Instr.extract t_11 1) w fun t_13 w =>
      pvv prog (binOp .add 3 start_9 t_13) w fun t_14 w =>
      pvv prog (oEq .neq 3 (.tmp 46) (.tmp 47) t_14 t_0) w fun t_15 w =>
      cd t_15 (
        K (.tuple #[(.int .i32 65533), (.int .i64 1)]) w) <|
      K (.tuple #[t_12, t_13]) w)) fun k_16 =>
    pvv prog (binOp .lss 3 start_8 (.int .i64 0)) w fun t_17 w =>
    cd t_17 (
      k_16 [(.int .i64 0)] w) <|
    k_16 [start_8] w) fun k_18 =>
  pvv prog (binOp .sub 3 t_2 (.int .i64 1)) w fun t_19 w =>
  lp (fun σ w again_21 => pop σ fun start_20 σ => fin σ <|
    pvv prog (binOp .geq 3 start_20 t_7) w fun t_22 w =>
    cd t_22 (
      pvv prog (Instr.index 9 s_p0 start_20) w fun t_23 w =>
      Calls prog 95 #[t_23] w (Ret fun t_24 w =>
      cd t_24 (
        k_18 [start_20] w) <|
      pvv prog (binOp .sub 3 start_20 (.int .i64 1)) w fun t_25 w =>
      again_21 [t_25] w)) <|
    k_18 [start_20] w) [t_19] w
theorem B89_eq (s_p0 : Value) (w : World) (K : Value → World → Prop) : denFn prog Tryd.f89 T89 [s_p0] w K = B89 s_p0 w K := by kernel_rfl
theorem c89 {s_p0 : Value} {w : World} {K : Value → World → Prop} (h : B89 s_p0 w K) : Calls prog 89 #[s_p0] w (Ret K) :=
  denFn_calls Tryd.func89 T89_ok (Eq.mpr (B89_eq s_p0 w K) h)

-- 106 math/bits.Len64
def T106 : Ann := (.seq .none (.meet 125 [0, 2] (.seq .none (.seq (.seq .none .none) .none)) (.meet 8069 [0, 2] (.seq .none (.seq (.seq .none .none) .none)) (.meet 516101 [0, 2] (.seq .none (.seq (.seq .none .none) .none)) (.seq .none .none)))))
theorem T106_ok : chkFn prog Tryd.f106 T106 = true := by kernel_rfl
def B106 (x_p0 : Value) (w : World) (K : Value → World → Prop) : Prop :=
  jn (fun σ w => pop σ fun x_0 σ => pop σ fun n_1 σ => fin σ <|
    jn (fun σ w => pop σ fun x_2 σ => pop σ fun n_3 σ => fin σ <|
      jn (fun σ w => pop σ fun x_4 σ => pop σ fun n_5 σ => fin σ <|
        pvv prog (convert 147 5 x_4) w fun t_6 w =>
        pvv prog (Instr.index 9 (.string ⟨#[0, 1, 2, 2, 3, 3, 3, 3, 4, 4, 4, 4, 4, 4, 4, 4, 5, 5, 5, 5, 5, 5, 5, 5, 5, 5, 5, 5, 5, 5, 5, 5, 6, 6, 6, 6, 6, 6, 6, 6, 6, 6, 6, 6, 6, 6, 6, 6, 6, 6, 6, 6, 6, 6, 6, 6, 6, 6, 6, 6, 6, 6, 6, 6, 7, 7, 7, 7, 7, 7, 7, 7, 7, 7, 7, 7, 7, 7, 7, 7, 7, 7, 7, 7, 7, 7, 7, 7, 7, 7, 7, 7, 7, 7, 7, 7, 7, 7, 7, 7, 7, 7, 7, 7, 7, 7, 7, 7, 7, 7, 7, 7, 7, 7, 7, 7, 7, 7, 7, 7, 7, 7, 7, 7, 7, 7, 7, 7, 8, 8, 8, 8, 8, 8, 8, 8, 8, 8, 8, 8, 8, 8, 8, 8, 8, 8, 8, 8, 8, 8, 8, 8, 8, 8, 8, 8, 8, 8, 8, 8, 8, 8, 8, 8, 8, 8, 8, 8, 8, 8, 8, 8, 8, 8, 8, 8, 8, 8, 8, 8, 8, 8, 8, 8, 8, 8, 8, 8, 8, 8, 8, 8, 8, 8, 8, 8, 8, 8, 8, 8, 8, 8, 8, 8, 8, 8, 8, 8, 8, 8, 8, 8, 8, 8, 8, 8, 8, 8, 8, 8, 8, 8, 8, 8, 8, 8, 8, 8, 8, 8, 8, 8, 8, 8, 8, 8, 8, 8, 8, 8, 8, 8, 8, 8, 8, 8, 8, 8, 8, 8, 8, 8, 8, 8, 8, 8]⟩) t_6) w fun t_7 w =>
        pvv prog (convert 5 3 t_7) w fun t_8 w =>
        pvv prog (binOp .add 3 n_5 t_8) w fun t_9 w =>
        K t_9 w) fun k_10 =>
      pvv prog (binOp .geq 147 x_2 (.int .u64 256)) w fun t_11 w =>
      cd t_11 (
        pvv prog (binOp .shr 147 x_2 (.int .u64 8)) w fun t_12 w =>
        pvv prog (binOp .add 3 n_3 (.int .i64 8)) w fun t_13 w =>
        k_10 [t_12, t_13] w) <|
      k_10 [x_2, n_3] w) fun k_14 =>
    pvv prog (binOp .geq 147 x_0 (.int .u64 65536)) w fun t_15 w =>
    cd t_15 (
      pvv prog (binOp .shr 147 x_0 (.int .u64 16)) w fun t_16 w =>
      pvv prog (binOp .add 3 n_1 (.int .i64 16)) w fun t_17 w =>
      k_14 [t_16, t_17] w) <|
    k_14 [x_0, n_1] w) fun k_18 =>
  pvv prog (binOp .geq 147 x_p0 (.int .u64 4294967296)) w fun t_19 w =>
  cd t_19 (
    pvv prog (binOp .shr 147 x_p0 (.int .u64 32)) w fun t_20 w =>
    k_18 [t_20, (.int .i64 32)] w) <|
  k_18 [x_p0, (.int .i64 0)] w
theorem B106_eq (x_p0 : Value) (w : World) (K : Value → World → Prop) : denFn prog Tryd.f106 T106 [x_p0] w K = B106 x_p0 w K := by kernel_rfl
theorem c106 {x_p0 : Value} {w : World} {K : Value → World → Prop} (h : B106 x_p0 w K) : Calls prog 106 #[x_p0] w (Ret K) :=
  denFn_calls Tryd.func106 T106_ok (Eq.mpr (B106_eq x_p0 w K) h)

-- 113 (*slices.xorshift).Next
def T113 : Ann := (.seq .none (.seq (.draw [.op 0 .pure, .op 1 .pure, .op 3 .pure, .op 4 .pure, .op 2 .load, .op 5 .load, .op 6 .pure, .op 7 .pure, .op 8 .pure, .op 9 .eff]) (.seq (.draw [.op 0 .pure, .op 1 .pure, .op 3 .pure, .op 4 .pure, .op 2 .load, .op 5 .load, .op 6 .pure, .op 7 .pure, .op 8 .pure, .op 9 .eff]) (.seq (.draw [.op 0 .pure, .op 1 .pure, .op 3 .pure, .op 4 .pure, .op 2 .load, .op 5 .load, .op 6 .pure, .op 7 .pure, .op 8 .pure, .op 9 .eff]) (.seq .none .none)))))
theorem T113_ok : chkFn prog Tryd.f113 T113 = true := by kernel_rfl
def B113 (r_p0 : Value) (w : World) (K : Value → World → Prop) : Prop :=
  dr w fun w =>
  pv prog (oNil r_p0) w fun t_0 w =>
  pv prog (oNil r_p0) w fun t_1 w =>
  bindS (vN (Instr.loadAt 156 t_0)) fun m_3 => ldv prog (Instr.loadAt 156 t_0) w fun t_2 w =>
  bindS (vN (Instr.loadAt 156 t_1)) fun m_5 => ldv prog (Instr.loadAt 156 t_1) w fun t_4 w =>
  pvv prog (binOp .shl 156 t_4 (.int .u64 13)) w fun t_6 w =>
  pvv prog (binOp .xor 156 t_2 t_6) w fun t_7 w =>
  pv prog (oNil r_p0) w fun t_8 w =>
  efu prog (Instr.storeAt 156 t_8 t_7) w fun u_9 w =>
  dr w fun w =>
  pv prog (oNil r_p0) w fun t_10 w =>
  pv prog (oNil r_p0) w fun t_11 w =>
  bindS (vN (Instr.loadAt 156 t_10)) fun m_13 => ldv prog (Instr.loadAt 156 t_10) w fun t_12 w =>
  bindS (vN (Instr.loadAt 156 t_11)) fun m_15 => ldv prog (Instr.loadAt 156 t_11) w fun t_14 w =>
  pvv prog (binOp .shr 156 t_14 (.int .u64 7)) w fun t_16 w =>
  pvv prog (binOp .xor 156 t_12 t_16) w fun t_17 w =>
  pv prog (oNil r_p0) w fun t_18 w =>
  efu prog (Instr.storeAt 156 t_18 t_17) w fun u_19 w =>
  dr w fun w =>
  pv prog (oNil r_p0) w fun t_20 w =>
  pv prog (oNil r_p0) w fun t_21 w =>
  bindS (vN (Instr.loadAt 156 t_20)) fun m_23 => ldv prog (Instr.loadAt 156 t_20) w fun t_22 w =>
  bindS (vN (Instr.loadAt 156 t_21)) fun m_25 => ldv prog (Instr.loadAt 156 t_21) w fun t_24 w =>
  pvv prog (binOp .shl 156 t_24 (.int .u64 17)) w fun t_26 w =>
  pvv prog (binOp .xor 156 t_22 t_26) w fun t_27 w =>
  pv prog (oNil r_p0) w fun t_28 w =>
  efu prog (Instr.storeAt 156 t_28 t_27) w fun u_29 w =>
  pv prog (oNil r_p0) w fun t_30 w =>
  ldv prog (Instr.loadAt 156 t_30) w fun t_31 w =>
  K t_31 w
theorem B113_eq (r_p0 : Value) (w : World) (K : Value → World → Prop) : denFn prog Tryd.f113 T113 [r_p0] w K = B113 r_p0 w K := by kernel_rfl
theorem c113 {r_p0 : Value} {w : World} {K : Value → World → Prop} (h : B113 r_p0 w K) : Calls prog 113 #[r_p0] w (Ret K) :=
  denFn_calls Tryd.func113 T113_ok (Eq.mpr (B113_eq r_p0 w K) h)

-- 65 (*holdfast/holdfastref12.Store).find
def T65 : Ann := (.seq .none (.seq (.seq .none (.seq (.seq .none .none) .none)) (.seq (.seq .none (.block (.loop 137438822512 [6] (.seq (.seq .none (.seq .none .none)) (.seq (.block (.seq .none (.seq (.seq .none .none) .none))) .none))))) (.seq .none .none))))
theorem T65_ok : chkFn prog Tryd.f65 T65 = true := by kernel_rfl
def B65 (s_p0 id_p1 : Value) (w : World) (K : Value → World → Prop) : Prop :=
  pvv prog (binOp .lss 3 id_p1 (.int .i64 1)) w fun t_0 w =>
  gate (some (t_0, false)) (fun K => K id_p1 w) w fun t_1 w =>
  gate (some (t_0, false)) (fun K => K s_p0 w) w fun t_2 w =>
  gate (some (t_0, false)) (fun K => pv prog (oNil t_2) w K) w fun t_3 w =>
  gate (some (t_0, false)) (fun K => pvv prog (Instr.fieldAt 83 t_3 0) w K) w fun t_4 w =>
  gate (some (t_0, false)) (fun K => ldv prog (Instr.loadAt 3 t_4) w K) w fun t_5 w =>
  gate (some (t_0, false)) (fun K => pvv prog (binOp .geq 3 t_1 t_5) w K) w fun t_6 w =>
  pv prog (oPick t_0 (.bool true) t_6) w fun t_7 w =>
  cd t_7 (
    K (.tuple #[(.int .i64 (-1)), (.int .i64 4)]) w) <|
  lp (fun σ w again_9 => pop σ fun i_8 σ => fin σ <|
    pv prog (oNil s_p0) w fun t_10 w =>
    pvv prog (Instr.fieldAt 83 t_10 3) w fun t_11 w =>
    ldv prog (Instr.loadAt 33 t_11) w fun t_12 w =>
    pv prog (oBi .len #[33] 3 #[false] #[t_12]) w fun t_13 w =>
    pvv prog (binOp .lss 3 i_8 t_13) w fun t_14 w =>
    cd t_14 (
      pv prog (oNil s_p0) w fun t_15 w =>
      pvv prog (Instr.fieldAt 83 t_15 3) w fun t_16 w =>
      ldv prog (Instr.loadAt 33 t_16) w fun t_17 w =>
      pvv prog (Instr.indexAt 33 t_17 i_8) w fun t_18 w =>
      pvv prog (Instr.fieldAt 27 t_18 0) w fun t_19 w =>
      ldv prog (Instr.loadAt 3 t_19) w fun t_20 w =>
      pvv prog (oEq .eql 3 (.tmp 33) (.tmp 34) t_20 id_p1) w fun t_21 w =>
      cd t_21 (
        K (.tuple #[i_8, (.int .i64 0)]) w) <|
      pvv prog (binOp .add 3 i_8 (.int .i64 1)) w fun t_22 w =>
      again_9 [t_22] w) <|
    K (.tuple #[(.int .i64 (-1)), (.int .i64 12)]) w) [(.int .i64 0)] w
theorem B65_eq (s_p0 id_p1 : Value) (w : World) (K : Value → World → Prop) : denFn prog Tryd.f65 T65 [s_p0, id_p1] w K = B65 s_p0 id_p1 w K := by kernel_rfl
theorem c65 {s_p0 id_p1 : Value} {w : World} {K : Value → World → Prop} (h : B65 s_p0 id_p1 w K) : Calls prog 65 #[s_p0, id_p1] w (Ret K) :=
  denFn_calls Tryd.func65 T65_ok (Eq.mpr (B65_eq s_p0 id_p1 w K) h)

-- 45 (holdfast/token.row[holdfast/api.Token]).find
def T45 : Ann := (.seq .none (.seq (.seq .none (.seq (.seq .none .none) .none)) (.seq .none (.seq (.seq .none (.seq (.seq .none .none) .none)) (.seq .none .none)))))
theorem T45_ok : chkFn prog Tryd.f45 T45 = true := by kernel_rfl
def B45 (r_p0 id_p1 : Value) (w : World) (K : Value → World → Prop) : Prop :=
  efv prog (Instr.box 72 r_p0) w fun r_0 w =>
  efv prog (Instr.alloc 29 true (.tuple #[])) w fun x_1 w =>
  pvv prog (binOp .lss 3 id_p1 (.int .i64 1)) w fun t_2 w =>
  gate (some (t_2, false)) (fun K => K id_p1 w) w fun t_3 w =>
  gate (some (t_2, false)) (fun K => pvv prog (Instr.fieldAt 72 r_0 0) w K) w fun t_4 w =>
  gate (some (t_2, false)) (fun K => ldv prog (Instr.loadAt 3 t_4) w K) w fun t_5 w =>
  gate (some (t_2, false)) (fun K => pvv prog (binOp .geq 3 t_3 t_5) w K) w fun t_6 w =>
  pv prog (oPick t_2 (.bool true) t_6) w fun t_7 w =>
  cd t_7 (
    ldv prog (Instr.loadAt 29 x_1) w fun t_8 w =>
    efu prog (Instr.storeAt 29 x_1 t_8) w fun u_9 w =>
    ∃ r_10, (do loadVar 29 (← asAddr x_1)).run prog w = .ok r_10 w ∧ K (.tuple #[r_10, (.int .i64 4)]) w) <|
  pvv prog (Instr.fieldAt 72 r_0 1) w fun t_11 w =>
  ldv prog (Instr.loadAt 70 t_11) w fun t_12 w =>
  ldv prog (Instr.lookup 70 t_12 id_p1 true) w fun t_13 w =>
  pvv prog (Instr.extract t_13 0) w fun t_14 w =>
  pvv prog (Instr.extract t_13 1) w fun t_15 w =>
  efu prog (Instr.storeAt 29 x_1 t_14) w fun u_16 w =>
  pvv prog (Op.unary .not t_15) w fun t_17 w =>
  cd t_17 (
    ldv prog (Instr.loadAt 29 x_1) w fun t_18 w =>
    efu prog (Instr.storeAt 29 x_1 t_18) w fun u_19 w =>
    ∃ r_20, (do loadVar 29 (← asAddr x_1)).run prog w = .ok r_20 w ∧ K (.tuple #[r_20, (.int .i64 12)]) w) <|
  ldv prog (Instr.loadAt 29 x_1) w fun t_21 w =>
  efu prog (Instr.storeAt 29 x_1 t_21) w fun u_22 w =>
  ∃ r_23, (do loadVar 29 (← asAddr x_1)).run prog w = .ok r_23 w ∧ K (.tuple #[r_23, (.int .i64 0)]) w
theorem B45_eq (r_p0 id_p1 : Value) (w : World) (K : Value → World → Prop) : denFn prog Tryd.f45 T45 [r_p0, id_p1] w K = B45 r_p0 id_p1 w K := by kernel_rfl
theorem c45 {r_p0 id_p1 : Value} {w : World} {K : Value → World → Prop} (h : B45 r_p0 id_p1 w K) : Calls prog 45 #[r_p0, id_p1] w (Ret K) :=
  denFn_calls Tryd.func45 T45_ok (Eq.mpr (B45_eq r_p0 id_p1 w K) h)

-- 29 holdfast/token.all[holdfast/api.Family]
def T29 : Ann := (.seq .none (.seq .none (.seq (.seq .none (.block (.loop 2147475616 [5, 13] (.seq .none (.seq (.seq .none .none) (.meet 1073709216 [5] (.block (.seq .none (.seq .none (.seq .none .none)))) .none)))))) (.seq .none .none))))
theorem T29_ok : chkFn prog Tryd.f29 T29 = true := by kernel_rfl
def B29 (r_p0 is_p1 : Value) (w : World) (K : Value → World → Prop) : Prop :=
  efv prog (Instr.box 69 r_p0) w fun r_0 w =>
  pvv prog (Instr.fieldAt 69 r_0 1) w fun t_1 w =>
  ldv prog (Instr.loadAt 67 t_1) w fun t_2 w =>
  Calls prog 58 #[t_2] w (Ret fun t_3 w =>
  Calls prog 57 #[t_3] w (Ret fun t_4 w =>
  pv prog (oBi .len #[41] 3 #[false] #[t_4]) w fun t_5 w =>
  lp (fun σ w again_8 => pop σ fun out_6 σ => pop σ fun t_7 σ => fin σ <|
    pvv prog (binOp .lss 3 t_7 t_5) w fun t_9 w =>
    cd t_9 (
      jn (fun σ w => pop σ fun out_10 σ => fin σ <|
        pvv prog (binOp .add 3 t_7 (.int .i64 1)) w fun t_11 w =>
        again_8 [out_10, t_11] w) fun k_12 =>
      pvv prog (Instr.indexAt 41 t_4 t_7) w fun t_13 w =>
      ldv prog (Instr.loadAt 3 t_13) w fun t_14 w =>
      pvv prog (Instr.fieldAt 69 r_0 1) w fun t_15 w =>
      ldv prog (Instr.loadAt 67 t_15) w fun t_16 w =>
      ldv prog (Instr.lookup 67 t_16 t_14 false) w fun t_17 w =>
      ef prog (oCall is_p1 #[t_17]) w fun t_18 w =>
      cd t_18 (
        pvv prog (Instr.fieldAt 69 r_0 1) w fun t_19 w =>
        ldv prog (Instr.loadAt 67 t_19) w fun t_20 w =>
        ldv prog (Instr.lookup 67 t_20 t_14 false) w fun t_21 w =>
        efv prog (Instr.buildSlice 33 1 #[(0, t_21)]) w fun t_22 w =>
        ef prog (oBi .append #[33, 33] 33 #[false, false] #[out_6, t_22]) w fun t_23 w =>
        k_12 [t_23] w) <|
      k_12 [out_6] w) <|
    K out_6 w) [(.slice none 0 0), (.int .i64 0)] w))
theorem B29_eq (r_p0 is_p1 : Value) (w : World) (K : Value → World → Prop) : denFn prog Tryd.f29 T29 [r_p0, is_p1] w K = B29 r_p0 is_p1 w K := by kernel_rfl
theorem c29 {r_p0 is_p1 : Value} {w : World} {K : Value → World → Prop} (h : B29 r_p0 is_p1 w K) : Calls prog 29 #[r_p0, is_p1] w (Ret K) :=
  denFn_calls Tryd.func29 T29_ok (Eq.mpr (B29_eq r_p0 is_p1 w K) h)

-- 80 strings.trimRightUnicode
def T80 : Ann := (.seq .none (.meet 8589934561 [0] (.block (.loop 8589934561 [0] (.seq (.seq .none (.seq .none .none)) (.block (.seq .none (.meet 8323168 [5, 6] (.seq .none (.seq .none .none)) (.seq (.seq .none (.seq .none .none)) .none))))))) (.seq .none .none)))
theorem T80_ok : chkFn prog Tryd.f80 T80 = true := by kernel_rfl
def B80 (s_p0 cutset_p1 : Value) (w : World) (K : Value → World → Prop) : Prop :=
  jn (fun σ w => pop σ fun s_0 σ => fin σ <|
    K s_0 w) fun k_1 =>
  lp (fun σ w again_3 => pop σ fun s_2 σ => fin σ <|
    pv prog (oBi .len #[9] 3 #[false] #[s_2]) w fun t_4 w =>
    pvv prog (binOp .gtr 3 t_4 (.int .i64 0)) w fun t_5 w =>
    cd t_5 (
      pv prog (oBi .len #[9] 3 #[false] #[s_2]) w fun t_6 w =>
      pvv prog (binOp .sub 3 t_6 (.int .i64 1)) w fun t_7 w =>
      pvv prog (Instr.index 9 s_2 t_7) w fun t_8 w =>
      pvv prog (convert 5 21 t_8) w fun t_9 w =>
      jn (fun σ w => pop σ fun r_10 σ => pop σ fun n_11 σ => fin σ <|
        Calls prog 88 #[cutset_p1, r_10] w (Ret fun t_12 w =>
        pvv prog (Op.unary .not t_12) w fun t_13 w =>
        cd t_13 (
          k_1 [s_2] w) <|
        pv prog (oBi .len #[9] 3 #[false] #[s_2]) w fun t_14 w =>
        pvv prog (binOp .sub 3 t_14 n_11) w fun t_15 w =>
        pvv prog (Instr.sliceAt 9 s_2 none (some t_15) none) w fun t_16 w =>
        again_3 [t_16] w)) fun k_17 =>
      pvv prog (binOp .geq 21 t_9 (.int .i32 128)) w fun t_18 w =>
      cd t_18 (
        Calls prog 89 #[s_2] w (Ret fun t_19 w =>
        pvv prog (Instr.extract t_19 0) w fun t_20 w =>
        pvv prog (Instr.extract t_19 1) w fun t_21 w =>
        k_17 [t_20, t_21] w)) <|
      k_17 [t_9, (.int .i64 1)] w) <|
    k_1 [s_2] w) [s_p0] w
theorem B80_eq (s_p0 cutset_p1 : Value) (w : World) (K : Value → World → Prop) : denFn prog Tryd.f80 T80 [s_p0, cutset_p1] w K = B80 s_p0 cutset_p1 w K := by kernel_rfl
theorem c80 {s_p0 cutset_p1 : Value} {w : World} {K : Value → World → Prop} (h : B80 s_p0 cutset_p1 w K) : Calls prog 80 #[s_p0, cutset_p1] w (Ret K) :=
  denFn_calls Tryd.func80 T80_ok (Eq.mpr (B80_eq s_p0 cutset_p1 w K) h)

-- 54 (*holdfast/session.Table).Live$1
def T54 : Ann := (.seq .none (.seq (.draw [.op 0 .pure, .op 1 .load, .op 2 .load, .op 3 .pure, .op 4 .pure, .op 5 .load, .op 6 .load, .op 7 .eff, .op 8 .pure, .op 9 .pure, .op 10 .pure]) .none))
theorem T54_ok : chkFn prog Tryd.f54 T54 = true := by kernel_rfl
def B54 (s_p0 x_p1 x_p2 : Value) (w : World) (K : Value → World → Prop) : Prop :=
  efv prog (Instr.box 59 s_p0) w fun s_0 w =>
  dr w fun w =>
  pvv prog (Instr.fieldAt 59 s_0 1) w fun t_1 w =>
  bindS (vN (Instr.loadAt 53 t_1)) fun m_3 => ldv prog (Instr.loadAt 53 t_1) w fun t_2 w =>
  bindS (vN (Instr.loadAt 53 x_p1)) fun m_5 => ldv prog (Instr.loadAt 53 x_p1) w fun t_4 w =>
  pvv prog (oEq .eql 53 (.tmp 6) (.tmp 7) t_2 t_4) w fun t_6 w =>
  bindS (vN (Instr.loadAt 3 x_p2)) fun m_8 => gate (some (t_6, true)) (fun K => ldv prog (Instr.loadAt 3 x_p2) w K) w fun t_7 w =>
  bindS (vN (Instr.loadAt 59 s_0)) fun m_10 => gate (some (t_6, true)) (fun K => ldv prog (Instr.loadAt 59 s_0) w K) w fun t_9 w =>
  gate (some (t_6, true)) (fun K => Calls prog 50 #[t_9] w (Ret fun s_14 w => stay prog (some (t_6, true)) m_8 t_7 w <| stay prog none m_5 t_4 w <| stay prog none m_3 t_2 w <| K s_14 w)) w fun t_11 w =>
  gate (some (t_6, true)) (fun K => pvv prog (binOp .lss 3 t_7 t_11) w K) w fun t_12 w =>
  pv prog (oPick t_6 t_12 (.bool false)) w fun t_13 w =>
  K t_13 w
theorem B54_eq (s_p0 x_p1 x_p2 : Value) (w : World) (K : Value → World → Prop) : denFn prog Tryd.f54 T54 [s_p0, x_p1, x_p2] w K = B54 s_p0 x_p1 x_p2 w K := by kernel_rfl
theorem c54 {s_p0 x_p1 x_p2 : Value} {w : World} {K : Value → World → Prop} (h : B54 s_p0 x_p1 x_p2 w K) : Calls prog 54 #[s_p0, x_p1, x_p2] w (Ret K) :=
  denFn_calls Tryd.func54 T54_ok (Eq.mpr (B54_eq s_p0 x_p1 x_p2 w K) h)

-- 75 strings.trimRightByte
def T75 : Ann := (.seq .none (.seq (.block (.loop 4194273 [0] (.seq (.seq .none (.seq .none .none)) (.block .none)))) (.seq .none .none)))
theorem T75_ok : chkFn prog Tryd.f75 T75 = true := by kernel_rfl
def B75 (s_p0 c_p1 : Value) (w : World) (K : Value → World → Prop) : Prop :=
  lp (fun σ w again_1 => pop σ fun s_0 σ => fin σ <|
    pv prog (oBi .len #[9] 3 #[false] #[s_0]) w fun t_2 w =>
    pvv prog (binOp .gtr 3 t_2 (.int .i64 0)) w fun t_3 w =>
    gate (some (t_3, true)) (fun K => K s_0 w) w fun t_4 w =>
    gate (some (t_3, true)) (fun K => K s_0 w) w fun t_5 w =>
    gate (some (t_3, true)) (fun K => pv prog (oBi .len #[9] 3 #[false] #[t_5]) w K) w fun t_6 w =>
    gate (some (t_3, true)) (fun K => pvv prog (binOp .sub 3 t_6 (.int .i64 1)) w K) w fun t_7 w =>
    gate (some (t_3, true)) (fun K => pvv prog (Instr.index 9 t_4 t_7) w K) w fun t_8 w =>
    gate (some (t_3, true)) (fun K => K c_p1 w) w fun t_9 w =>
    gate (some (t_3, true)) (fun K => pvv prog (oEq .eql 5 (.tmp 13) (.tmp 14) t_8 t_9) w K) w fun t_10 w =>
    pv prog (oPick t_3 t_10 (.bool false)) w fun t_11 w =>
    cd t_11 (
      pv prog (oBi .len #[9] 3 #[false] #[s_0]) w fun t_12 w =>
      pvv prog (binOp .sub 3 t_12 (.int .i64 1)) w fun t_13 w =>
      pvv prog (Instr.sliceAt 9 s_0 none (some t_13) none) w fun t_14 w =>
      again_1 [t_14] w) <|
    K s_0 w) [s_p0] w
theorem B75_eq (s_p0 c_p1 : Value) (w : World) (K : Value → World → Prop) : denFn prog Tryd.f75 T75 [s_p0, c_p1] w K = B75 s_p0 c_p1 w K := by kernel_rfl
theorem c75 {s_p0 c_p1 : Value} {w : World} {K : Value → World → Prop} (h : B75 s_p0 c_p1 w K) : Calls prog 75 #[s_p0, c_p1] w (Ret K) :=
  denFn_calls Tryd.func75 T75_ok (Eq.mpr (B75_eq s_p0 c_p1 w K) h)

-- 79 strings.trimLeftUnicode
def T79 : Ann := (.seq .none (.meet 4194273 [0] (.block (.loop 4194273 [0] (.seq (.seq .none (.seq .none .none)) (.block (.seq .none (.seq (.seq .none (.seq .none .none)) .none)))))) (.seq .none .none)))
theorem T79_ok : chkFn prog Tryd.f79 T79 = true := by kernel_rfl
def B79 (s_p0 cutset_p1 : Value) (w : World) (K : Value → World → Prop) : Prop :=
  jn (fun σ w => pop σ fun s_0 σ => fin σ <|
    K s_0 w) fun k_1 =>
  lp (fun σ w again_3 => pop σ fun s_2 σ => fin σ <|
    pv prog (oBi .len #[9] 3 #[false] #[s_2]) w fun t_4 w =>
    pvv prog (binOp .gtr 3 t_4 (.int .i64 0)) w fun t_5 w =>
    cd t_5 (
      Calls prog 87 #[s_2] w (Ret fun t_6 w =>
      pvv prog (Instr.extract t_6 0) w fun t_7 w =>
      pvv prog (Instr.extract t_6 1) w fun t_8 w =>
      Calls prog 88 #[cutset_p1, t_7] w (Ret fun t_9 w =>
      pvv prog (Op.unary .not t_9) w fun t_10 w =>
      cd t_10 (
        k_1 [s_2] w) <|
      pvv prog (Instr.sliceAt 9 s_2 (some t_8) none none) w fun t_11 w =>
      again_3 [t_11] w))) <|
    k_1 [s_2] w) [s_p0] w
theorem B79_eq (s_p0 cutset_p1 : Value) (w : World) (K : Value → World → Prop) : denFn prog Tryd.f79 T79 [s_p0, cutset_p1] w K = B79 s_p0 cutset_p1 w K := by kernel_rfl
theorem c79 {s_p0 cutset_p1 : Value} {w : World} {K : Value → World → Prop} (h : B79 s_p0 cutset_p1 w K) : Calls prog 79 #[s_p0, cutset_p1] w (Ret K) :=
  denFn_calls Tryd.func79 T79_ok (Eq.mpr (B79_eq s_p0 cutset_p1 w K) h)

-- 17 (*holdfast/session.Table).Sweep
def T17 : Ann := (.seq .none (.seq (.seq .none (.seq .none (.seq (.seq .none .none) .none))) (.seq .none (.seq .none .none))))
theorem T17_ok : chkFn prog Tryd.f17 T17 = true := by kernel_rfl
def B17 (t_p0 now_p1 : Value) (w : World) (K : Value → World → Prop) : Prop :=
  efv prog (Instr.box 3 now_p1) w fun now_0 w =>
  ldv prog (Instr.loadAt 3 now_0) w fun t_1 w =>
  Calls prog 46 #[t_p0, t_1] w (Ret fun t_2 w =>
  pvv prog (oEq .neq 30 (.tmp 10) (.const (.int .i64 0)) t_2 (.int .i64 0)) w fun t_3 w =>
  cd t_3 (
    K (.tuple #[(.slice none 0 0), t_2]) w) <|
  ldv prog (Instr.loadAt 3 now_0) w fun t_4 w =>
  pv prog (oNil t_p0) w fun t_5 w =>
  pvv prog (Instr.fieldAt 96 t_5 0) w fun t_6 w =>
  pvv prog (Instr.fieldAt 94 t_6 0) w fun t_7 w =>
  efu prog (Instr.storeAt 3 t_7 t_4) w fun u_8 w =>
  pvv prog (Instr.makeFunc (.func 49) #[] #[now_0]) w fun t_9 w =>
  Calls prog 48 #[t_p0, t_9] w (Ret fun t_10 w =>
  Calls prog 47 #[t_p0, t_10] w (Ret fun t_11 w =>
  K (.tuple #[t_11, (.int .i64 0)]) w)))
theorem B17_eq (t_p0 now_p1 : Value) (w : World) (K : Value → World → Prop) : denFn prog Tryd.f17 T17 [t_p0, now_p1] w K = B17 t_p0 now_p1 w K := by kernel_rfl
theorem c17 {t_p0 now_p1 : Value} {w : World} {K : Value → World → Prop} (h : B17 t_p0 now_p1 w K) : Calls prog 17 #[t_p0, now_p1] w (Ret K) :=
  denFn_calls Tryd.func17 T17_ok (Eq.mpr (B17_eq t_p0 now_p1 w K) h)

-- 77 strings.trimLeftASCII
def T77 : Ann := (.seq .none (.meet 32737 [0] (.block (.loop 32737 [0] (.seq (.seq .none (.seq .none .none)) (.block (.seq (.seq .none (.seq .none .none)) .none))))) (.seq .none .none)))
theorem T77_ok : chkFn prog Tryd.f77 T77 = true := by kernel_rfl
def B77 (s_p0 as_p1 : Value) (w : World) (K : Value → World → Prop) : Prop :=
  jn (fun σ w => pop σ fun s_0 σ => fin σ <|
    K s_0 w) fun k_1 =>
  lp (fun σ w again_3 => pop σ fun s_2 σ => fin σ <|
    pv prog (oBi .len #[9] 3 #[false] #[s_2]) w fun t_4 w =>
    pvv prog (binOp .gtr 3 t_4 (.int .i64 0)) w fun t_5 w =>
    cd t_5 (
      pvv prog (Instr.index 9 s_2 (.int .i64 0)) w fun t_6 w =>
      Calls prog 86 #[as_p1, t_6] w (Ret fun t_7 w =>
      pvv prog (Op.unary .not t_7) w fun t_8 w =>
      cd t_8 (
        k_1 [s_2] w) <|
      pvv prog (Instr.sliceAt 9 s_2 (some (.int .i64 1)) none none) w fun t_9 w =>
      again_3 [t_9] w)) <|
    k_1 [s_2] w) [s_p0] w
theorem B77_eq (s_p0 as_p1 : Value) (w : World) (K : Value → World → Prop) : denFn prog Tryd.f77 T77 [s_p0, as_p1] w K = B77 s_p0 as_p1 w K := by kernel_rfl
theorem c77 {s_p0 as_p1 : Value} {w : World} {K : Value → World → Prop} (h : B77 s_p0 as_p1 w K) : Calls prog 77 #[s_p0, as_p1] w (Ret K) :=
  denFn_calls Tryd.func77 T77_ok (Eq.mpr (B77_eq s_p0 as_p1 w K) h)

-- 83 maps.Keys[map[int]holdfast/api.Family,int,holdfast/api.Family]$1
def T83 : Ann := (.seq .none (.block (.loop 16328 [] (.seq .none (.seq (.seq .none .none) (.block (.seq .none (.seq .none (.seq .none .none)))))))))
theorem T83_ok : chkFn prog Tryd.f83 T83 = true := by kernel_rfl
def B83 (yield_p0 x_p1 : Value) (w : World) (K : Value → World → Prop) : Prop :=
  ldv prog (Instr.loadAt 67 x_p1) w fun t_0 w =>
  efv prog (Instr.range 67 t_0) w fun t_1 w =>
  lp (fun σ w again_2 => fin σ <|
    efv prog (Instr.next t_1 false 0) w fun t_3 w =>
    pvv prog (Instr.extract t_3 0) w fun t_4 w =>
    cd t_4 (
      efv prog (Instr.entry t_1) w fun t_5 w =>
      pvv prog (Instr.extract t_5 0) w fun t_6 w =>
      ef prog (oCall yield_p0 #[t_6]) w fun t_7 w =>
      pvv prog (Op.unary .not t_7) w fun t_8 w =>
      cd t_8 (
        K (.tuple #[]) w) <|
      again_2 [] w) <|
    K (.tuple #[]) w) [] w
theorem B83_eq (yield_p0 x_p1 : Value) (w : World) (K : Value → World → Prop) : denFn prog Tryd.f83 T83 [yield_p0, x_p1] w K = B83 yield_p0 x_p1 w K := by kernel_rfl
theorem c83 {yield_p0 x_p1 : Value} {w : World} {K : Value → World → Prop} (h : B83 yield_p0 x_p1 w K) : Calls prog 83 #[yield_p0, x_p1] w (Ret K) :=
  denFn_calls Tryd.func83 T83_ok (Eq.mpr (B83_eq yield_p0 x_p1 w K) h)

-- 50 holdfast/session.Until
def T50 : Ann := (.seq .none (.seq (.draw [.op 0 .pure, .op 3 .pure, .op 1 .load, .op 4 .load, .op 2 .eff, .op 5 .eff, .op 6 .pure, .op 7 .pure]) .none))
theorem T50_ok : chkFn prog Tryd.f50 T50 = true := by kernel_rfl
def B50 (s_p0 : Value) (w : World) (K : Value → World → Prop) : Prop :=
  efv prog (Instr.box 59 s_p0) w fun s_0 w =>
  dr w fun w =>
  pvv prog (Instr.fieldAt 59 s_0 3) w fun t_1 w =>
  pvv prog (Instr.fieldAt 59 s_0 2) w fun t_2 w =>
  bindS (vN (Instr.loadAt 3 t_1)) fun m_4 => ldv prog (Instr.loadAt 3 t_1) w fun t_3 w =>
  bindS (vN (Instr.loadAt 3 t_2)) fun m_6 => ldv prog (Instr.loadAt 3 t_2) w fun t_5 w =>
  Calls prog 72 #[t_3, (.int .i64 200)] w (Ret fun t_7 w => stay prog none m_6 t_5 w <| 
  Calls prog 72 #[t_5, (.int .i64 1000)] w (Ret fun t_8 w => stay prog none m_4 t_3 w <| 
  pv prog (oBi .min #[3, 3] 3 #[false, false] #[t_7, t_8]) w fun t_9 w =>
  K t_9 w))
theorem B50_eq (s_p0 : Value) (w : World) (K : Value → World → Prop) : denFn prog Tryd.f50 T50 [s_p0] w K = B50 s_p0 w K := by kernel_rfl
theorem c50 {s_p0 : Value} {w : World} {K : Value → World → Prop} (h : B50 s_p0 w K) : Calls prog 50 #[s_p0] w (Ret K) :=
  denFn_calls Tryd.func50 T50_ok (Eq.mpr (B50_eq s_p0 w K) h)

-- 20 (*holdfast/session.Table).Live
def T20 : Ann := (.seq .none (.seq (.seq .none (.seq .none (.seq (.seq .none .none) .none))) (.seq .none .none)))
theorem T20_ok : chkFn prog Tryd.f20 T20 = true := by kernel_rfl
def B20 (t_p0 o_p1 now_p2 : Value) (w : World) (K : Value → World → Prop) : Prop :=
  efv prog (Instr.box 53 o_p1) w fun o_0 w =>
  efv prog (Instr.box 3 now_p2) w fun now_1 w =>
  ldv prog (Instr.loadAt 3 now_1) w fun t_2 w =>
  Calls prog 46 #[t_p0, t_2] w (Ret fun t_3 w =>
  pvv prog (oEq .neq 30 (.tmp 12) (.const (.int .i64 0)) t_3 (.int .i64 0)) w fun t_4 w =>
  cd t_4 (
    K (.tuple #[(.slice none 0 0), t_3]) w) <|
  pvv prog (Instr.makeFunc (.func 54) #[] #[o_0, now_1]) w fun t_5 w =>
  Calls prog 48 #[t_p0, t_5] w (Ret fun t_6 w =>
  K (.tuple #[t_6, (.int .i64 0)]) w))
theorem B20_eq (t_p0 o_p1 now_p2 : Value) (w : World) (K : Value → World → Prop) : denFn prog Tryd.f20 T20 [t_p0, o_p1, now_p2] w K = B20 t_p0 o_p1 now_p2 w K := by kernel_rfl
theorem c20 {t_p0 o_p1 now_p2 : Value} {w : World} {K : Value → World → Prop} (h : B20 t_p0 o_p1 now_p2 w K) : Calls prog 20 #[t_p0, o_p1, now_p2] w (Ret K) :=
  denFn_calls Tryd.func20 T20_ok (Eq.mpr (B20_eq t_p0 o_p1 now_p2 w K) h)

-- 141 gosem.cut.vars
def T141 : Ann := .none
theorem T141_ok : chkFn prog Tryd.f141 T141 = true := by kernel_rfl
def B141 (w : World) (K : Value → World → Prop) : Prop :=
  pvv prog (Instr.build 150 #[(0, (.int .u8 128)), (1, (.int .u8 191))]) w fun t_0 w =>
  pvv prog (Instr.build 150 #[(0, (.int .u8 160)), (1, (.int .u8 191))]) w fun t_1 w =>
  pvv prog (Instr.build 150 #[(0, (.int .u8 128)), (1, (.int .u8 159))]) w fun t_2 w =>
  pvv prog (Instr.build 150 #[(0, (.int .u8 144)), (1, (.int .u8 191))]) w fun t_3 w =>
  pvv prog (Instr.build 150 #[(0, (.int .u8 128)), (1, (.int .u8 143))]) w fun t_4 w =>
  pvv prog (Instr.build 151 #[(0, t_0), (1, t_1), (2, t_2), (3, t_3), (4, t_4)]) w fun t_5 w =>
  efu prog (Instr.storeAt 151 (.pointer (some ⟨1, 0, none⟩)) t_5) w fun u_6 w =>
  K (.tuple #[]) w
theorem B141_eq (w : World) (K : Value → World → Prop) : denFn prog Tryd.f141 T141 [] w K = B141  w K := by kernel_rfl
theorem c141 {w : World} {K : Value → World → Prop} (h : B141  w K) : Calls prog 141 #[] w (Ret K) :=
  denFn_calls Tryd.func141 T141_ok (Eq.mpr (B141_eq  w K) h)

-- 114 slices.medianAdjacentOrdered[int]
def T114 : Ann := (.seq .none (.seq .none .none))
theorem T114_ok : chkFn prog Tryd.f114 T114 = true := by kernel_rfl
def B114 (data_p0 a_p1 swaps_p2 : Value) (w : World) (K : Value → World → Prop) : Prop :=
  pvv prog (binOp .sub 3 a_p1 (.int .i64 1)) w fun t_0 w =>
  pvv prog (binOp .add 3 a_p1 (.int .i64 1)) w fun t_1 w =>
  Calls prog 115 #[data_p0, t_0, a_p1, t_1, swaps_p2] w (Ret fun t_2 w =>
  K t_2 w)
theorem B114_eq (data_p0 a_p1 swaps_p2 : Value) (w : World) (K : Value → World → Prop) : denFn prog Tryd.f114 T114 [data_p0, a_p1, swaps_p2] w K = B114 data_p0 a_p1 swaps_p2 w K := by kernel_rfl
theorem c114 {data_p0 a_p1 swaps_p2 : Value} {w : World} {K : Value → World → Prop} (h : B114 data_p0 a_p1 swaps_p2 w K) : Calls prog 114 #[data_p0, a_p1, swaps_p2] w (Ret K) :=
  denFn_calls Tryd.func114 T114_ok (Eq.mpr (B114_eq data_p0 a_p1 swaps_p2 w K) h)

-- 69 (*holdfast/token.Store).Sweep$1
def T69 : Ann := (.seq .none (.seq .none .none))
theorem T69_ok : chkFn prog Tryd.f69 T69 = true := by kernel_rfl
def B69 (x_p0 t_p1 x_p2 : Value) (w : World) (K : Value → World → Prop) : Prop :=
  efv prog (Instr.box 29 t_p1) w fun t_0 w =>
  ldv prog (Instr.loadAt 3 x_p2) w fun t_1 w =>
  pvv prog (Instr.fieldAt 29 t_0 3) w fun t_2 w =>
  ldv prog (Instr.loadAt 3 t_2) w fun t_3 w =>
  pvv prog (binOp .geq 3 t_1 t_3) w fun t_4 w =>
  K t_4 w
theorem B69_eq (x_p0 t_p1 x_p2 : Value) (w : World) (K : Value → World → Prop) : denFn prog Tryd.f69 T69 [x_p0, t_p1, x_p2] w K = B69 x_p0 t_p1 x_p2 w K := by kernel_rfl
theorem c69 {x_p0 t_p1 x_p2 : Value} {w : World} {K : Value → World → Prop} (h : B69 x_p0 t_p1 x_p2 w K) : Calls prog 69 #[x_p0, t_p1, x_p2] w (Ret K) :=
  denFn_calls Tryd.func69 T69_ok (Eq.mpr (B69_eq x_p0 t_p1 x_p2 w K) h)

-- 18 (*holdfast/token.Store).EndSessions
def T18 : Ann := (.seq .none (.seq .none .none))
theorem T18_ok : chkFn prog Tryd.f18 T18 = true := by kernel_rfl
def B18 (s_p0 sessions_p1 : Value) (w : World) (K : Value → World → Prop) : Prop :=
  efv prog (Instr.box 41 sessions_p1) w fun sessions_0 w =>
  pvv prog (Instr.makeFunc (.func 52) #[] #[sessions_0]) w fun t_1 w =>
  Calls prog 51 #[s_p0, t_1] w (Ret fun t_2 w =>
  K t_2 w)
theorem B18_eq (s_p0 sessions_p1 : Value) (w : World) (K : Value → World → Prop) : denFn prog Tryd.f18 T18 [s_p0, sessions_p1] w K = B18 s_p0 sessions_p1 w K := by kernel_rfl
theorem c18 {s_p0 sessions_p1 : Value} {w : World} {K : Value → World → Prop} (h : B18 s_p0 sessions_p1 w K) : Calls prog 18 #[s_p0, sessions_p1] w (Ret K) :=
  denFn_calls Tryd.func18 T18_ok (Eq.mpr (B18_eq s_p0 sessions_p1 w K) h)

-- 86 (*strings.asciiSet).contains
def T86 : Ann := (.seq .none (.seq .none .none))
theorem T86_ok : chkFn prog Tryd.f86 T86 = true := by kernel_rfl
def B86 (as_p0 c_p1 : Value) (w : World) (K : Value → World → Prop) : Prop :=
  pv prog (oNil as_p0) w fun t_0 w =>
  pvv prog (Instr.indexAt 119 t_0 c_p1) w fun t_1 w =>
  ldv prog (Instr.loadAt 4 t_1) w fun t_2 w =>
  K t_2 w
theorem B86_eq (as_p0 c_p1 : Value) (w : World) (K : Value → World → Prop) : denFn prog Tryd.f86 T86 [as_p0, c_p1] w K = B86 as_p0 c_p1 w K := by kernel_rfl
theorem c86 {as_p0 c_p1 : Value} {w : World} {K : Value → World → Prop} (h : B86 as_p0 c_p1 w K) : Calls prog 86 #[as_p0, c_p1] w (Ret K) :=
  denFn_calls Tryd.func86 T86_ok (Eq.mpr (B86_eq as_p0 c_p1 w K) h)

-- 95 unicode/utf8.RuneStart
def T95 : Ann := (.seq .none (.seq .none .none))
theorem T95_ok : chkFn prog Tryd.f95 T95 = true := by kernel_rfl
def B95 (b_p0 : Value) (w : World) (K : Value → World → Prop) : Prop :=
  pvv prog (binOp .and 5 b_p0 (.int .u8 192)) w fun t_0 w =>
  pvv prog (oEq .neq 5 (.tmp 4) (.const (.int .u8 128)) t_0 (.int .u8 128)) w fun t_1 w =>
  K t_1 w
theorem B95_eq (b_p0 : Value) (w : World) (K : Value → World → Prop) : denFn prog Tryd.f95 T95 [b_p0] w K = B95 b_p0 w K := by kernel_rfl
theorem c95 {b_p0 : Value} {w : World} {K : Value → World → Prop} (h : B95 b_p0 w K) : Calls prog 95 #[b_p0] w (Ret K) :=
  denFn_calls Tryd.func95 T95_ok (Eq.mpr (B95_eq b_p0 w K) h)

-- 117 internal/stringslite.IndexByte
def T117 : Ann := (.seq .none (.seq .none .none))
theorem T117_ok : chkFn prog Tryd.f117 T117 = true := by kernel_rfl
def B117 (s_p0 c_p1 : Value) (w : World) (K : Value → World → Prop) : Prop :=
  ef prog (oCall (.func (.func 119) #[] #[]) #[s_p0, c_p1]) w fun t_0 w =>
  K t_0 w
theorem B117_eq (s_p0 c_p1 : Value) (w : World) (K : Value → World → Prop) : denFn prog Tryd.f117 T117 [s_p0, c_p1] w K = B117 s_p0 c_p1 w K := by kernel_rfl
theorem c117 {s_p0 c_p1 : Value} {w : World} {K : Value → World → Prop} (h : B117 s_p0 c_p1 w K) : Calls prog 117 #[s_p0, c_p1] w (Ret K) :=
  denFn_calls Tryd.func117 T117_ok (Eq.mpr (B117_eq s_p0 c_p1 w K) h)

-- 107 strings.IndexByte
def T107 : Ann := (.seq .none (.seq .none .none))
theorem T107_ok : chkFn prog Tryd.f107 T107 = true := by kernel_rfl
def B107 (s_p0 c_p1 : Value) (w : World) (K : Value → World → Prop) : Prop :=
  Calls prog 117 #[s_p0, c_p1] w (Ret fun t_0 w =>
  K t_0 w)
theorem B107_eq (s_p0 c_p1 : Value) (w : World) (K : Value → World → Prop) : denFn prog Tryd.f107 T107 [s_p0, c_p1] w K = B107 s_p0 c_p1 w K := by kernel_rfl
theorem c107 {s_p0 c_p1 : Value} {w : World} {K : Value → World → Prop} (h : B107 s_p0 c_p1 w K) : Calls prog 107 #[s_p0, c_p1] w (Ret K) :=
  denFn_calls Tryd.func107 T107_ok (Eq.mpr (B107_eq s_p0 c_p1 w K) h)

-- 12 holdfast/holdfastref12.New
def T12 : Ann := (.seq .none (.seq .none .none))
theorem T12_ok : chkFn prog Tryd.f12 T12 = true := by kernel_rfl
def B12 (w : World) (K : Value → World → Prop) : Prop :=
  pvv prog (Instr.build 83 #[(0, (.int .i64 1)), (1, (.int .i64 1))]) w fun t_0 w =>
  efv prog (Instr.box 83 t_0) w fun t_1 w =>
  K t_1 w
theorem B12_eq (w : World) (K : Value → World → Prop) : denFn prog Tryd.f12 T12 [] w K = B12  w K := by kernel_rfl
theorem c12 {w : World} {K : Value → World → Prop} (h : B12  w K) : Calls prog 12 #[] w (Ret K) :=
  denFn_calls Tryd.func12 T12_ok (Eq.mpr (B12_eq  w K) h)


end Go.Proofs.YtbcimkjgpplcpaaDoor
