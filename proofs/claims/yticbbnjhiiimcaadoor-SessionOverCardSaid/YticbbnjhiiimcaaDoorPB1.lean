import Derived.Test.YticbbnjhiiimcaaDoorPI
set_option linter.all false
set_option maxRecDepth 100000
namespace Go.Proofs.YticbbnjhiiimcaaDoor
open Go Hold
-- 17 holdfast/holdfastlaw11.do
def T17 : Ann := (.seq .none (.seq (.seq .none (.block (.seq .none (.seq (.seq .none (.seq .none (.seq .none .none))) (.seq .none (.seq (.seq .none (.seq .none (.seq .none .none))) (.seq .none (.seq (.seq .none (.seq .none (.seq .none .none))) (.seq .none (.seq (.seq (.draw [.op 0 .pure, .op 1 .pure, .op 4 .pure, .op 5 .pure, .op 2 .load, .op 6 .load, .op 3 .eff, .op 7 .eff, .op 8 .pure, .op 9 .pure]) .none) (.seq .none (.seq (.seq (.draw [.op 0 .pure, .op 1 .pure, .op 4 .pure, .op 5 .pure, .op 2 .load, .op 6 .load, .op 3 .eff, .op 7 .eff, .op 8 .eff, .op 9 .pure]) .none) (.seq .none (.seq (.seq .none (.seq .none (.seq .none .none))) .none)))))))))))))) (.seq .none (.seq .none (.seq .none .none)))))
theorem T17_ok : chkFn prog Tryd.f17 T17 = true := by kernel_rfl
def B17 (t_p0 r_p1 x_p2 : Value) (w : World) (K : Value → World → Prop) : Prop :=
  efv prog (Instr.box 49 x_p2) w fun x_0 w =>
  pvv prog (Instr.fieldAt 49 x_0 0) w fun t_1 w =>
  ldv prog (Instr.loadAt 3 t_1) w fun t_2 w =>
  pvv prog (oEq .eql 3 (.tmp 28) (.const (.int .i64 0)) t_2 (.int .i64 0)) w fun t_3 w =>
  cd t_3 (
    pvv prog (Instr.fieldAt 49 x_0 1) w fun t_4 w =>
    ldv prog (Instr.loadAt 23 t_4) w fun t_5 w =>
    pvv prog (Instr.fieldAt 49 x_0 3) w fun t_6 w =>
    ldv prog (Instr.loadAt 3 t_6) w fun t_7 w =>
    Calls prog 12 #[t_p0, t_5, t_7] w (Ret fun t_8 w =>
    pvv prog (Instr.extract t_8 0) w fun t_9 w =>
    pvv prog (Instr.extract t_8 1) w fun t_10 w =>
    efv prog (Instr.alloc 25 true (.tuple #[])) w fun a_11 w =>
    efu prog (Instr.storeAt 25 a_11 t_9) w fun u_12 w =>
    pvv prog (Instr.fieldAt 49 x_0 1) w fun t_13 w =>
    ldv prog (Instr.loadAt 23 t_13) w fun t_14 w =>
    pvv prog (Instr.fieldAt 49 x_0 3) w fun t_15 w =>
    ldv prog (Instr.loadAt 3 t_15) w fun t_16 w =>
    Calls prog 25 #[r_p1, t_14, t_16] w (Ret fun t_17 w =>
    pvv prog (Instr.extract t_17 0) w fun t_18 w =>
    pvv prog (Instr.extract t_17 1) w fun t_19 w =>
    efv prog (Instr.alloc 25 true (.tuple #[])) w fun b_20 w =>
    efu prog (Instr.storeAt 25 b_20 t_18) w fun u_21 w =>
    ldv prog (Instr.loadAt 25 a_11) w fun t_22 w =>
    ldv prog (Instr.loadAt 25 b_20) w fun t_23 w =>
    pvv prog (oEq .eql 25 (.tmp 49) (.tmp 50) t_22 t_23) w fun t_24 w =>
    gate (some (t_24, true)) (fun K => K t_10 w) w fun t_25 w =>
    gate (some (t_24, true)) (fun K => K t_19 w) w fun t_26 w =>
    gate (some (t_24, true)) (fun K => pvv prog (oEq .eql 34 (.tmp 53) (.tmp 54) t_25 t_26) w K) w fun t_27 w =>
    pv prog (oPick t_24 t_27 (.bool false)) w fun t_28 w =>
    K t_28 w))) <|
  pvv prog (oEq .eql 3 (.tmp 28) (.const (.int .i64 1)) t_2 (.int .i64 1)) w fun t_29 w =>
  cd t_29 (
    pvv prog (Instr.fieldAt 49 x_0 2) w fun t_30 w =>
    ldv prog (Instr.loadAt 3 t_30) w fun t_31 w =>
    pvv prog (Instr.fieldAt 49 x_0 3) w fun t_32 w =>
    ldv prog (Instr.loadAt 3 t_32) w fun t_33 w =>
    Calls prog 14 #[t_p0, t_31, t_33] w (Ret fun t_34 w =>
    pvv prog (Instr.extract t_34 0) w fun t_35 w =>
    pvv prog (Instr.extract t_34 1) w fun t_36 w =>
    efv prog (Instr.alloc 25 true (.tuple #[])) w fun a_37 w =>
    efu prog (Instr.storeAt 25 a_37 t_35) w fun u_38 w =>
    pvv prog (Instr.fieldAt 49 x_0 2) w fun t_39 w =>
    ldv prog (Instr.loadAt 3 t_39) w fun t_40 w =>
    pvv prog (Instr.fieldAt 49 x_0 3) w fun t_41 w =>
    ldv prog (Instr.loadAt 3 t_41) w fun t_42 w =>
    Calls prog 26 #[r_p1, t_40, t_42] w (Ret fun t_43 w =>
    pvv prog (Instr.extract t_43 0) w fun t_44 w =>
    pvv prog (Instr.extract t_43 1) w fun t_45 w =>
    efv prog (Instr.alloc 25 true (.tuple #[])) w fun b_46 w =>
    efu prog (Instr.storeAt 25 b_46 t_44) w fun u_47 w =>
    ldv prog (Instr.loadAt 25 a_37) w fun t_48 w =>
    ldv prog (Instr.loadAt 25 b_46) w fun t_49 w =>
    pvv prog (oEq .eql 25 (.tmp 77) (.tmp 78) t_48 t_49) w fun t_50 w =>
    gate (some (t_50, true)) (fun K => K t_36 w) w fun t_51 w =>
    gate (some (t_50, true)) (fun K => K t_45 w) w fun t_52 w =>
    gate (some (t_50, true)) (fun K => pvv prog (oEq .eql 34 (.tmp 81) (.tmp 82) t_51 t_52) w K) w fun t_53 w =>
    pv prog (oPick t_50 t_53 (.bool false)) w fun t_54 w =>
    K t_54 w))) <|
  pvv prog (oEq .eql 3 (.tmp 28) (.const (.int .i64 2)) t_2 (.int .i64 2)) w fun t_55 w =>
  cd t_55 (
    pvv prog (Instr.fieldAt 49 x_0 2) w fun t_56 w =>
    ldv prog (Instr.loadAt 3 t_56) w fun t_57 w =>
    pvv prog (Instr.fieldAt 49 x_0 3) w fun t_58 w =>
    ldv prog (Instr.loadAt 3 t_58) w fun t_59 w =>
    Calls prog 15 #[t_p0, t_57, t_59] w (Ret fun t_60 w =>
    pvv prog (Instr.extract t_60 0) w fun t_61 w =>
    pvv prog (Instr.extract t_60 1) w fun t_62 w =>
    efv prog (Instr.alloc 25 true (.tuple #[])) w fun a_63 w =>
    efu prog (Instr.storeAt 25 a_63 t_61) w fun u_64 w =>
    pvv prog (Instr.fieldAt 49 x_0 2) w fun t_65 w =>
    ldv prog (Instr.loadAt 3 t_65) w fun t_66 w =>
    pvv prog (Instr.fieldAt 49 x_0 3) w fun t_67 w =>
    ldv prog (Instr.loadAt 3 t_67) w fun t_68 w =>
    Calls prog 27 #[r_p1, t_66, t_68] w (Ret fun t_69 w =>
    pvv prog (Instr.extract t_69 0) w fun t_70 w =>
    pvv prog (Instr.extract t_69 1) w fun t_71 w =>
    efv prog (Instr.alloc 25 true (.tuple #[])) w fun b_72 w =>
    efu prog (Instr.storeAt 25 b_72 t_70) w fun u_73 w =>
    ldv prog (Instr.loadAt 25 a_63) w fun t_74 w =>
    ldv prog (Instr.loadAt 25 b_72) w fun t_75 w =>
    pvv prog (oEq .eql 25 (.tmp 105) (.tmp 106) t_74 t_75) w fun t_76 w =>
    gate (some (t_76, true)) (fun K => K t_62 w) w fun t_77 w =>
    gate (some (t_76, true)) (fun K => K t_71 w) w fun t_78 w =>
    gate (some (t_76, true)) (fun K => pvv prog (oEq .eql 34 (.tmp 109) (.tmp 110) t_77 t_78) w K) w fun t_79 w =>
    pv prog (oPick t_76 t_79 (.bool false)) w fun t_80 w =>
    K t_80 w))) <|
  pvv prog (oEq .eql 3 (.tmp 28) (.const (.int .i64 3)) t_2 (.int .i64 3)) w fun t_81 w =>
  cd t_81 (
    dr w fun w =>
    pvv prog (Instr.fieldAt 49 x_0 2) w fun t_82 w =>
    pvv prog (Instr.fieldAt 49 x_0 2) w fun t_83 w =>
    bindS (vN (Instr.loadAt 3 t_82)) fun m_85 => ldv prog (Instr.loadAt 3 t_82) w fun t_84 w =>
    bindS (vN (Instr.loadAt 3 t_83)) fun m_87 => ldv prog (Instr.loadAt 3 t_83) w fun t_86 w =>
    Calls prog 18 #[t_p0, t_84] w (Ret fun t_88 w => stay prog none m_87 t_86 w <| 
    Calls prog 28 #[r_p1, t_86] w (Ret fun t_89 w => stay prog none m_85 t_84 w <| 
    pvv prog (oEq .eql 34 (.tmp 118) (.tmp 122) t_88 t_89) w fun t_90 w =>
    K t_90 w))) <|
  pvv prog (oEq .eql 3 (.tmp 28) (.const (.int .i64 4)) t_2 (.int .i64 4)) w fun t_93 w =>
  cd t_93 (
    dr w fun w =>
    pvv prog (Instr.fieldAt 49 x_0 1) w fun t_94 w =>
    pvv prog (Instr.fieldAt 49 x_0 1) w fun t_95 w =>
    bindS (vN (Instr.loadAt 23 t_94)) fun m_97 => ldv prog (Instr.loadAt 23 t_94) w fun t_96 w =>
    bindS (vN (Instr.loadAt 23 t_95)) fun m_99 => ldv prog (Instr.loadAt 23 t_95) w fun t_98 w =>
    Calls prog 30 #[t_p0, t_96] w (Ret fun t_100 w => stay prog none m_99 t_98 w <| 
    Calls prog 31 #[r_p1, t_98] w (Ret fun t_101 w => stay prog none m_97 t_96 w <| 
    Calls prog 29 #[t_100, t_101] w (Ret fun t_102 w => stay prog none m_99 t_98 w <| stay prog none m_97 t_96 w <| 
    K t_102 w)))) <|
  pvv prog (oEq .eql 3 (.tmp 28) (.const (.int .i64 5)) t_2 (.int .i64 5)) w fun t_106 w =>
  cd t_106 (
    pvv prog (Instr.fieldAt 49 x_0 3) w fun t_107 w =>
    ldv prog (Instr.loadAt 3 t_107) w fun t_108 w =>
    Calls prog 32 #[t_p0, t_108] w (Ret fun t_109 w =>
    pvv prog (Instr.extract t_109 0) w fun t_110 w =>
    pvv prog (Instr.extract t_109 1) w fun t_111 w =>
    pvv prog (Instr.fieldAt 49 x_0 3) w fun t_112 w =>
    ldv prog (Instr.loadAt 3 t_112) w fun t_113 w =>
    Calls prog 33 #[r_p1, t_113] w (Ret fun t_114 w =>
    pvv prog (Instr.extract t_114 0) w fun t_115 w =>
    pvv prog (Instr.extract t_114 1) w fun t_116 w =>
    Calls prog 29 #[t_110, t_115] w (Ret fun t_117 w =>
    gate (some (t_117, true)) (fun K => K t_111 w) w fun t_118 w =>
    gate (some (t_117, true)) (fun K => K t_116 w) w fun t_119 w =>
    gate (some (t_117, true)) (fun K => pvv prog (oEq .eql 34 (.tmp 155) (.tmp 156) t_118 t_119) w K) w fun t_120 w =>
    pv prog (oPick t_117 t_120 (.bool false)) w fun t_121 w =>
    K t_121 w)))) <|
  pvv prog (Instr.fieldAt 49 x_0 1) w fun t_122 w =>
  ldv prog (Instr.loadAt 23 t_122) w fun t_123 w =>
  pvv prog (Instr.fieldAt 49 x_0 3) w fun t_124 w =>
  ldv prog (Instr.loadAt 3 t_124) w fun t_125 w =>
  Calls prog 13 #[t_p0, t_123, t_125] w (Ret fun t_126 w =>
  pvv prog (Instr.extract t_126 0) w fun t_127 w =>
  pvv prog (Instr.extract t_126 1) w fun t_128 w =>
  pvv prog (Instr.fieldAt 49 x_0 1) w fun t_129 w =>
  ldv prog (Instr.loadAt 23 t_129) w fun t_130 w =>
  pvv prog (Instr.fieldAt 49 x_0 3) w fun t_131 w =>
  ldv prog (Instr.loadAt 3 t_131) w fun t_132 w =>
  Calls prog 34 #[r_p1, t_130, t_132] w (Ret fun t_133 w =>
  pvv prog (Instr.extract t_133 0) w fun t_134 w =>
  pvv prog (Instr.extract t_133 1) w fun t_135 w =>
  Calls prog 35 #[t_127, t_134] w (Ret fun t_136 w =>
  gate (some (t_136, true)) (fun K => K t_128 w) w fun t_137 w =>
  gate (some (t_136, true)) (fun K => K t_135 w) w fun t_138 w =>
  gate (some (t_136, true)) (fun K => pvv prog (oEq .eql 34 (.tmp 181) (.tmp 182) t_137 t_138) w K) w fun t_139 w =>
  pv prog (oPick t_136 t_139 (.bool false)) w fun t_140 w =>
  gate (some (t_140, true)) (fun K => K t_127 w) w fun t_141 w =>
  gate (some (t_140, true)) (fun K => pv prog (oBi .len #[37] 3 #[false] #[t_141]) w K) w fun t_142 w =>
  gate (some (t_140, true)) (fun K => pvv prog (binOp .leq 3 t_142 (.int .i64 1048576)) w K) w fun t_143 w =>
  pv prog (oPick t_140 t_143 (.bool false)) w fun t_144 w =>
  K t_144 w)))
theorem B17_eq (t_p0 r_p1 x_p2 : Value) (w : World) (K : Value → World → Prop) : denFn prog Tryd.f17 T17 [t_p0, r_p1, x_p2] w K = B17 t_p0 r_p1 x_p2 w K := by kernel_rfl
theorem c17 {t_p0 r_p1 x_p2 : Value} {w : World} {K : Value → World → Prop} (h : B17 t_p0 r_p1 x_p2 w K) : Calls prog 17 #[t_p0, r_p1, x_p2] w (Ret K) :=
  denFn_calls Tryd.func17 T17_ok (Eq.mpr (B17_eq t_p0 r_p1 x_p2 w K) h)

-- 65 unicode/utf8.decodeRuneInStringSlow
def T65 : Ann := (.seq .none (.seq .none (.seq (.seq .none (.seq (.seq .none .none) .none)) (.seq .none (.seq .none (.seq (.seq .none (.seq (.seq .none (.seq .none .none)) .none)) (.seq .none (.seq .none (.seq (.seq .none (.seq (.seq .none .none) .none)) (.seq .none (.seq (.seq .none (.seq (.seq .none .none) .none)) (.seq (.seq .none (.seq (.seq .none .none) .none)) (.seq .none (.seq (.seq .none (.seq (.seq .none .none) .none)) (.seq (.seq .none (.seq (.seq .none .none) .none)) (.seq .none (.seq (.seq .none (.seq (.seq .none .none) .none)) (.seq .none .none))))))))))))))))))
theorem T65_ok : chkFn prog Tryd.f65 T65 = true := by kernel_rfl
def B65 (s_p0 : Value) (w : World) (K : Value → World → Prop) : Prop :=
  pv prog (oBi .len #[9] 3 #[false] #[s_p0]) w fun t_0 w =>
  pvv prog (binOp .lss 3 t_0 (.int .i64 1)) w fun t_1 w =>
  cd t_1 (
    K (.tuple #[(.int .i32 65533), (.int .i64 0)]) w) <|
  pvv prog (Instr.index 9 s_p0 (.int .i64 0)) w fun t_2 w =>
  pvv prog (Instr.indexAt 112 (.pointer (some ⟨0, 0, none⟩)) t_2) w fun t_3 w =>
  ldv prog (Instr.loadAt 5 t_3) w fun t_4 w =>
  pvv prog (binOp .geq 5 t_4 (.int .u8 240)) w fun t_5 w =>
  cd t_5 (
    pvv prog (convert 5 21 t_4) w fun t_6 w =>
    pvv prog (binOp .shl 21 t_6 (.int .u64 31)) w fun t_7 w =>
    pvv prog (binOp .shr 21 t_7 (.int .u64 31)) w fun t_8 w =>
    pvv prog (Instr.index 9 s_p0 (.int .i64 0)) w fun t_9 w =>
    pvv prog (convert 5 21 t_9) w fun t_10 w =>
    pvv prog (binOp .andNot 21 t_10 t_8) w fun t_11 w =>
    pvv prog (binOp .and 21 (.int .i32 65533) t_8) w fun t_12 w =>
    pvv prog (binOp .or 21 t_11 t_12) w fun t_13 w =>
    K (.tuple #[t_13, (.int .i64 1)]) w) <|
  pvv prog (binOp .and 5 t_4 (.int .u8 7)) w fun t_14 w =>
  pvv prog (convert 5 3 t_14) w fun t_15 w =>
  pvv prog (binOp .shr 5 t_4 (.int .u64 4)) w fun t_16 w =>
  pvv prog (Instr.indexAt 115 (.pointer (some ⟨1, 0, none⟩)) t_16) w fun t_17 w =>
  ldv prog (Instr.loadAt 114 t_17) w fun t_18 w =>
  efv prog (Instr.alloc 114 true (.tuple #[])) w fun accept_19 w =>
  efu prog (Instr.storeAt 114 accept_19 t_18) w fun u_20 w =>
  pvv prog (binOp .lss 3 t_0 t_15) w fun t_21 w =>
  cd t_21 (
    K (.tuple #[(.int .i32 65533), (.int .i64 1)]) w) <|
  pvv prog (Instr.index 9 s_p0 (.int .i64 1)) w fun t_22 w =>
  pvv prog (Instr.fieldAt 114 accept_19 0) w fun t_23 w =>
  ldv prog (Instr.loadAt 5 t_23) w fun t_24 w =>
  pvv prog (binOp .lss 5 t_22 t_24) w fun t_25 w =>
  gate (some (t_25, false)) (fun K => pvv prog (Instr.fieldAt 114 accept_19 1) w K) w fun t_26 w =>
  gate (some (t_25, false)) (fun K => ldv prog (Instr.loadAt 5 t_26) w K) w fun t_27 w =>
  gate (some (t_25, false)) (fun K => K t_22 w) w fun t_28 w =>
  gate (some (t_25, false)) (fun K => pvv prog (binOp .lss 5 t_27 t_28) w K) w fun t_29 w =>
  pv prog (oPick t_25 (.bool true) t_29) w fun t_30 w =>
  cd t_30 (
    K (.tuple #[(.int .i32 65533), (.int .i64 1)]) w) <|
  pvv prog (binOp .leq 3 t_15 (.int .i64 2)) w fun t_31 w =>
  cd t_31 (
    pvv prog (binOp .and 5 t_2 (.int .u8 31)) w fun t_32 w =>
    pvv prog (convert 5 21 t_32) w fun t_33 w =>
    pvv prog (binOp .shl 21 t_33 (.int .u64 6)) w fun t_34 w =>
    pvv prog (binOp .and 5 t_22 (.int .u8 63)) w fun t_35 w =>
    pvv prog (convert 5 21 t_35) w fun t_36 w =>
    pvv prog (binOp .or 21 t_34 t_36) w fun t_37 w =>
    K (.tuple #[t_37, (.int .i64 2)]) w) <|
  pvv prog (Instr.index 9 s_p0 (.int .i64 2)) w fun t_38 w =>
  pvv prog (binOp .lss 5 t_38 (.int .u8 128)) w fun t_39 w =>
  gate (some (t_39, false)) (fun K => K t_38 w) w fun t_40 w =>
  gate (some (t_39, false)) (fun K => pvv prog (binOp .lss 5 (.int .u8 191) t_40) w K) w fun t_41 w =>
  pv prog (oPick t_39 (.bool true) t_41) w fun t_42 w =>
  cd t_42 (
    K (.tuple #[(.int .i32 65533), (.int .i64 1)]) w) <|
  pvv prog (binOp .leq 3 t_15 (.int .i64 3)) w fun t_43 w =>
  cd t_43 (
    pvv prog (binOp .and 5 t_2 (.int .u8 15)) w fun t_44 w =>
    pvv prog (convert 5 21 t_44) w fun t_45 w =>
    pvv prog (binOp .shl 21 t_45 (.int .u64 12)) w fun t_46 w =>
    pvv prog (binOp .and 5 t_22 (.int .u8 63)) w fun t_47 w =>
    pvv prog (convert 5 21 t_47) w fun t_48 w =>
    pvv prog (binOp .shl 21 t_48 (.int .u64 6)) w fun t_49 w =>
    pvv prog (binOp .or 21 t_46 t_49) w fun t_50 w =>
    pvv prog (binOp .and 5 t_38 (.int .u8 63)) w fun t_51 w =>
    pvv prog (convert 5 21 t_51) w fun t_52 w =>
    pvv prog (binOp .or 21 t_50 t_52) w fun t_53 w =>
    K (.tuple #[t_53, (.int .i64 3)]) w) <|
  pvv prog (Instr.index 9 s_p0 (.int .i64 3)) w fun t_54 w =>
  pvv prog (binOp .lss 5 t_54 (.int .u8 128)) w fun t_55 w =>
  gate (some (t_55, false)) (fun K => K t_54 w) w fun t_56 w =>
  gate (some (t_55, false)) (fun K => pvv prog (binOp .lss 5 (.int .u8 191) t_56) w K) w fun t_57 w =>
  pv prog (oPick t_55 (.bool true) t_57) w fun t_58 w =>
  cd t_58 (
    K (.tuple #[(.int .i32 65533), (.int .i64 1)]) w) <|
  pvv prog (binOp .and 5 t_2 (.int .u8 7)) w fun t_59 w =>
  pvv prog (convert 5 21 t_59) w fun t_60 w =>
  pvv prog (binOp .shl 21 t_60 (.int .u64 18)) w fun t_61 w =>
  pvv prog (binOp .and 5 t_22 (.int .u8 63)) w fun t_62 w =>
  pvv prog (convert 5 21 t_62) w fun t_63 w =>
  pvv prog (binOp .shl 21 t_63 (.int .u64 12)) w fun t_64 w =>
  pvv prog (binOp .or 21 t_61 t_64) w fun t_65 w =>
  pvv prog (binOp .and 5 t_38 (.int .u8 63)) w fun t_66 w =>
  pvv prog (convert 5 21 t_66) w fun t_67 w =>
  pvv prog (binOp .shl 21 t_67 (.int .u64 6)) w fun t_68 w =>
  pvv prog (binOp .or 21 t_65 t_68) w fun t_69 w =>
  pvv prog (binOp .and 5 t_54 (.int .u8 63)) w fun t_70 w =>
  pvv prog (convert 5 21 t_70) w fun t_71 w =>
  pvv prog (binOp .or 21 t_69 t_71) w fun t_72 w =>
  K (.tuple #[t_72, (.int .i64 4)]) w
theorem B65_eq (s_p0 : Value) (w : World) (K : Value → World → Prop) : denFn prog Tryd.f65 T65 [s_p0] w K = B65 s_p0 w K := by kernel_rfl
theorem c65 {s_p0 : Value} {w : World} {K : Value → World → Prop} (h : B65 s_p0 w K) : Calls prog 65 #[s_p0] w (Ret K) :=
  denFn_calls Tryd.func65 T65_ok (Eq.mpr (B65_eq s_p0 w K) h)

-- 83 slices.siftDownOrdered[int]
def T83 : Ann := (.seq .none (.block (.loop 75557863725914323417856 [8] (.block (.seq .none (.seq (.seq .none (.seq .none .none)) (.meet 549755683328 [9] (.seq (.draw [.op 0 .pure, .op 1 .pure, .op 2 .pure, .op 3 .pure, .op 4 .pure, .op 5 .pure, .op 6 .pure, .op 7 .pure, .op 8 .pure, .op 9 .pure, .op 11 .pure, .op 12 .pure, .op 13 .pure, .op 14 .pure, .op 15 .pure, .op 16 .pure, .op 10 .load, .op 17 .load, .op 18 .eff, .op 19 .pure]) (.seq .none .none)) (.seq (.seq (.draw [.op 0 .pure, .op 1 .pure, .op 2 .pure, .op 3 .pure, .op 4 .pure, .op 6 .pure, .op 7 .pure, .op 8 .pure, .op 9 .pure, .op 10 .pure, .op 5 .load, .op 11 .load, .op 12 .eff, .op 13 .pure]) (.seq .none .none)) (.seq (.draw [.op 0 .pure, .op 1 .pure, .op 2 .pure, .op 3 .pure, .op 4 .pure, .op 5 .pure, .op 6 .pure, .op 7 .pure, .op 8 .pure, .op 9 .pure, .op 10 .pure, .op 11 .pure, .op 12 .pure, .op 14 .pure, .op 15 .pure, .op 16 .pure, .op 17 .pure, .op 18 .pure, .op 13 .load, .op 19 .load, .op 20 .pure, .op 21 .eff, .op 22 .pure, .op 23 .eff]) .none)))))))))
theorem T83_ok : chkFn prog Tryd.f83 T83 = true := by kernel_rfl
def B83 (data_p0 lo_p1 hi_p2 first_p3 : Value) (w : World) (K : Value → World → Prop) : Prop :=
  lp (fun σ w again_1 => pop σ fun root_0 σ => fin σ <|
    pvv prog (binOp .mul 3 (.int .i64 2) root_0) w fun t_2 w =>
    pvv prog (binOp .add 3 t_2 (.int .i64 1)) w fun t_3 w =>
    pvv prog (binOp .geq 3 t_3 hi_p2) w fun t_4 w =>
    cd t_4 (
      K (.tuple #[]) w) <|
    jn (fun σ w => pop σ fun child_5 σ => fin σ <|
      dr w fun w =>
      pvv prog (binOp .add 3 first_p3 root_0) w fun t_6 w =>
      pvv prog (Instr.indexAt 65 data_p0 t_6) w fun t_7 w =>
      pvv prog (binOp .add 3 first_p3 child_5) w fun t_8 w =>
      pvv prog (Instr.indexAt 65 data_p0 t_8) w fun t_9 w =>
      bindS (vN (Instr.loadAt 3 t_7)) fun m_11 => ldv prog (Instr.loadAt 3 t_7) w fun t_10 w =>
      bindS (vN (Instr.loadAt 3 t_9)) fun m_13 => ldv prog (Instr.loadAt 3 t_9) w fun t_12 w =>
      Calls prog 74 #[t_10, t_12] w (Ret fun t_14 w =>
      pvv prog (Op.unary .not t_14) w fun t_15 w =>
      cd t_15 (
        K (.tuple #[]) w) <|
      dr w fun w =>
      pvv prog (binOp .add 3 first_p3 root_0) w fun t_16 w =>
      pvv prog (binOp .add 3 first_p3 child_5) w fun t_17 w =>
      pvv prog (binOp .add 3 first_p3 child_5) w fun t_18 w =>
      pvv prog (Instr.indexAt 65 data_p0 t_18) w fun t_19 w =>
      pvv prog (binOp .add 3 first_p3 root_0) w fun t_20 w =>
      pvv prog (Instr.indexAt 65 data_p0 t_20) w fun t_21 w =>
      bindS (vN (Instr.loadAt 3 t_19)) fun m_23 => ldv prog (Instr.loadAt 3 t_19) w fun t_22 w =>
      bindS (vN (Instr.loadAt 3 t_21)) fun m_25 => ldv prog (Instr.loadAt 3 t_21) w fun t_24 w =>
      pvv prog (Instr.indexAt 65 data_p0 t_16) w fun t_26 w =>
      efu prog (Instr.storeAt 3 t_26 t_22) w fun u_27 w =>
      pvv prog (Instr.indexAt 65 data_p0 t_17) w fun t_28 w =>
      efu prog (Instr.storeAt 3 t_28 t_24) w fun u_29 w =>
      again_1 [child_5] w)) fun k_33 =>
    dr w fun w =>
    pvv prog (binOp .add 3 t_3 (.int .i64 1)) w fun t_34 w =>
    pvv prog (binOp .lss 3 t_34 hi_p2) w fun t_35 w =>
    gate (some (t_35, true)) (fun K => K data_p0 w) w fun t_36 w =>
    gate (some (t_35, true)) (fun K => K first_p3 w) w fun t_37 w =>
    gate (some (t_35, true)) (fun K => K t_3 w) w fun t_38 w =>
    gate (some (t_35, true)) (fun K => pvv prog (binOp .add 3 t_37 t_38) w K) w fun t_39 w =>
    gate (some (t_35, true)) (fun K => pvv prog (Instr.indexAt 65 t_36 t_39) w K) w fun t_40 w =>
    gate (some (t_35, true)) (fun K => K data_p0 w) w fun t_41 w =>
    gate (some (t_35, true)) (fun K => K first_p3 w) w fun t_42 w =>
    gate (some (t_35, true)) (fun K => K t_3 w) w fun t_43 w =>
    gate (some (t_35, true)) (fun K => pvv prog (binOp .add 3 t_42 t_43) w K) w fun t_44 w =>
    gate (some (t_35, true)) (fun K => pvv prog (binOp .add 3 t_44 (.int .i64 1)) w K) w fun t_45 w =>
    gate (some (t_35, true)) (fun K => pvv prog (Instr.indexAt 65 t_41 t_45) w K) w fun t_46 w =>
    bindS (vN (Instr.loadAt 3 t_40)) fun m_48 => gate (some (t_35, true)) (fun K => ldv prog (Instr.loadAt 3 t_40) w K) w fun t_47 w =>
    bindS (vN (Instr.loadAt 3 t_46)) fun m_50 => gate (some (t_35, true)) (fun K => ldv prog (Instr.loadAt 3 t_46) w K) w fun t_49 w =>
    gate (some (t_35, true)) (fun K => Calls prog 74 #[t_47, t_49] w (Ret fun s_54 w => K s_54 w)) w fun t_51 w =>
    pv prog (oPick t_35 t_51 (.bool false)) w fun t_52 w =>
    cd t_52 (
      pvv prog (binOp .add 3 t_3 (.int .i64 1)) w fun t_53 w =>
      k_33 [t_53] w) <|
    k_33 [t_3] w) [lo_p1] w
theorem B83_eq (data_p0 lo_p1 hi_p2 first_p3 : Value) (w : World) (K : Value → World → Prop) : denFn prog Tryd.f83 T83 [data_p0, lo_p1, hi_p2, first_p3] w K = B83 data_p0 lo_p1 hi_p2 first_p3 w K := by kernel_rfl
theorem c83 {data_p0 lo_p1 hi_p2 first_p3 : Value} {w : World} {K : Value → World → Prop} (h : B83 data_p0 lo_p1 hi_p2 first_p3 w K) : Calls prog 83 #[data_p0, lo_p1, hi_p2, first_p3] w (Ret K) :=
  denFn_calls Tryd.func83 T83_ok (Eq.mpr (B83_eq data_p0 lo_p1 hi_p2 first_p3 w K) h)

-- 68 slices.insertionSortOrdered[int]
def T68 : Ann := (.seq .none (.block (.loop 562949953420480 [6] (.seq (.seq .none (.seq .none .none)) (.seq (.block (.seq .none (.block (.loop 562949953355904 [7] (.seq (.seq (.draw [.op 0 .pure, .op 1 .pure, .op 2 .pure, .op 3 .pure, .op 4 .pure, .op 5 .pure, .op 6 .pure, .op 8 .pure, .op 9 .pure, .op 10 .pure, .op 11 .pure, .op 7 .load, .op 12 .load, .op 13 .eff, .op 14 .pure]) (.seq .none .none)) (.seq (.block (.draw [.op 0 .pure, .op 1 .pure, .op 2 .pure, .op 3 .pure, .op 4 .pure, .op 5 .pure, .op 6 .pure, .op 7 .pure, .op 8 .pure, .op 10 .pure, .op 11 .pure, .op 12 .pure, .op 9 .load, .op 13 .load, .op 14 .pure, .op 15 .eff, .op 16 .pure, .op 17 .eff])) .none)))))) .none)))))
theorem T68_ok : chkFn prog Tryd.f68 T68 = true := by kernel_rfl
def B68 (data_p0 a_p1 b_p2 : Value) (w : World) (K : Value → World → Prop) : Prop :=
  pvv prog (binOp .add 3 a_p1 (.int .i64 1)) w fun t_0 w =>
  lp (fun σ w again_2 => pop σ fun i_1 σ => fin σ <|
    pvv prog (binOp .lss 3 i_1 b_p2) w fun t_3 w =>
    cd t_3 (
      lp (fun σ w again_5 => pop σ fun j_4 σ => fin σ <|
        dr w fun w =>
        pvv prog (binOp .gtr 3 j_4 a_p1) w fun t_6 w =>
        gate (some (t_6, true)) (fun K => K data_p0 w) w fun t_7 w =>
        gate (some (t_6, true)) (fun K => K j_4 w) w fun t_8 w =>
        gate (some (t_6, true)) (fun K => pvv prog (Instr.indexAt 65 t_7 t_8) w K) w fun t_9 w =>
        gate (some (t_6, true)) (fun K => K data_p0 w) w fun t_10 w =>
        gate (some (t_6, true)) (fun K => K j_4 w) w fun t_11 w =>
        gate (some (t_6, true)) (fun K => pvv prog (binOp .sub 3 t_11 (.int .i64 1)) w K) w fun t_12 w =>
        gate (some (t_6, true)) (fun K => pvv prog (Instr.indexAt 65 t_10 t_12) w K) w fun t_13 w =>
        bindS (vN (Instr.loadAt 3 t_9)) fun m_15 => gate (some (t_6, true)) (fun K => ldv prog (Instr.loadAt 3 t_9) w K) w fun t_14 w =>
        bindS (vN (Instr.loadAt 3 t_13)) fun m_17 => gate (some (t_6, true)) (fun K => ldv prog (Instr.loadAt 3 t_13) w K) w fun t_16 w =>
        gate (some (t_6, true)) (fun K => Calls prog 74 #[t_14, t_16] w (Ret fun s_36 w => K s_36 w)) w fun t_18 w =>
        pv prog (oPick t_6 t_18 (.bool false)) w fun t_19 w =>
        cd t_19 (
          dr w fun w =>
          pvv prog (binOp .sub 3 j_4 (.int .i64 1)) w fun t_20 w =>
          pvv prog (binOp .sub 3 j_4 (.int .i64 1)) w fun t_21 w =>
          pvv prog (Instr.indexAt 65 data_p0 t_21) w fun t_22 w =>
          pvv prog (Instr.indexAt 65 data_p0 j_4) w fun t_23 w =>
          bindS (vN (Instr.loadAt 3 t_22)) fun m_25 => ldv prog (Instr.loadAt 3 t_22) w fun t_24 w =>
          bindS (vN (Instr.loadAt 3 t_23)) fun m_27 => ldv prog (Instr.loadAt 3 t_23) w fun t_26 w =>
          pvv prog (Instr.indexAt 65 data_p0 j_4) w fun t_28 w =>
          efu prog (Instr.storeAt 3 t_28 t_24) w fun u_29 w =>
          pvv prog (Instr.indexAt 65 data_p0 t_20) w fun t_30 w =>
          efu prog (Instr.storeAt 3 t_30 t_26) w fun u_31 w =>
          pvv prog (binOp .sub 3 j_4 (.int .i64 1)) w fun t_32 w =>
          again_5 [t_32] w) <|
        pvv prog (binOp .add 3 i_1 (.int .i64 1)) w fun t_35 w =>
        again_2 [t_35] w) [i_1] w) <|
    K (.tuple #[]) w) [t_0] w
theorem B68_eq (data_p0 a_p1 b_p2 : Value) (w : World) (K : Value → World → Prop) : denFn prog Tryd.f68 T68 [data_p0, a_p1, b_p2] w K = B68 data_p0 a_p1 b_p2 w K := by kernel_rfl
theorem c68 {data_p0 a_p1 b_p2 : Value} {w : World} {K : Value → World → Prop} (h : B68 data_p0 a_p1 b_p2 w K) : Calls prog 68 #[data_p0, a_p1, b_p2] w (Ret K) :=
  denFn_calls Tryd.func68 T68_ok (Eq.mpr (B68_eq data_p0 a_p1 b_p2 w K) h)

-- 7 holdfast/holdfastlaw11.SessionFew
def T7 : Ann := (.seq .none (.seq .none (.seq (.seq .none (.seq (.seq .none .none) .none)) (.seq (.seq .none (.block (.loop 8589869568 [9] (.seq (.seq .none (.seq .none .none)) (.seq (.block .none) .none))))) (.seq .none (.seq .none .none))))))
theorem T7_ok : chkFn prog Tryd.f7 T7 = true := by kernel_rfl
def B7 (l_p0 o_p1 now_p2 : Value) (w : World) (K : Value → World → Prop) : Prop :=
  efv prog (Instr.box 23 o_p1) w fun o_0 w =>
  Calls prog 11 #[] w (Ret fun t_1 w =>
  Calls prog 16 #[] w (Ret fun t_2 w =>
  Calls prog 8 #[] w (Ret fun t_3 w =>
  pvv prog (Op.unary .not t_3) w fun t_4 w =>
  cd t_4 (
    K (.bool false) w) <|
  lp (fun σ w again_6 => pop σ fun i_5 σ => fin σ <|
    pv prog (oBi .len #[44] 3 #[false] #[l_p0]) w fun t_7 w =>
    pvv prog (binOp .lss 3 i_5 t_7) w fun t_8 w =>
    gate (some (t_8, true)) (fun K => K i_5 w) w fun t_9 w =>
    gate (some (t_8, true)) (fun K => pvv prog (binOp .lss 3 t_9 (.int .i64 80)) w K) w fun t_10 w =>
    pv prog (oPick t_8 t_10 (.bool false)) w fun t_11 w =>
    cd t_11 (
      pvv prog (Instr.indexAt 44 l_p0 i_5) w fun t_12 w =>
      ldv prog (Instr.loadAt 49 t_12) w fun t_13 w =>
      Calls prog 17 #[t_1, t_2, t_13] w (Ret fun t_14 w =>
      pvv prog (binOp .add 3 i_5 (.int .i64 1)) w fun t_15 w =>
      again_6 [t_15] w)) <|
    ldv prog (Instr.loadAt 23 o_0) w fun t_16 w =>
    Calls prog 13 #[t_1, t_16, now_p2] w (Ret fun t_17 w =>
    pvv prog (Instr.extract t_17 0) w fun t_18 w =>
    pvv prog (Instr.extract t_17 1) w fun t_19 w =>
    pvv prog (oEq .neq 34 (.tmp 40) (.const (.int .i64 0)) t_19 (.int .i64 0)) w fun t_20 w =>
    gate (some (t_20, false)) (fun K => K t_18 w) w fun t_21 w =>
    gate (some (t_20, false)) (fun K => pv prog (oBi .len #[37] 3 #[false] #[t_21]) w K) w fun t_22 w =>
    gate (some (t_20, false)) (fun K => pvv prog (binOp .leq 3 t_22 (.int .i64 3)) w K) w fun t_23 w =>
    pv prog (oPick t_20 (.bool true) t_23) w fun t_24 w =>
    gate (some (t_24, true)) (fun K => K t_19 w) w fun t_25 w =>
    gate (some (t_24, true)) (fun K => pvv prog (oEq .eql 34 (.tmp 48) (.const (.int .i64 0)) t_25 (.int .i64 0)) w K) w fun t_26 w =>
    gate (some (t_24, true)) (fun K => K t_26 w) w fun t_27 w =>
    gate (some (t_27, false)) (fun K => K t_18 w) w fun t_28 w =>
    gate (some (t_27, false)) (fun K => pv prog (oBi .len #[37] 3 #[false] #[t_28]) w K) w fun t_29 w =>
    gate (some (t_27, false)) (fun K => pvv prog (oEq .eql 3 (.tmp 52) (.const (.int .i64 0)) t_29 (.int .i64 0)) w K) w fun t_30 w =>
    gate (some (t_24, true)) (fun K => pv prog (oPick t_27 (.bool true) t_30) w K) w fun t_31 w =>
    pv prog (oPick t_24 t_31 (.bool false)) w fun t_32 w =>
    K t_32 w)) [(.int .i64 0)] w)))
theorem B7_eq (l_p0 o_p1 now_p2 : Value) (w : World) (K : Value → World → Prop) : denFn prog Tryd.f7 T7 [l_p0, o_p1, now_p2] w K = B7 l_p0 o_p1 now_p2 w K := by kernel_rfl
theorem c7 {l_p0 o_p1 now_p2 : Value} {w : World} {K : Value → World → Prop} (h : B7 l_p0 o_p1 now_p2 w K) : Calls prog 7 #[l_p0, o_p1, now_p2] w (Ret K) :=
  denFn_calls Tryd.func7 T7_ok (Eq.mpr (B7_eq l_p0 o_p1 now_p2 w K) h)

-- 31 (*holdfast/holdfastref11.Table).EndAll
def T31 : Ann := (.seq .none (.seq .none (.seq (.seq .none (.seq (.seq .none .none) .none)) (.seq .none (.seq (.seq .none (.block (.loop 4398046494880 [5, 7] (.seq (.seq .none (.seq .none .none)) (.meet 4398045462560 [5] (.block (.seq (.draw [.op 0 .pure, .op 1 .pure, .op 2 .pure, .op 3 .pure, .op 4 .load, .op 5 .load, .op 6 .pure]) (.seq (.seq .none .none) .none))) .none))))) (.seq .none .none))))))
theorem T31_ok : chkFn prog Tryd.f31 T31 = true := by kernel_rfl
def B31 (t_p0 o_p1 : Value) (w : World) (K : Value → World → Prop) : Prop :=
  efv prog (Instr.box 23 o_p1) w fun o_0 w =>
  pvv prog (oEq .eql 45 (.tmp 8) (.const (.pointer none)) t_p0 (.pointer none)) w fun t_1 w =>
  cd t_1 (
    K (.slice none 0 0) w) <|
  pv prog (oNil t_p0) w fun t_2 w =>
  pvv prog (Instr.fieldAt 63 t_2 2) w fun t_3 w =>
  ldv prog (Instr.loadAt 37 t_3) w fun t_4 w =>
  lp (fun σ w again_7 => pop σ fun out_5 σ => pop σ fun i_6 σ => fin σ <|
    pv prog (oBi .len #[37] 3 #[false] #[t_4]) w fun t_8 w =>
    pvv prog (binOp .lss 3 i_6 t_8) w fun t_9 w =>
    cd t_9 (
      jn (fun σ w => pop σ fun out_10 σ => fin σ <|
        pvv prog (binOp .add 3 i_6 (.int .i64 1)) w fun t_11 w =>
        again_7 [out_10, t_11] w) fun k_12 =>
      dr w fun w =>
      pvv prog (Instr.indexAt 37 t_4 i_6) w fun t_13 w =>
      pvv prog (Instr.fieldAt 25 t_13 1) w fun t_14 w =>
      bindS (vN (Instr.loadAt 23 t_14)) fun m_16 => ldv prog (Instr.loadAt 23 t_14) w fun t_15 w =>
      bindS (vN (Instr.loadAt 23 o_0)) fun m_18 => ldv prog (Instr.loadAt 23 o_0) w fun t_17 w =>
      pvv prog (oEq .eql 23 (.tmp 24) (.tmp 25) t_15 t_17) w fun t_19 w =>
      cd t_19 (
        pvv prog (Instr.indexAt 37 t_4 i_6) w fun t_20 w =>
        pvv prog (Instr.fieldAt 25 t_20 0) w fun t_21 w =>
        ldv prog (Instr.loadAt 3 t_21) w fun t_22 w =>
        efv prog (Instr.buildSlice 65 1 #[(0, t_22)]) w fun t_23 w =>
        ef prog (oBi .append #[65, 65] 65 #[false, false] #[out_5, t_23]) w fun t_24 w =>
        pvv prog (Instr.indexAt 37 t_4 i_6) w fun t_25 w =>
        pvv prog (Instr.fieldAt 25 t_25 0) w fun t_26 w =>
        ldv prog (Instr.loadAt 3 t_26) w fun t_27 w =>
        Calls prog 44 #[t_p0, t_27] w (Ret fun t_28 w =>
        k_12 [t_24] w)) <|
      k_12 [out_5] w) <|
    K out_5 w) [(.slice none 0 0), (.int .i64 0)] w
theorem B31_eq (t_p0 o_p1 : Value) (w : World) (K : Value → World → Prop) : denFn prog Tryd.f31 T31 [t_p0, o_p1] w K = B31 t_p0 o_p1 w K := by kernel_rfl
theorem c31 {t_p0 o_p1 : Value} {w : World} {K : Value → World → Prop} (h : B31 t_p0 o_p1 w K) : Calls prog 31 #[t_p0, o_p1] w (Ret K) :=
  denFn_calls Tryd.func31 T31_ok (Eq.mpr (B31_eq t_p0 o_p1 w K) h)

-- 33 (*holdfast/holdfastref11.Table).Sweep
def T33 : Ann := (.seq .none (.seq (.seq .none (.seq .none (.seq (.seq .none .none) .none))) (.seq .none (.seq .none (.seq .none (.seq (.seq .none (.block (.loop 2251799796908672 [7, 9] (.seq (.seq .none (.seq .none .none)) (.meet 2251798739943552 [7] (.block (.seq .none (.seq (.seq .none .none) .none))) .none))))) (.seq .none .none)))))))
theorem T33_ok : chkFn prog Tryd.f33 T33 = true := by kernel_rfl
def B33 (t_p0 now_p1 : Value) (w : World) (K : Value → World → Prop) : Prop :=
  Calls prog 41 #[t_p0, now_p1] w (Ret fun t_0 w =>
  pvv prog (oEq .neq 34 (.tmp 13) (.const (.int .i64 0)) t_0 (.int .i64 0)) w fun t_1 w =>
  cd t_1 (
    K (.tuple #[(.slice none 0 0), t_0]) w) <|
  pv prog (oNil t_p0) w fun t_2 w =>
  pvv prog (Instr.fieldAt 63 t_2 1) w fun t_3 w =>
  efu prog (Instr.storeAt 3 t_3 now_p1) w fun u_4 w =>
  pv prog (oNil t_p0) w fun t_5 w =>
  pvv prog (Instr.fieldAt 63 t_5 2) w fun t_6 w =>
  ldv prog (Instr.loadAt 37 t_6) w fun t_7 w =>
  lp (fun σ w again_10 => pop σ fun out_8 σ => pop σ fun i_9 σ => fin σ <|
    pv prog (oBi .len #[37] 3 #[false] #[t_7]) w fun t_11 w =>
    pvv prog (binOp .lss 3 i_9 t_11) w fun t_12 w =>
    cd t_12 (
      jn (fun σ w => pop σ fun out_13 σ => fin σ <|
        pvv prog (binOp .add 3 i_9 (.int .i64 1)) w fun t_14 w =>
        again_10 [out_13, t_14] w) fun k_15 =>
      pvv prog (Instr.indexAt 37 t_7 i_9) w fun t_16 w =>
      ldv prog (Instr.loadAt 25 t_16) w fun t_17 w =>
      Calls prog 42 #[t_17, now_p1] w (Ret fun t_18 w =>
      cd t_18 (
        pvv prog (Instr.indexAt 37 t_7 i_9) w fun t_19 w =>
        pvv prog (Instr.fieldAt 25 t_19 0) w fun t_20 w =>
        ldv prog (Instr.loadAt 3 t_20) w fun t_21 w =>
        efv prog (Instr.buildSlice 65 1 #[(0, t_21)]) w fun t_22 w =>
        ef prog (oBi .append #[65, 65] 65 #[false, false] #[out_8, t_22]) w fun t_23 w =>
        pvv prog (Instr.indexAt 37 t_7 i_9) w fun t_24 w =>
        pvv prog (Instr.fieldAt 25 t_24 0) w fun t_25 w =>
        ldv prog (Instr.loadAt 3 t_25) w fun t_26 w =>
        Calls prog 44 #[t_p0, t_26] w (Ret fun t_27 w =>
        k_15 [t_23] w)) <|
      k_15 [out_8] w)) <|
    K (.tuple #[out_8, (.int .i64 0)]) w) [(.slice none 0 0), (.int .i64 0)] w)
theorem B33_eq (t_p0 now_p1 : Value) (w : World) (K : Value → World → Prop) : denFn prog Tryd.f33 T33 [t_p0, now_p1] w K = B33 t_p0 now_p1 w K := by kernel_rfl
theorem c33 {t_p0 now_p1 : Value} {w : World} {K : Value → World → Prop} (h : B33 t_p0 now_p1 w K) : Calls prog 33 #[t_p0, now_p1] w (Ret K) :=
  denFn_calls Tryd.func33 T33_ok (Eq.mpr (B33_eq t_p0 now_p1 w K) h)

-- 85 (*slices.xorshift).Next
def T85 : Ann := (.seq .none (.seq (.draw [.op 0 .pure, .op 1 .pure, .op 3 .pure, .op 4 .pure, .op 2 .load, .op 5 .load, .op 6 .pure, .op 7 .pure, .op 8 .pure, .op 9 .eff]) (.seq (.draw [.op 0 .pure, .op 1 .pure, .op 3 .pure, .op 4 .pure, .op 2 .load, .op 5 .load, .op 6 .pure, .op 7 .pure, .op 8 .pure, .op 9 .eff]) (.seq (.draw [.op 0 .pure, .op 1 .pure, .op 3 .pure, .op 4 .pure, .op 2 .load, .op 5 .load, .op 6 .pure, .op 7 .pure, .op 8 .pure, .op 9 .eff]) (.seq .none .none)))))
theorem T85_ok : chkFn prog Tryd.f85 T85 = true := by kernel_rfl
def B85 (r_p0 : Value) (w : World) (K : Value → World → Prop) : Prop :=
  dr w fun w =>
  pv prog (oNil r_p0) w fun t_0 w =>
  pv prog (oNil r_p0) w fun t_1 w =>
  bindS (vN (Instr.loadAt 120 t_0)) fun m_3 => ldv prog (Instr.loadAt 120 t_0) w fun t_2 w =>
  bindS (vN (Instr.loadAt 120 t_1)) fun m_5 => ldv prog (Instr.loadAt 120 t_1) w fun t_4 w =>
  pvv prog (binOp .shl 120 t_4 (.int .u64 13)) w fun t_6 w =>
  pvv prog (binOp .xor 120 t_2 t_6) w fun t_7 w =>
  pv prog (oNil r_p0) w fun t_8 w =>
  efu prog (Instr.storeAt 120 t_8 t_7) w fun u_9 w =>
  dr w fun w =>
  pv prog (oNil r_p0) w fun t_10 w =>
  pv prog (oNil r_p0) w fun t_11 w =>
  bindS (vN (Instr.loadAt 120 t_10)) fun m_13 => ldv prog (Instr.loadAt 120 t_10) w fun t_12 w =>
  bindS (vN (Instr.loadAt 120 t_11)) fun m_15 => ldv prog (Instr.loadAt 120 t_11) w fun t_14 w =>
  pvv prog (binOp .shr 120 t_14 (.int .u64 7)) w fun t_16 w =>
  pvv prog (binOp .xor 120 t_12 t_16) w fun t_17 w =>
  pv prog (oNil r_p0) w fun t_18 w =>
  efu prog (Instr.storeAt 120 t_18 t_17) w fun u_19 w =>
  dr w fun w =>
  pv prog (oNil r_p0) w fun t_20 w =>
  pv prog (oNil r_p0) w fun t_21 w =>
  bindS (vN (Instr.loadAt 120 t_20)) fun m_23 => ldv prog (Instr.loadAt 120 t_20) w fun t_22 w =>
  bindS (vN (Instr.loadAt 120 t_21)) fun m_25 => ldv prog (Instr.loadAt 120 t_21) w fun t_24 w =>
  pvv prog (binOp .shl 120 t_24 (.int .u64 17)) w fun t_26 w =>
  pvv prog (binOp .xor 120 t_22 t_26) w fun t_27 w =>
  pv prog (oNil r_p0) w fun t_28 w =>
  efu prog (Instr.storeAt 120 t_28 t_27) w fun u_29 w =>
  pv prog (oNil r_p0) w fun t_30 w =>
  ldv prog (Instr.loadAt 120 t_30) w fun t_31 w =>
  K t_31 w
theorem B85_eq (r_p0 : Value) (w : World) (K : Value → World → Prop) : denFn prog Tryd.f85 T85 [r_p0] w K = B85 r_p0 w K := by kernel_rfl
theorem c85 {r_p0 : Value} {w : World} {K : Value → World → Prop} (h : B85 r_p0 w K) : Calls prog 85 #[r_p0] w (Ret K) :=
  denFn_calls Tryd.func85 T85_ok (Eq.mpr (B85_eq r_p0 w K) h)

-- 44 (*holdfast/holdfastref11.Table).drop
def T44 : Ann := (.seq .none (.seq (.seq .none (.block (.loop 34359738352 [4, 5] (.seq (.seq .none (.seq .none .none)) (.meet 34359705616 [4] (.block (.seq .none (.seq .none .none))) .none))))) .none))
theorem T44_ok : chkFn prog Tryd.f44 T44 = true := by kernel_rfl
def B44 (t_p0 id_p1 : Value) (w : World) (K : Value → World → Prop) : Prop :=
  lp (fun σ w again_2 => pop σ fun out_0 σ => pop σ fun i_1 σ => fin σ <|
    pv prog (oNil t_p0) w fun t_3 w =>
    pvv prog (Instr.fieldAt 63 t_3 2) w fun t_4 w =>
    ldv prog (Instr.loadAt 37 t_4) w fun t_5 w =>
    pv prog (oBi .len #[37] 3 #[false] #[t_5]) w fun t_6 w =>
    pvv prog (binOp .lss 3 i_1 t_6) w fun t_7 w =>
    cd t_7 (
      jn (fun σ w => pop σ fun out_8 σ => fin σ <|
        pvv prog (binOp .add 3 i_1 (.int .i64 1)) w fun t_9 w =>
        again_2 [out_8, t_9] w) fun k_10 =>
      pv prog (oNil t_p0) w fun t_11 w =>
      pvv prog (Instr.fieldAt 63 t_11 2) w fun t_12 w =>
      ldv prog (Instr.loadAt 37 t_12) w fun t_13 w =>
      pvv prog (Instr.indexAt 37 t_13 i_1) w fun t_14 w =>
      pvv prog (Instr.fieldAt 25 t_14 0) w fun t_15 w =>
      ldv prog (Instr.loadAt 3 t_15) w fun t_16 w =>
      pvv prog (oEq .neq 3 (.tmp 22) (.tmp 23) t_16 id_p1) w fun t_17 w =>
      cd t_17 (
        pv prog (oNil t_p0) w fun t_18 w =>
        pvv prog (Instr.fieldAt 63 t_18 2) w fun t_19 w =>
        ldv prog (Instr.loadAt 37 t_19) w fun t_20 w =>
        pvv prog (Instr.indexAt 37 t_20 i_1) w fun t_21 w =>
        ldv prog (Instr.loadAt 25 t_21) w fun t_22 w =>
        efv prog (Instr.buildSlice 37 1 #[(0, t_22)]) w fun t_23 w =>
        ef prog (oBi .append #[37, 37] 37 #[false, false] #[out_0, t_23]) w fun t_24 w =>
        k_10 [t_24] w) <|
      k_10 [out_0] w) <|
    pv prog (oNil t_p0) w fun t_25 w =>
    pvv prog (Instr.fieldAt 63 t_25 2) w fun t_26 w =>
    efu prog (Instr.storeAt 37 t_26 out_0) w fun u_27 w =>
    K (.tuple #[]) w) [(.slice none 0 0), (.int .i64 0)] w
theorem B44_eq (t_p0 id_p1 : Value) (w : World) (K : Value → World → Prop) : denFn prog Tryd.f44 T44 [t_p0, id_p1] w K = B44 t_p0 id_p1 w K := by kernel_rfl
theorem c44 {t_p0 id_p1 : Value} {w : World} {K : Value → World → Prop} (h : B44 t_p0 id_p1 w K) : Calls prog 44 #[t_p0, id_p1] w (Ret K) :=
  denFn_calls Tryd.func44 T44_ok (Eq.mpr (B44_eq t_p0 id_p1 w K) h)

-- 45 (*holdfast/session.Table).ended
def T45 : Ann := (.seq .none (.seq .none (.seq (.seq .none (.block (.loop 67108000 [5, 10] (.seq .none (.seq (.seq .none .none) (.seq (.block (.seq .none (.seq (.draw [.op 0 .pure, .op 1 .pure, .op 2 .pure, .op 4 .pure, .op 3 .load, .op 5 .load, .op 6 .eff]) .none))) .none)))))) (.seq .none .none))))
theorem T45_ok : chkFn prog Tryd.f45 T45 = true := by kernel_rfl
def B45 (t_p0 l_p1 : Value) (w : World) (K : Value → World → Prop) : Prop :=
  pv prog (oBi .len #[37] 3 #[false] #[l_p1]) w fun t_0 w =>
  lp (fun σ w again_3 => pop σ fun out_1 σ => pop σ fun t_2 σ => fin σ <|
    pvv prog (binOp .lss 3 t_2 t_0) w fun t_4 w =>
    cd t_4 (
      pvv prog (Instr.indexAt 37 l_p1 t_2) w fun t_5 w =>
      ldv prog (Instr.loadAt 25 t_5) w fun t_6 w =>
      efv prog (Instr.alloc 25 true (.tuple #[])) w fun s_7 w =>
      efu prog (Instr.storeAt 25 s_7 t_6) w fun u_8 w =>
      dr w fun w =>
      pv prog (oNil t_p0) w fun t_9 w =>
      pvv prog (Instr.fieldAt 58 t_9 2) w fun t_10 w =>
      pvv prog (Instr.fieldAt 25 s_7 0) w fun t_11 w =>
      bindS (vN (Instr.loadAt 54 t_10)) fun m_13 => ldv prog (Instr.loadAt 54 t_10) w fun t_12 w =>
      bindS (vN (Instr.loadAt 3 t_11)) fun m_15 => ldv prog (Instr.loadAt 3 t_11) w fun t_14 w =>
      ef prog (oBi .delete #[54, 3] 0 #[false, false] #[t_12, t_14]) w fun u_16 w =>
      pvv prog (Instr.fieldAt 25 s_7 0) w fun t_17 w =>
      ldv prog (Instr.loadAt 3 t_17) w fun t_18 w =>
      efv prog (Instr.buildSlice 65 1 #[(0, t_18)]) w fun t_19 w =>
      ef prog (oBi .append #[65, 65] 65 #[false, false] #[out_1, t_19]) w fun t_20 w =>
      pvv prog (binOp .add 3 t_2 (.int .i64 1)) w fun t_21 w =>
      again_3 [t_20, t_21] w) <|
    K out_1 w) [(.slice none 0 0), (.int .i64 0)] w
theorem B45_eq (t_p0 l_p1 : Value) (w : World) (K : Value → World → Prop) : denFn prog Tryd.f45 T45 [t_p0, l_p1] w K = B45 t_p0 l_p1 w K := by kernel_rfl
theorem c45 {t_p0 l_p1 : Value} {w : World} {K : Value → World → Prop} (h : B45 t_p0 l_p1 w K) : Calls prog 45 #[t_p0, l_p1] w (Ret K) :=
  denFn_calls Tryd.func45 T45_ok (Eq.mpr (B45_eq t_p0 l_p1 w K) h)

-- 72 slices.reverseRangeOrdered[int]
def T72 : Ann := (.seq .none (.seq .none (.block (.loop 4294965440 [6, 7] (.seq (.seq .none (.seq .none .none)) (.block (.seq (.draw [.op 0 .pure, .op 1 .pure, .op 2 .pure, .op 3 .pure, .op 4 .pure, .op 5 .pure, .op 6 .pure, .op 8 .pure, .op 9 .pure, .op 10 .pure, .op 7 .load, .op 11 .load, .op 12 .pure, .op 13 .eff, .op 14 .pure, .op 15 .eff]) (.seq .none .none))))))))
theorem T72_ok : chkFn prog Tryd.f72 T72 = true := by kernel_rfl
def B72 (data_p0 a_p1 b_p2 : Value) (w : World) (K : Value → World → Prop) : Prop :=
  pvv prog (binOp .sub 3 b_p2 (.int .i64 1)) w fun t_0 w =>
  lp (fun σ w again_3 => pop σ fun i_1 σ => pop σ fun j_2 σ => fin σ <|
    pvv prog (binOp .lss 3 i_1 j_2) w fun t_4 w =>
    cd t_4 (
      dr w fun w =>
      pvv prog (Instr.indexAt 65 data_p0 j_2) w fun t_5 w =>
      pvv prog (Instr.indexAt 65 data_p0 i_1) w fun t_6 w =>
      bindS (vN (Instr.loadAt 3 t_5)) fun m_8 => ldv prog (Instr.loadAt 3 t_5) w fun t_7 w =>
      bindS (vN (Instr.loadAt 3 t_6)) fun m_10 => ldv prog (Instr.loadAt 3 t_6) w fun t_9 w =>
      pvv prog (Instr.indexAt 65 data_p0 i_1) w fun t_11 w =>
      efu prog (Instr.storeAt 3 t_11 t_7) w fun u_12 w =>
      pvv prog (Instr.indexAt 65 data_p0 j_2) w fun t_13 w =>
      efu prog (Instr.storeAt 3 t_13 t_9) w fun u_14 w =>
      pvv prog (binOp .add 3 i_1 (.int .i64 1)) w fun t_15 w =>
      pvv prog (binOp .sub 3 j_2 (.int .i64 1)) w fun t_16 w =>
      again_3 [t_15, t_16] w) <|
    K (.tuple #[]) w) [a_p1, t_0] w
theorem B72_eq (data_p0 a_p1 b_p2 : Value) (w : World) (K : Value → World → Prop) : denFn prog Tryd.f72 T72 [data_p0, a_p1, b_p2] w K = B72 data_p0 a_p1 b_p2 w K := by kernel_rfl
theorem c72 {data_p0 a_p1 b_p2 : Value} {w : World} {K : Value → World → Prop} (h : B72 data_p0 a_p1 b_p2 w K) : Calls prog 72 #[data_p0, a_p1, b_p2] w (Ret K) :=
  denFn_calls Tryd.func72 T72_ok (Eq.mpr (B72_eq data_p0 a_p1 b_p2 w K) h)

-- 50 strings.makeASCIISet
def T50 : Ann := (.seq .none (.seq (.seq .none (.block (.loop 1048568 [4] (.seq (.seq .none (.seq .none .none)) (.seq (.block (.seq .none (.seq (.seq .none (.seq (.seq .none .none) .none)) .none))) .none))))) (.seq .none .none)))
theorem T50_ok : chkFn prog Tryd.f50 T50 = true := by kernel_rfl
def B50 (chars_p0 : Value) (w : World) (K : Value → World → Prop) : Prop :=
  efv prog (Instr.alloc 83 true (.tuple #[])) w fun as_0 w =>
  lp (fun σ w again_2 => pop σ fun i_1 σ => fin σ <|
    pv prog (oBi .len #[9] 3 #[false] #[chars_p0]) w fun t_3 w =>
    pvv prog (binOp .lss 3 i_1 t_3) w fun t_4 w =>
    cd t_4 (
      pvv prog (Instr.index 9 chars_p0 i_1) w fun t_5 w =>
      pvv prog (binOp .geq 5 t_5 (.int .u8 128)) w fun t_6 w =>
      cd t_6 (
        ldv prog (Instr.loadAt 83 as_0) w fun t_7 w =>
        efu prog (Instr.storeAt 83 as_0 t_7) w fun u_8 w =>
        ∃ r_9, (do loadVar 83 (← asAddr as_0)).run prog w = .ok r_9 w ∧ K (.tuple #[r_9, (.bool false)]) w) <|
      pvv prog (Instr.indexAt 83 as_0 t_5) w fun t_10 w =>
      efu prog (Instr.storeAt 4 t_10 (.bool true)) w fun u_11 w =>
      pvv prog (binOp .add 3 i_1 (.int .i64 1)) w fun t_12 w =>
      again_2 [t_12] w) <|
    ldv prog (Instr.loadAt 83 as_0) w fun t_13 w =>
    efu prog (Instr.storeAt 83 as_0 t_13) w fun u_14 w =>
    ∃ r_15, (do loadVar 83 (← asAddr as_0)).run prog w = .ok r_15 w ∧ K (.tuple #[r_15, (.bool true)]) w) [(.int .i64 0)] w
theorem B50_eq (chars_p0 : Value) (w : World) (K : Value → World → Prop) : denFn prog Tryd.f50 T50 [chars_p0] w K = B50 chars_p0 w K := by kernel_rfl
theorem c50 {chars_p0 : Value} {w : World} {K : Value → World → Prop} (h : B50 chars_p0 w K) : Calls prog 50 #[chars_p0] w (Ret K) :=
  denFn_calls Tryd.func50 T50_ok (Eq.mpr (B50_eq chars_p0 w K) h)

-- 53 strings.trimLeftUnicode
def T53 : Ann := (.seq .none (.meet 4194273 [0] (.block (.loop 4194273 [0] (.seq (.seq .none (.seq .none .none)) (.block (.seq .none (.seq (.seq .none (.seq .none .none)) .none)))))) (.seq .none .none)))
theorem T53_ok : chkFn prog Tryd.f53 T53 = true := by kernel_rfl
def B53 (s_p0 cutset_p1 : Value) (w : World) (K : Value → World → Prop) : Prop :=
  jn (fun σ w => pop σ fun s_0 σ => fin σ <|
    K s_0 w) fun k_1 =>
  lp (fun σ w again_3 => pop σ fun s_2 σ => fin σ <|
    pv prog (oBi .len #[9] 3 #[false] #[s_2]) w fun t_4 w =>
    pvv prog (binOp .gtr 3 t_4 (.int .i64 0)) w fun t_5 w =>
    cd t_5 (
      Calls prog 59 #[s_2] w (Ret fun t_6 w =>
      pvv prog (Instr.extract t_6 0) w fun t_7 w =>
      pvv prog (Instr.extract t_6 1) w fun t_8 w =>
      Calls prog 60 #[cutset_p1, t_7] w (Ret fun t_9 w =>
      pvv prog (Op.unary .not t_9) w fun t_10 w =>
      cd t_10 (
        k_1 [s_2] w) <|
      pvv prog (Instr.sliceAt 9 s_2 (some t_8) none none) w fun t_11 w =>
      again_3 [t_11] w))) <|
    k_1 [s_2] w) [s_p0] w
theorem B53_eq (s_p0 cutset_p1 : Value) (w : World) (K : Value → World → Prop) : denFn prog Tryd.f53 T53 [s_p0, cutset_p1] w K = B53 s_p0 cutset_p1 w K := by kernel_rfl
theorem c53 {s_p0 cutset_p1 : Value} {w : World} {K : Value → World → Prop} (h : B53 s_p0 cutset_p1 w K) : Calls prog 53 #[s_p0, cutset_p1] w (Ret K) :=
  denFn_calls Tryd.func53 T53_ok (Eq.mpr (B53_eq s_p0 cutset_p1 w K) h)

-- 32 (*holdfast/session.Table).Sweep
def T32 : Ann := (.seq .none (.seq (.seq .none (.seq .none (.seq (.seq .none .none) .none))) (.seq .none (.seq .none .none))))
theorem T32_ok : chkFn prog Tryd.f32 T32 = true := by kernel_rfl
def B32 (t_p0 now_p1 : Value) (w : World) (K : Value → World → Prop) : Prop :=
  efv prog (Instr.box 3 now_p1) w fun now_0 w =>
  ldv prog (Instr.loadAt 3 now_0) w fun t_1 w =>
  Calls prog 21 #[t_p0, t_1] w (Ret fun t_2 w =>
  pvv prog (oEq .neq 34 (.tmp 10) (.const (.int .i64 0)) t_2 (.int .i64 0)) w fun t_3 w =>
  cd t_3 (
    K (.tuple #[(.slice none 0 0), t_2]) w) <|
  ldv prog (Instr.loadAt 3 now_0) w fun t_4 w =>
  pv prog (oNil t_p0) w fun t_5 w =>
  pvv prog (Instr.fieldAt 58 t_5 0) w fun t_6 w =>
  pvv prog (Instr.fieldAt 56 t_6 0) w fun t_7 w =>
  efu prog (Instr.storeAt 3 t_7 t_4) w fun u_8 w =>
  pvv prog (Instr.makeFunc (.func 47) #[] #[now_0]) w fun t_9 w =>
  Calls prog 22 #[t_p0, t_9] w (Ret fun t_10 w =>
  Calls prog 45 #[t_p0, t_10] w (Ret fun t_11 w =>
  K (.tuple #[t_11, (.int .i64 0)]) w)))
theorem B32_eq (t_p0 now_p1 : Value) (w : World) (K : Value → World → Prop) : denFn prog Tryd.f32 T32 [t_p0, now_p1] w K = B32 t_p0 now_p1 w K := by kernel_rfl
theorem c32 {t_p0 now_p1 : Value} {w : World} {K : Value → World → Prop} (h : B32 t_p0 now_p1 w K) : Calls prog 32 #[t_p0, now_p1] w (Ret K) :=
  denFn_calls Tryd.func32 T32_ok (Eq.mpr (B32_eq t_p0 now_p1 w K) h)

-- 18 (*holdfast/session.Table).End
def T18 : Ann := (.seq .none (.seq (.seq .none (.seq (.seq .none .none) .none)) (.seq .none (.seq .none (.seq .none .none)))))
theorem T18_ok : chkFn prog Tryd.f18 T18 = true := by kernel_rfl
def B18 (t_p0 id_p1 : Value) (w : World) (K : Value → World → Prop) : Prop :=
  pvv prog (oEq .eql 31 (.tmp 7) (.const (.pointer none)) t_p0 (.pointer none)) w fun t_0 w =>
  cd t_0 (
    K (.int .i64 1) w) <|
  Calls prog 24 #[t_p0, id_p1] w (Ret fun t_1 w =>
  pvv prog (Instr.extract t_1 0) w fun t_2 w =>
  pvv prog (Instr.extract t_1 1) w fun t_3 w =>
  efv prog (Instr.alloc 25 true (.tuple #[])) w fun t_4 w =>
  efu prog (Instr.storeAt 25 t_4 t_2) w fun u_5 w =>
  pv prog (oNil t_p0) w fun t_6 w =>
  pvv prog (Instr.fieldAt 58 t_6 2) w fun t_7 w =>
  ldv prog (Instr.loadAt 54 t_7) w fun t_8 w =>
  ef prog (oBi .delete #[54, 3] 0 #[false, false] #[t_8, id_p1]) w fun u_9 w =>
  K t_3 w)
theorem B18_eq (t_p0 id_p1 : Value) (w : World) (K : Value → World → Prop) : denFn prog Tryd.f18 T18 [t_p0, id_p1] w K = B18 t_p0 id_p1 w K := by kernel_rfl
theorem c18 {t_p0 id_p1 : Value} {w : World} {K : Value → World → Prop} (h : B18 t_p0 id_p1 w K) : Calls prog 18 #[t_p0, id_p1] w (Ret K) :=
  denFn_calls Tryd.func18 T18_ok (Eq.mpr (B18_eq t_p0 id_p1 w K) h)

-- 13 (*holdfast/session.Table).Live
def T13 : Ann := (.seq .none (.seq (.seq .none (.seq .none (.seq (.seq .none .none) .none))) (.seq .none .none)))
theorem T13_ok : chkFn prog Tryd.f13 T13 = true := by kernel_rfl
def B13 (t_p0 o_p1 now_p2 : Value) (w : World) (K : Value → World → Prop) : Prop :=
  efv prog (Instr.box 23 o_p1) w fun o_0 w =>
  efv prog (Instr.box 3 now_p2) w fun now_1 w =>
  ldv prog (Instr.loadAt 3 now_1) w fun t_2 w =>
  Calls prog 21 #[t_p0, t_2] w (Ret fun t_3 w =>
  pvv prog (oEq .neq 34 (.tmp 12) (.const (.int .i64 0)) t_3 (.int .i64 0)) w fun t_4 w =>
  cd t_4 (
    K (.tuple #[(.slice none 0 0), t_3]) w) <|
  pvv prog (Instr.makeFunc (.func 23) #[] #[o_0, now_1]) w fun t_5 w =>
  Calls prog 22 #[t_p0, t_5] w (Ret fun t_6 w =>
  K (.tuple #[t_6, (.int .i64 0)]) w))
theorem B13_eq (t_p0 o_p1 now_p2 : Value) (w : World) (K : Value → World → Prop) : denFn prog Tryd.f13 T13 [t_p0, o_p1, now_p2] w K = B13 t_p0 o_p1 now_p2 w K := by kernel_rfl
theorem c13 {t_p0 o_p1 now_p2 : Value} {w : World} {K : Value → World → Prop} (h : B13 t_p0 o_p1 now_p2 w K) : Calls prog 13 #[t_p0, o_p1, now_p2] w (Ret K) :=
  denFn_calls Tryd.func13 T13_ok (Eq.mpr (B13_eq t_p0 o_p1 now_p2 w K) h)

-- 47 (*holdfast/session.Table).Sweep$1
def T47 : Ann := (.seq .none (.seq (.draw [.op 0 .load, .op 1 .load, .op 2 .eff, .op 3 .pure, .op 4 .pure]) .none))
theorem T47_ok : chkFn prog Tryd.f47 T47 = true := by kernel_rfl
def B47 (s_p0 x_p1 : Value) (w : World) (K : Value → World → Prop) : Prop :=
  efv prog (Instr.box 25 s_p0) w fun s_0 w =>
  dr w fun w =>
  bindS (vN (Instr.loadAt 3 x_p1)) fun m_2 => ldv prog (Instr.loadAt 3 x_p1) w fun t_1 w =>
  bindS (vN (Instr.loadAt 25 s_0)) fun m_4 => ldv prog (Instr.loadAt 25 s_0) w fun t_3 w =>
  Calls prog 9 #[t_3] w (Ret fun t_5 w => stay prog none m_2 t_1 w <| 
  pvv prog (binOp .geq 3 t_1 t_5) w fun t_6 w =>
  K t_6 w)
theorem B47_eq (s_p0 x_p1 : Value) (w : World) (K : Value → World → Prop) : denFn prog Tryd.f47 T47 [s_p0, x_p1] w K = B47 s_p0 x_p1 w K := by kernel_rfl
theorem c47 {s_p0 x_p1 : Value} {w : World} {K : Value → World → Prop} (h : B47 s_p0 x_p1 w K) : Calls prog 47 #[s_p0, x_p1] w (Ret K) :=
  denFn_calls Tryd.func47 T47_ok (Eq.mpr (B47_eq s_p0 x_p1 w K) h)

-- 30 (*holdfast/session.Table).EndAll
def T30 : Ann := (.seq .none (.seq (.seq .none (.seq (.seq .none .none) .none)) (.seq .none .none)))
theorem T30_ok : chkFn prog Tryd.f30 T30 = true := by kernel_rfl
def B30 (t_p0 o_p1 : Value) (w : World) (K : Value → World → Prop) : Prop :=
  efv prog (Instr.box 23 o_p1) w fun o_0 w =>
  pvv prog (oEq .eql 31 (.tmp 5) (.const (.pointer none)) t_p0 (.pointer none)) w fun t_1 w =>
  cd t_1 (
    K (.slice none 0 0) w) <|
  pvv prog (Instr.makeFunc (.func 46) #[] #[o_0]) w fun t_2 w =>
  Calls prog 22 #[t_p0, t_2] w (Ret fun t_3 w =>
  Calls prog 45 #[t_p0, t_3] w (Ret fun t_4 w =>
  K t_4 w))
theorem B30_eq (t_p0 o_p1 : Value) (w : World) (K : Value → World → Prop) : denFn prog Tryd.f30 T30 [t_p0, o_p1] w K = B30 t_p0 o_p1 w K := by kernel_rfl
theorem c30 {t_p0 o_p1 : Value} {w : World} {K : Value → World → Prop} (h : B30 t_p0 o_p1 w K) : Calls prog 30 #[t_p0, o_p1] w (Ret K) :=
  denFn_calls Tryd.func30 T30_ok (Eq.mpr (B30_eq t_p0 o_p1 w K) h)

-- 46 (*holdfast/session.Table).EndAll$1
def T46 : Ann := (.seq .none (.seq .none .none))
theorem T46_ok : chkFn prog Tryd.f46 T46 = true := by kernel_rfl
def B46 (s_p0 x_p1 : Value) (w : World) (K : Value → World → Prop) : Prop :=
  efv prog (Instr.box 25 s_p0) w fun s_0 w =>
  pvv prog (Instr.fieldAt 25 s_0 1) w fun t_1 w =>
  ldv prog (Instr.loadAt 23 t_1) w fun t_2 w =>
  ldv prog (Instr.loadAt 23 x_p1) w fun t_3 w =>
  pvv prog (oEq .eql 23 (.tmp 5) (.tmp 6) t_2 t_3) w fun t_4 w =>
  K t_4 w
theorem B46_eq (s_p0 x_p1 : Value) (w : World) (K : Value → World → Prop) : denFn prog Tryd.f46 T46 [s_p0, x_p1] w K = B46 s_p0 x_p1 w K := by kernel_rfl
theorem c46 {s_p0 x_p1 : Value} {w : World} {K : Value → World → Prop} (h : B46 s_p0 x_p1 w K) : Calls prog 46 #[s_p0, x_p1] w (Ret K) :=
  denFn_calls Tryd.func46 T46_ok (Eq.mpr (B46_eq s_p0 x_p1 w K) h)

-- 67 unicode/utf8.RuneStart
def T67 : Ann := (.seq .none (.seq .none .none))
theorem T67_ok : chkFn prog Tryd.f67 T67 = true := by kernel_rfl
def B67 (b_p0 : Value) (w : World) (K : Value → World → Prop) : Prop :=
  pvv prog (binOp .and 5 b_p0 (.int .u8 192)) w fun t_0 w =>
  pvv prog (oEq .neq 5 (.tmp 4) (.const (.int .u8 128)) t_0 (.int .u8 128)) w fun t_1 w =>
  K t_1 w
theorem B67_eq (b_p0 : Value) (w : World) (K : Value → World → Prop) : denFn prog Tryd.f67 T67 [b_p0] w K = B67 b_p0 w K := by kernel_rfl
theorem c67 {b_p0 : Value} {w : World} {K : Value → World → Prop} (h : B67 b_p0 w K) : Calls prog 67 #[b_p0] w (Ret K) :=
  denFn_calls Tryd.func67 T67_ok (Eq.mpr (B67_eq b_p0 w K) h)

-- 81 internal/bytealg.Cutover
def T81 : Ann := (.seq .none (.seq .none .none))
theorem T81_ok : chkFn prog Tryd.f81 T81 = true := by kernel_rfl
def B81 (n_p0 : Value) (w : World) (K : Value → World → Prop) : Prop :=
  pvv prog (binOp .add 3 n_p0 (.int .i64 16)) w fun t_0 w =>
  pvv prog (binOp .quo 3 t_0 (.int .i64 8)) w fun t_1 w =>
  K t_1 w
theorem B81_eq (n_p0 : Value) (w : World) (K : Value → World → Prop) : denFn prog Tryd.f81 T81 [n_p0] w K = B81 n_p0 w K := by kernel_rfl
theorem c81 {n_p0 : Value} {w : World} {K : Value → World → Prop} (h : B81 n_p0 w K) : Calls prog 81 #[n_p0] w (Ret K) :=
  denFn_calls Tryd.func81 T81_ok (Eq.mpr (B81_eq n_p0 w K) h)

-- 88 cmp.isNaN[int]
def T88 : Ann := (.seq .none (.seq .none .none))
theorem T88_ok : chkFn prog Tryd.f88 T88 = true := by kernel_rfl
def B88 (x_p0 : Value) (w : World) (K : Value → World → Prop) : Prop :=
  pvv prog (oEq .neq 3 (.tmp 3) (.tmp 4) x_p0 x_p0) w fun t_0 w =>
  K t_0 w
theorem B88_eq (x_p0 : Value) (w : World) (K : Value → World → Prop) : denFn prog Tryd.f88 T88 [x_p0] w K = B88 x_p0 w K := by kernel_rfl
theorem c88 {x_p0 : Value} {w : World} {K : Value → World → Prop} (h : B88 x_p0 w K) : Calls prog 88 #[x_p0] w (Ret K) :=
  denFn_calls Tryd.func88 T88_ok (Eq.mpr (B88_eq x_p0 w K) h)


end Go.Proofs.YticbbnjhiiimcaaDoor
