import Derived.Test.YtnkmgkilfkgfhaaDoorPI
set_option linter.all false
set_option maxRecDepth 100000
namespace Go.Proofs.YtnkmgkilfkgfhaaDoor
open Go Hold
-- 67 internal/strconv.underscoreOK
def T67 : Ann := (.seq .none (.seq .none (.seq .none (.meet 2097089 [0] (.seq .none (.seq .none .none)) (.seq .none (.meet 2251799811588152 [3, 4, 5] (.seq .none (.seq (.seq .none (.seq .none .none)) .none)) (.seq (.block (.loop 4951760157139269299782811676 [3, 4] (.seq (.seq .none (.seq .none .none)) (.meet 4951760156997405911520641036 [3] (.block (.seq (.seq .none (.seq (.seq .none .none) .none)) (.seq (.seq .none (.seq (.seq (.seq .none (.seq (.seq .none .none) .none)) (.seq .none .none)) .none)) (.seq (.seq .none (.seq (.seq .none .none) .none)) .none)))) .none)))) (.seq .none .none))))))))
theorem T67_ok : chkFn prog Tryd.f67 T67 = true := by kernel_rfl
def B67 (s_p0 : Value) (w : World) (K : Value → World → Prop) : Prop :=
  jn (fun σ w => pop σ fun s_0 σ => fin σ <|
    jn (fun σ w => pop σ fun saw_1 σ => pop σ fun i_2 σ => pop σ fun hex_3 σ => fin σ <|
      lp (fun σ w again_6 => pop σ fun saw_4 σ => pop σ fun i_5 σ => fin σ <|
        pv prog (oBi .len #[9] 3 #[false] #[s_0]) w fun t_7 w =>
        pvv prog (binOp .lss 3 i_5 t_7) w fun t_8 w =>
        cd t_8 (
          jn (fun σ w => pop σ fun saw_9 σ => fin σ <|
            pvv prog (binOp .add 3 i_5 (.int .i64 1)) w fun t_10 w =>
            again_6 [saw_9, t_10] w) fun k_11 =>
          pvv prog (Instr.index 9 s_0 i_5) w fun t_12 w =>
          pvv prog (binOp .leq 5 (.int .u8 48) t_12) w fun t_13 w =>
          gate (some (t_13, true)) (fun K => K s_0 w) w fun t_14 w =>
          gate (some (t_13, true)) (fun K => K i_5 w) w fun t_15 w =>
          gate (some (t_13, true)) (fun K => pvv prog (Instr.index 9 t_14 t_15) w K) w fun t_16 w =>
          gate (some (t_13, true)) (fun K => pvv prog (binOp .leq 5 t_16 (.int .u8 57)) w K) w fun t_17 w =>
          pv prog (oPick t_13 t_17 (.bool false)) w fun t_18 w =>
          gate (some (t_18, false)) (fun K => K hex_3 w) w fun t_19 w =>
          gate (some (t_18, false)) (fun K => K t_19 w) w fun t_20 w =>
          gate (some (t_20, true)) (fun K => K s_0 w) w fun t_21 w =>
          gate (some (t_20, true)) (fun K => K i_5 w) w fun t_22 w =>
          gate (some (t_20, true)) (fun K => pvv prog (Instr.index 9 t_21 t_22) w K) w fun t_23 w =>
          gate (some (t_20, true)) (fun K => Calls prog 66 #[t_23] w (Ret K)) w fun t_24 w =>
          gate (some (t_20, true)) (fun K => pvv prog (binOp .leq 5 (.int .u8 97) t_24) w K) w fun t_25 w =>
          gate (some (t_18, false)) (fun K => pv prog (oPick t_20 t_25 (.bool false)) w K) w fun t_26 w =>
          gate (some (t_18, false)) (fun K => K t_26 w) w fun t_27 w =>
          gate (some (t_27, true)) (fun K => K s_0 w) w fun t_28 w =>
          gate (some (t_27, true)) (fun K => K i_5 w) w fun t_29 w =>
          gate (some (t_27, true)) (fun K => pvv prog (Instr.index 9 t_28 t_29) w K) w fun t_30 w =>
          gate (some (t_27, true)) (fun K => Calls prog 66 #[t_30] w (Ret K)) w fun t_31 w =>
          gate (some (t_27, true)) (fun K => pvv prog (binOp .leq 5 t_31 (.int .u8 102)) w K) w fun t_32 w =>
          gate (some (t_18, false)) (fun K => pv prog (oPick t_27 t_32 (.bool false)) w K) w fun t_33 w =>
          pv prog (oPick t_18 (.bool true) t_33) w fun t_34 w =>
          cd t_34 (
            k_11 [(.int .i32 48)] w) <|
          pvv prog (Instr.index 9 s_0 i_5) w fun t_35 w =>
          pvv prog (oEq .eql 5 (.tmp 86) (.const (.int .u8 95)) t_35 (.int .u8 95)) w fun t_36 w =>
          cd t_36 (
            pvv prog (oEq .neq 21 (.tmp 88) (.const (.int .i32 48)) saw_4 (.int .i32 48)) w fun t_37 w =>
            cd t_37 (
              K (.bool false) w) <|
            k_11 [(.int .i32 95)] w) <|
          pvv prog (oEq .eql 21 (.tmp 90) (.const (.int .i32 95)) saw_4 (.int .i32 95)) w fun t_38 w =>
          cd t_38 (
            K (.bool false) w) <|
          k_11 [(.int .i32 33)] w) <|
        pvv prog (oEq .neq 21 (.tmp 92) (.const (.int .i32 95)) saw_4 (.int .i32 95)) w fun t_39 w =>
        K t_39 w) [saw_1, i_2] w) fun k_40 =>
    pv prog (oBi .len #[9] 3 #[false] #[s_0]) w fun t_41 w =>
    pvv prog (binOp .geq 3 t_41 (.int .i64 2)) w fun t_42 w =>
    gate (some (t_42, true)) (fun K => K s_0 w) w fun t_43 w =>
    gate (some (t_42, true)) (fun K => pvv prog (Instr.index 9 t_43 (.int .i64 0)) w K) w fun t_44 w =>
    gate (some (t_42, true)) (fun K => pvv prog (oEq .eql 5 (.tmp 26) (.const (.int .u8 48)) t_44 (.int .u8 48)) w K) w fun t_45 w =>
    pv prog (oPick t_42 t_45 (.bool false)) w fun t_46 w =>
    gate (some (t_46, true)) (fun K => K s_0 w) w fun t_47 w =>
    gate (some (t_46, true)) (fun K => pvv prog (Instr.index 9 t_47 (.int .i64 1)) w K) w fun t_48 w =>
    gate (some (t_46, true)) (fun K => Calls prog 66 #[t_48] w (Ret K)) w fun t_49 w =>
    gate (some (t_46, true)) (fun K => pvv prog (oEq .eql 5 (.tmp 32) (.const (.int .u8 98)) t_49 (.int .u8 98)) w K) w fun t_50 w =>
    gate (some (t_46, true)) (fun K => K t_50 w) w fun t_51 w =>
    gate (some (t_51, false)) (fun K => K s_0 w) w fun t_52 w =>
    gate (some (t_51, false)) (fun K => pvv prog (Instr.index 9 t_52 (.int .i64 1)) w K) w fun t_53 w =>
    gate (some (t_51, false)) (fun K => Calls prog 66 #[t_53] w (Ret K)) w fun t_54 w =>
    gate (some (t_51, false)) (fun K => pvv prog (oEq .eql 5 (.tmp 37) (.const (.int .u8 111)) t_54 (.int .u8 111)) w K) w fun t_55 w =>
    gate (some (t_46, true)) (fun K => pv prog (oPick t_51 (.bool true) t_55) w K) w fun t_56 w =>
    gate (some (t_46, true)) (fun K => K t_56 w) w fun t_57 w =>
    gate (some (t_57, false)) (fun K => K s_0 w) w fun t_58 w =>
    gate (some (t_57, false)) (fun K => pvv prog (Instr.index 9 t_58 (.int .i64 1)) w K) w fun t_59 w =>
    gate (some (t_57, false)) (fun K => Calls prog 66 #[t_59] w (Ret K)) w fun t_60 w =>
    gate (some (t_57, false)) (fun K => pvv prog (oEq .eql 5 (.tmp 43) (.const (.int .u8 120)) t_60 (.int .u8 120)) w K) w fun t_61 w =>
    gate (some (t_46, true)) (fun K => pv prog (oPick t_57 (.bool true) t_61) w K) w fun t_62 w =>
    pv prog (oPick t_46 t_62 (.bool false)) w fun t_63 w =>
    cd t_63 (
      pvv prog (Instr.index 9 s_0 (.int .i64 1)) w fun t_64 w =>
      Calls prog 66 #[t_64] w (Ret fun t_65 w =>
      pvv prog (oEq .eql 5 (.tmp 49) (.const (.int .u8 120)) t_65 (.int .u8 120)) w fun t_66 w =>
      k_40 [(.int .i32 48), (.int .i64 2), t_66] w)) <|
    k_40 [(.int .i32 94), (.int .i64 0), (.bool false)] w) fun k_67 =>
  pv prog (oBi .len #[9] 3 #[false] #[s_p0]) w fun t_68 w =>
  pvv prog (binOp .geq 3 t_68 (.int .i64 1)) w fun t_69 w =>
  gate (some (t_69, true)) (fun K => K s_p0 w) w fun t_70 w =>
  gate (some (t_69, true)) (fun K => pvv prog (Instr.index 9 t_70 (.int .i64 0)) w K) w fun t_71 w =>
  gate (some (t_69, true)) (fun K => pvv prog (oEq .eql 5 (.tmp 11) (.const (.int .u8 45)) t_71 (.int .u8 45)) w K) w fun t_72 w =>
  gate (some (t_69, true)) (fun K => K t_72 w) w fun t_73 w =>
  gate (some (t_73, false)) (fun K => K s_p0 w) w fun t_74 w =>
  gate (some (t_73, false)) (fun K => pvv prog (Instr.index 9 t_74 (.int .i64 0)) w K) w fun t_75 w =>
  gate (some (t_73, false)) (fun K => pvv prog (oEq .eql 5 (.tmp 15) (.const (.int .u8 43)) t_75 (.int .u8 43)) w K) w fun t_76 w =>
  gate (some (t_69, true)) (fun K => pv prog (oPick t_73 (.bool true) t_76) w K) w fun t_77 w =>
  pv prog (oPick t_69 t_77 (.bool false)) w fun t_78 w =>
  cd t_78 (
    pvv prog (Instr.sliceAt 9 s_p0 (some (.int .i64 1)) none none) w fun t_79 w =>
    k_67 [t_79] w) <|
  k_67 [s_p0] w
theorem B67_eq (s_p0 : Value) (w : World) (K : Value → World → Prop) : denFn prog Tryd.f67 T67 [s_p0] w K = B67 s_p0 w K := by kernel_rfl
theorem c67 {s_p0 : Value} {w : World} {K : Value → World → Prop} (h : B67 s_p0 w K) : Calls prog 67 #[s_p0] w (Ret K) :=
  denFn_calls Tryd.func67 T67_ok (Eq.mpr (B67_eq s_p0 w K) h)

-- 77 unicode/utf8.decodeRuneInStringSlow
def T77 : Ann := (.seq .none (.seq .none (.seq (.seq .none (.seq (.seq .none .none) .none)) (.seq .none (.seq .none (.seq (.seq .none (.seq (.seq .none (.seq .none .none)) .none)) (.seq .none (.seq .none (.seq (.seq .none (.seq (.seq .none .none) .none)) (.seq .none (.seq (.seq .none (.seq (.seq .none .none) .none)) (.seq (.seq .none (.seq (.seq .none .none) .none)) (.seq .none (.seq (.seq .none (.seq (.seq .none .none) .none)) (.seq (.seq .none (.seq (.seq .none .none) .none)) (.seq .none (.seq (.seq .none (.seq (.seq .none .none) .none)) (.seq .none .none))))))))))))))))))
theorem T77_ok : chkFn prog Tryd.f77 T77 = true := by kernel_rfl
def B77 (s_p0 : Value) (w : World) (K : Value → World → Prop) : Prop :=
  pv prog (oBi .len #[9] 3 #[false] #[s_p0]) w fun t_0 w =>
  pvv prog (binOp .lss 3 t_0 (.int .i64 1)) w fun t_1 w =>
  cd t_1 (
    K (.tuple #[(.int .i32 65533), (.int .i64 0)]) w) <|
  pvv prog (Instr.index 9 s_p0 (.int .i64 0)) w fun t_2 w =>
  pvv prog (Instr.indexAt 107 (.pointer (some ⟨4, 0, none⟩)) t_2) w fun t_3 w =>
  ldv prog (Instr.loadAt 5 t_3) w fun t_4 w =>
  pvv prog (binOp .geq 5 t_4 (.int .u8 240)) w fun t_5 w =>
  cd t_5 (
    pvv prog (convert 5 21 t_4) w fun t_6 w =>
    pvv prog (binOp .shl 21 t_6 (.int .u64 31)) w fun t_7 w =>
    pvv prog (binOp .shr 21 t_7 (.int .u64 31)) w fun t_8 w =>
    pvv prog (Instr.index 9 s_p0 (.int .i64 0)) w fun t_9 w =>
    pvv prog (convert 5 21 t_9) w fun t_10 w =>
    pvv prog (binOp .andNot 21 t_10 t_8) w fun t_11 w =>
    pvv prog (binOp .and 21 (.int .i32 65533) t_8) w fun t_12 w =>
    pvv prog (binOp .or 21 t_11 t_12) w fun t_13 w =>
    K (.tuple #[t_13, (.int .i64 1)]) w) <|
  pvv prog (binOp .and 5 t_4 (.int .u8 7)) w fun t_14 w =>
  pvv prog (convert 5 3 t_14) w fun t_15 w =>
  pvv prog (binOp .shr 5 t_4 (.int .u64 4)) w fun t_16 w =>
  pvv prog (Instr.indexAt 110 (.pointer (some ⟨5, 0, none⟩)) t_16) w fun t_17 w =>
  ldv prog (Instr.loadAt 109 t_17) w fun t_18 w =>
  efv prog (Instr.alloc 109 true (.tuple #[])) w fun accept_19 w =>
  efu prog (Instr.storeAt 109 accept_19 t_18) w fun u_20 w =>
  pvv prog (binOp .lss 3 t_0 t_15) w fun t_21 w =>
  cd t_21 (
    K (.tuple #[(.int .i32 65533), (.int .i64 1)]) w) <|
  pvv prog (Instr.index 9 s_p0 (.int .i64 1)) w fun t_22 w =>
  pvv prog (Instr.fieldAt 109 accept_19 0) w fun t_23 w =>
  ldv prog (Instr.loadAt 5 t_23) w fun t_24 w =>
  pvv prog (binOp .lss 5 t_22 t_24) w fun t_25 w =>
  gate (some (t_25, false)) (fun K => pvv prog (Instr.fieldAt 109 accept_19 1) w K) w fun t_26 w =>
  gate (some (t_25, false)) (fun K => ldv prog (Instr.loadAt 5 t_26) w K) w fun t_27 w =>
  gate (some (t_25, false)) (fun K => K t_22 w) w fun t_28 w =>
  gate (some (t_25, false)) (fun K => pvv prog (binOp .lss 5 t_27 t_28) w K) w fun t_29 w =>
  pv prog (oPick t_25 (.bool true) t_29) w fun t_30 w =>
  cd t_30 (
    K (.tuple #[(.int .i32 65533), (.int .i64 1)]) w) <|
  pvv prog (binOp .leq 3 t_15 (.int .i64 2)) w fun t_31 w =>
  cd t_31 (
    pvv prog (binOp .and 5 t_2 (.int .u8 31)) w fun t_32 w =>
    pvv prog (convert 5 21 t_32) w fun t_33 w =>
    pvv prog (binOp .shl 21 t_33 (.int .u64 6)) w fun t_34 w =>
    pvv prog (binOp .and 5 t_22 (.int .u8 63)) w fun t_35 w =>
    pvv prog (convert 5 21 t_35) w fun t_36 w =>
    pvv prog (binOp .or 21 t_34 t_36) w fun t_37 w =>
    K (.tuple #[t_37, (.int .i64 2)]) w) <|
  pvv prog (Instr.index 9 s_p0 (.int .i64 2)) w fun t_38 w =>
  pvv prog (binOp .lss 5 t_38 (.int .u8 128)) w fun t_39 w =>
  gate (some (t_39, false)) (fun K => K t_38 w) w fun t_40 w =>
  gate (some (t_39, false)) (fun K => pvv prog (binOp .lss 5 (.int .u8 191) t_40) w K) w fun t_41 w =>
  pv prog (oPick t_39 (.bool true) t_41) w fun t_42 w =>
  cd t_42 (
    K (.tuple #[(.int .i32 65533), (.int .i64 1)]) w) <|
  pvv prog (binOp .leq 3 t_15 (.int .i64 3)) w fun t_43 w =>
  cd t_43 (
    pvv prog (binOp .and 5 t_2 (.int .u8 15)) w fun t_44 w =>
    pvv prog (convert 5 21 t_44) w fun t_45 w =>
    pvv prog (binOp .shl 21 t_45 (.int .u64 12)) w fun t_46 w =>
    pvv prog (binOp .and 5 t_22 (.int .u8 63)) w fun t_47 w =>
    pvv prog (convert 5 21 t_47) w fun t_48 w =>
    pvv prog (binOp .shl 21 t_48 (.int .u64 6)) w fun t_49 w =>
    pvv prog (binOp .or 21 t_46 t_49) w fun t_50 w =>
    pvv prog (binOp .and 5 t_38 (.int .u8 63)) w fun t_51 w =>
    pvv prog (convert 5 21 t_51) w fun t_52 w =>
    pvv prog (binOp .or 21 t_50 t_52) w fun t_53 w =>
    K (.tuple #[t_53, (.int .i64 3)]) w) <|
  pvv prog (Instr.index 9 s_p0 (.int .i64 3)) w fun t_54 w =>
  pvv prog (binOp .lss 5 t_54 (.int .u8 128)) w fun t_55 w =>
  gate (some (t_55, false)) (fun K => K t_54 w) w fun t_56 w =>
  gate (some (t_55, false)) (fun K => pvv prog (binOp .lss 5 (.int .u8 191) t_56) w K) w fun t_57 w =>
  pv prog (oPick t_55 (.bool true) t_57) w fun t_58 w =>
  cd t_58 (
    K (.tuple #[(.int .i32 65533), (.int .i64 1)]) w) <|
  pvv prog (binOp .and 5 t_2 (.int .u8 7)) w fun t_59 w =>
  pvv prog (convert 5 21 t_59) w fun t_60 w =>
  pvv prog (binOp .shl 21 t_60 (.int .u64 18)) w fun t_61 w =>
  pvv prog (binOp .and 5 t_22 (.int .u8 63)) w fun t_62 w =>
  pvv prog (convert 5 21 t_62) w fun t_63 w =>
  pvv prog (binOp .shl 21 t_63 (.int .u64 12)) w fun t_64 w =>
  pvv prog (binOp .or 21 t_61 t_64) w fun t_65 w =>
  pvv prog (binOp .and 5 t_38 (.int .u8 63)) w fun t_66 w =>
  pvv prog (convert 5 21 t_66) w fun t_67 w =>
  pvv prog (binOp .shl 21 t_67 (.int .u64 6)) w fun t_68 w =>
  pvv prog (binOp .or 21 t_65 t_68) w fun t_69 w =>
  pvv prog (binOp .and 5 t_54 (.int .u8 63)) w fun t_70 w =>
  pvv prog (convert 5 21 t_70) w fun t_71 w =>
  pvv prog (binOp .or 21 t_69 t_71) w fun t_72 w =>
  K (.tuple #[t_72, (.int .i64 4)]) w
theorem B77_eq (s_p0 : Value) (w : World) (K : Value → World → Prop) : denFn prog Tryd.f77 T77 [s_p0] w K = B77 s_p0 w K := by kernel_rfl
theorem c77 {s_p0 : Value} {w : World} {K : Value → World → Prop} (h : B77 s_p0 w K) : Calls prog 77 #[s_p0] w (Ret K) :=
  denFn_calls Tryd.func77 T77_ok (Eq.mpr (B77_eq s_p0 w K) h)

-- 6 holdfast/holdfastlaw02.CodecUnder
def T6 : Ann := (.seq .none (.seq .none (.seq .none (.seq .none (.seq .none (.seq (.seq .none (.seq (.seq .none .none) .none)) (.seq .none (.seq (.seq .none (.seq (.seq .none .none) .none)) (.seq .none (.seq .none (.seq .none .none)))))))))))
theorem T6_ok : chkFn prog Tryd.f6 T6 = true := by kernel_rfl
def B6 (a_p0 more_p1 : Value) (w : World) (K : Value → World → Prop) : Prop :=
  Calls prog 11 #[a_p0] w (Ret fun t_0 w =>
  pvv prog (Instr.extract t_0 0) w fun t_1 w =>
  pvv prog (Instr.extract t_0 1) w fun t_2 w =>
  ef prog (oBi .append #[22, 22] 22 #[false, false] #[(.slice none 0 0), a_p0]) w fun t_3 w =>
  ef prog (oBi .append #[22, 22] 22 #[false, false] #[t_3, more_p1]) w fun t_4 w =>
  Calls prog 11 #[t_4] w (Ret fun t_5 w =>
  pvv prog (Instr.extract t_5 0) w fun t_6 w =>
  pvv prog (Instr.extract t_5 1) w fun t_7 w =>
  pvv prog (oEq .neq 24 (.tmp 29) (.const (.int .i64 0)) t_2 (.int .i64 0)) w fun t_8 w =>
  gate (some (t_8, false)) (fun K => K t_7 w) w fun t_9 w =>
  gate (some (t_8, false)) (fun K => pvv prog (oEq .neq 24 (.tmp 32) (.const (.int .i64 0)) t_9 (.int .i64 0)) w K) w fun t_10 w =>
  pv prog (oPick t_8 (.bool true) t_10) w fun t_11 w =>
  cd t_11 (
    Calls prog 12 #[] w (Ret fun t_12 w =>
    K t_12 w)) <|
  Calls prog 11 #[more_p1] w (Ret fun t_13 w =>
  pvv prog (Instr.extract t_13 0) w fun t_14 w =>
  pvv prog (Instr.extract t_13 1) w fun t_15 w =>
  Calls prog 18 #[t_1] w (Ret fun t_16 w =>
  Calls prog 19 #[t_1] w (Ret fun t_17 w =>
  Calls prog 16 #[t_16, t_17] w (Ret fun t_18 w =>
  pvv prog (Op.unary .not t_18) w fun t_19 w =>
  gate (some (t_19, false)) (fun K => Calls prog 18 #[(.slice none 0 0)] w (Ret K)) w fun t_20 w =>
  gate (some (t_19, false)) (fun K => efv prog (Instr.buildSlice 23 1 #[(0, (.int .u8 255))]) w K) w fun t_21 w =>
  gate (some (t_19, false)) (fun K => Calls prog 16 #[t_20, t_21] w (Ret K)) w fun t_22 w =>
  gate (some (t_19, false)) (fun K => pvv prog (Op.unary .not t_22) w K) w fun t_23 w =>
  pv prog (oPick t_19 (.bool true) t_23) w fun t_24 w =>
  cd t_24 (
    K (.bool false) w) <|
  pvv prog (oEq .eql 24 (.tmp 53) (.const (.int .i64 0)) t_15 (.int .i64 0)) w fun t_25 w =>
  gate (some (t_25, true)) (fun K => K t_14 w) w fun t_26 w =>
  gate (some (t_25, true)) (fun K => K t_1 w) w fun t_27 w =>
  gate (some (t_25, true)) (fun K => Calls prog 13 #[t_26, t_27] w (Ret K)) w fun t_28 w =>
  gate (some (t_25, true)) (fun K => pvv prog (Op.unary .not t_28) w K) w fun t_29 w =>
  pv prog (oPick t_25 t_29 (.bool false)) w fun t_30 w =>
  gate (some (t_30, true)) (fun K => K t_14 w) w fun t_31 w =>
  gate (some (t_30, true)) (fun K => K t_1 w) w fun t_32 w =>
  gate (some (t_30, true)) (fun K => Calls prog 18 #[t_32] w (Ret K)) w fun t_33 w =>
  gate (some (t_30, true)) (fun K => Calls prog 13 #[t_31, t_33] w (Ret K)) w fun t_34 w =>
  pv prog (oPick t_30 t_34 (.bool false)) w fun t_35 w =>
  pv prog (oBi .len #[22] 3 #[false] #[more_p1]) w fun t_36 w =>
  pv prog (oBi .len #[22] 3 #[false] #[a_p0]) w fun t_37 w =>
  pvv prog (binOp .geq 3 t_36 t_37) w fun t_38 w =>
  gate (some (t_38, true)) (fun K => K more_p1 w) w fun t_39 w =>
  gate (some (t_38, true)) (fun K => K a_p0 w) w fun t_40 w =>
  gate (some (t_38, true)) (fun K => pv prog (oBi .len #[22] 3 #[false] #[t_40]) w K) w fun t_41 w =>
  gate (some (t_38, true)) (fun K => pvv prog (Instr.sliceAt 22 t_39 none (some t_41) none) w K) w fun t_42 w =>
  gate (some (t_38, true)) (fun K => K a_p0 w) w fun t_43 w =>
  gate (some (t_38, true)) (fun K => Calls prog 17 #[t_42, t_43] w (Ret K)) w fun t_44 w =>
  pv prog (oPick t_38 t_44 (.bool false)) w fun t_45 w =>
  Calls prog 12 #[] w (Ret fun t_46 w =>
  gate (some (t_46, true)) (fun K => K t_6 w) w fun t_47 w =>
  gate (some (t_46, true)) (fun K => K t_1 w) w fun t_48 w =>
  gate (some (t_46, true)) (fun K => Calls prog 13 #[t_47, t_48] w (Ret K)) w fun t_49 w =>
  gate (some (t_46, true)) (fun K => pvv prog (Op.unary .not t_49) w K) w fun t_50 w =>
  pv prog (oPick t_46 t_50 (.bool false)) w fun t_51 w =>
  gate (some (t_51, true)) (fun K => K t_6 w) w fun t_52 w =>
  gate (some (t_51, true)) (fun K => K t_1 w) w fun t_53 w =>
  gate (some (t_51, true)) (fun K => Calls prog 18 #[t_53] w (Ret K)) w fun t_54 w =>
  gate (some (t_51, true)) (fun K => Calls prog 13 #[t_52, t_54] w (Ret K)) w fun t_55 w =>
  pv prog (oPick t_51 t_55 (.bool false)) w fun t_56 w =>
  gate (some (t_56, true)) (fun K => K t_15 w) w fun t_57 w =>
  gate (some (t_56, true)) (fun K => pvv prog (oEq .neq 24 (.tmp 94) (.const (.int .i64 0)) t_57 (.int .i64 0)) w K) w fun t_58 w =>
  gate (some (t_56, true)) (fun K => K t_58 w) w fun t_59 w =>
  gate (some (t_59, false)) (fun K => K t_35 w) w fun t_60 w =>
  gate (some (t_59, false)) (fun K => K t_45 w) w fun t_61 w =>
  gate (some (t_59, false)) (fun K => pvv prog (oEq .eql 4 (.tmp 97) (.tmp 98) t_60 t_61) w K) w fun t_62 w =>
  gate (some (t_56, true)) (fun K => pv prog (oPick t_59 (.bool true) t_62) w K) w fun t_63 w =>
  pv prog (oPick t_56 t_63 (.bool false)) w fun t_64 w =>
  K t_64 w)))))))
theorem B6_eq (a_p0 more_p1 : Value) (w : World) (K : Value → World → Prop) : denFn prog Tryd.f6 T6 [a_p0, more_p1] w K = B6 a_p0 more_p1 w K := by kernel_rfl
theorem c6 {a_p0 more_p1 : Value} {w : World} {K : Value → World → Prop} (h : B6 a_p0 more_p1 w K) : Calls prog 6 #[a_p0, more_p1] w (Ret K) :=
  denFn_calls Tryd.func6 T6_ok (Eq.mpr (B6_eq a_p0 more_p1 w K) h)

-- 22 holdfast/codec.Columns
def T22 : Ann := (.seq .none (.seq (.block (.seq .none (.seq (.seq .none .none) (.seq .none (.seq (.seq .none .none) .none))))) (.seq .none (.seq .none (.seq (.seq .none (.block (.loop 73786976294301335661 [0, 29] (.seq .none (.seq (.seq .none .none) (.seq (.block (.seq .none (.seq (.seq .none (.seq (.seq .none .none) .none)) (.seq .none (.seq .none .none))))) .none)))))) (.seq (.seq .none (.seq (.seq .none .none) .none)) (.seq .none .none)))))))
theorem T22_ok : chkFn prog Tryd.f22 T22 = true := by kernel_rfl
def B22 (b_p0 : Value) (w : World) (K : Value → World → Prop) : Prop :=
  pv prog (oBi .len #[23] 3 #[false] #[b_p0]) w fun t_0 w =>
  pvv prog (binOp .gtr 3 t_0 (.int .i64 72)) w fun t_1 w =>
  cd t_1 (
    K (.tuple #[(.slice none 0 0), (.int .i64 6)]) w) <|
  pv prog (oBi .len #[23] 3 #[false] #[b_p0]) w fun t_2 w =>
  pvv prog (oEq .eql 3 (.tmp 13) (.const (.int .i64 0)) t_2 (.int .i64 0)) w fun t_3 w =>
  gate (some (t_3, false)) (fun K => K b_p0 w) w fun t_4 w =>
  gate (some (t_3, false)) (fun K => pvv prog (Instr.indexAt 23 t_4 (.int .i64 0)) w K) w fun t_5 w =>
  gate (some (t_3, false)) (fun K => ldv prog (Instr.loadAt 5 t_5) w K) w fun t_6 w =>
  gate (some (t_3, false)) (fun K => pvv prog (binOp .gtr 5 t_6 (.int .u8 8)) w K) w fun t_7 w =>
  pv prog (oPick t_3 (.bool true) t_7) w fun t_8 w =>
  cd t_8 (
    K (.tuple #[(.slice none 0 0), (.int .i64 3)]) w) <|
  pvv prog (Instr.indexAt 23 b_p0 (.int .i64 0)) w fun t_9 w =>
  ldv prog (Instr.loadAt 5 t_9) w fun t_10 w =>
  efv prog (Instr.makeSlice 22 t_10 t_10) w fun t_11 w =>
  pvv prog (Instr.sliceAt 23 b_p0 (some (.int .i64 1)) none none) w fun t_12 w =>
  pv prog (oBi .len #[22] 3 #[false] #[t_11]) w fun t_13 w =>
  lp (fun σ w again_16 => pop σ fun b_14 σ => pop σ fun t_15 σ => fin σ <|
    pvv prog (binOp .lss 3 t_15 t_13) w fun t_17 w =>
    cd t_17 (
      pv prog (oBi .len #[23] 3 #[false] #[b_14]) w fun t_18 w =>
      pvv prog (oEq .eql 3 (.tmp 33) (.const (.int .i64 0)) t_18 (.int .i64 0)) w fun t_19 w =>
      gate (some (t_19, false)) (fun K => K b_14 w) w fun t_20 w =>
      gate (some (t_19, false)) (fun K => pvv prog (Instr.indexAt 23 t_20 (.int .i64 0)) w K) w fun t_21 w =>
      gate (some (t_19, false)) (fun K => ldv prog (Instr.loadAt 5 t_21) w K) w fun t_22 w =>
      gate (some (t_19, false)) (fun K => pvv prog (binOp .gtr 5 t_22 (.int .u8 70)) w K) w fun t_23 w =>
      pv prog (oPick t_19 (.bool true) t_23) w fun t_24 w =>
      gate (some (t_24, false)) (fun K => K b_14 w) w fun t_25 w =>
      gate (some (t_24, false)) (fun K => pvv prog (Instr.indexAt 23 t_25 (.int .i64 0)) w K) w fun t_26 w =>
      gate (some (t_24, false)) (fun K => ldv prog (Instr.loadAt 5 t_26) w K) w fun t_27 w =>
      gate (some (t_24, false)) (fun K => pvv prog (convert 5 3 t_27) w K) w fun t_28 w =>
      gate (some (t_24, false)) (fun K => K b_14 w) w fun t_29 w =>
      gate (some (t_24, false)) (fun K => pv prog (oBi .len #[23] 3 #[false] #[t_29]) w K) w fun t_30 w =>
      gate (some (t_24, false)) (fun K => pvv prog (binOp .geq 3 t_28 t_30) w K) w fun t_31 w =>
      pv prog (oPick t_24 (.bool true) t_31) w fun t_32 w =>
      cd t_32 (
        K (.tuple #[(.slice none 0 0), (.int .i64 3)]) w) <|
      pvv prog (Instr.indexAt 23 b_14 (.int .i64 0)) w fun t_33 w =>
      ldv prog (Instr.loadAt 5 t_33) w fun t_34 w =>
      pvv prog (convert 5 3 t_34) w fun t_35 w =>
      pvv prog (binOp .add 3 t_35 (.int .i64 1)) w fun t_36 w =>
      pvv prog (Instr.sliceAt 23 b_14 (some (.int .i64 1)) (some t_36) none) w fun t_37 w =>
      efv prog (convert 23 9 t_37) w fun t_38 w =>
      pvv prog (Instr.indexAt 22 t_11 t_15) w fun t_39 w =>
      efu prog (Instr.storeAt 9 t_39 t_38) w fun u_40 w =>
      pvv prog (Instr.sliceAt 23 b_14 (some t_36) none none) w fun t_41 w =>
      pvv prog (binOp .add 3 t_15 (.int .i64 1)) w fun t_42 w =>
      again_16 [t_41, t_42] w) <|
    pv prog (oBi .len #[23] 3 #[false] #[b_14]) w fun t_43 w =>
    pvv prog (binOp .gtr 3 t_43 (.int .i64 0)) w fun t_44 w =>
    cd t_44 (
      K (.tuple #[(.slice none 0 0), (.int .i64 3)]) w) <|
    K (.tuple #[t_11, (.int .i64 0)]) w) [t_12, (.int .i64 0)] w
theorem B22_eq (b_p0 : Value) (w : World) (K : Value → World → Prop) : denFn prog Tryd.f22 T22 [b_p0] w K = B22 b_p0 w K := by kernel_rfl
theorem c22 {b_p0 : Value} {w : World} {K : Value → World → Prop} (h : B22 b_p0 w K) : Calls prog 22 #[b_p0] w (Ret K) :=
  denFn_calls Tryd.func22 T22_ok (Eq.mpr (B22_eq b_p0 w K) h)

-- 7 holdfast/holdfastlaw02.CodecRows
def T7 : Ann := (.seq .none (.seq .none (.seq .none (.seq .none (.seq .none (.seq (.seq .none (.seq (.seq .none .none) .none)) (.meet 75555557882905109749776 [] (.seq .none (.seq (.seq .none (.seq .none (.seq (.seq .none .none) .none))) .none)) (.seq (.seq .none (.seq (.seq .none .none) .none)) (.seq .none (.seq .none .none))))))))))
theorem T7_ok : chkFn prog Tryd.f7 T7 = true := by kernel_rfl
def B7 (columns_p0 b_p1 : Value) (w : World) (K : Value → World → Prop) : Prop :=
  Calls prog 20 #[columns_p0] w (Ret fun t_0 w =>
  pvv prog (Instr.extract t_0 0) w fun t_1 w =>
  pvv prog (Instr.extract t_0 1) w fun t_2 w =>
  Calls prog 21 #[columns_p0] w (Ret fun t_3 w =>
  pvv prog (Instr.extract t_3 0) w fun t_4 w =>
  pvv prog (Instr.extract t_3 1) w fun t_5 w =>
  Calls prog 22 #[b_p1] w (Ret fun t_6 w =>
  pvv prog (Instr.extract t_6 0) w fun t_7 w =>
  pvv prog (Instr.extract t_6 1) w fun t_8 w =>
  Calls prog 23 #[b_p1] w (Ret fun t_9 w =>
  pvv prog (Instr.extract t_9 0) w fun t_10 w =>
  pvv prog (Instr.extract t_9 1) w fun t_11 w =>
  Calls prog 12 #[] w (Ret fun t_12 w =>
  pvv prog (Op.unary .not t_12) w fun t_13 w =>
  gate (some (t_13, false)) (fun K => K t_1 w) w fun t_14 w =>
  gate (some (t_13, false)) (fun K => K t_4 w) w fun t_15 w =>
  gate (some (t_13, false)) (fun K => Calls prog 16 #[t_14, t_15] w (Ret K)) w fun t_16 w =>
  gate (some (t_13, false)) (fun K => pvv prog (Op.unary .not t_16) w K) w fun t_17 w =>
  pv prog (oPick t_13 (.bool true) t_17) w fun t_18 w =>
  gate (some (t_18, false)) (fun K => K t_2 w) w fun t_19 w =>
  gate (some (t_18, false)) (fun K => K t_5 w) w fun t_20 w =>
  gate (some (t_18, false)) (fun K => pvv prog (oEq .neq 24 (.tmp 46) (.tmp 47) t_19 t_20) w K) w fun t_21 w =>
  pv prog (oPick t_18 (.bool true) t_21) w fun t_22 w =>
  gate (some (t_22, false)) (fun K => K t_7 w) w fun t_23 w =>
  gate (some (t_22, false)) (fun K => K t_10 w) w fun t_24 w =>
  gate (some (t_22, false)) (fun K => Calls prog 17 #[t_23, t_24] w (Ret K)) w fun t_25 w =>
  gate (some (t_22, false)) (fun K => pvv prog (Op.unary .not t_25) w K) w fun t_26 w =>
  pv prog (oPick t_22 (.bool true) t_26) w fun t_27 w =>
  gate (some (t_27, false)) (fun K => K t_8 w) w fun t_28 w =>
  gate (some (t_27, false)) (fun K => K t_11 w) w fun t_29 w =>
  gate (some (t_27, false)) (fun K => pvv prog (oEq .neq 24 (.tmp 57) (.tmp 58) t_28 t_29) w K) w fun t_30 w =>
  pv prog (oPick t_27 (.bool true) t_30) w fun t_31 w =>
  cd t_31 (
    K (.bool false) w) <|
  jn (fun σ w => fin σ <|
    pvv prog (oEq .neq 24 (.tmp 76) (.const (.int .i64 0)) t_2 (.int .i64 0)) w fun t_32 w =>
    cd t_32 (
      K (.bool true) w) <|
    Calls prog 22 #[t_1] w (Ret fun t_33 w =>
    pvv prog (Instr.extract t_33 0) w fun t_34 w =>
    pvv prog (Instr.extract t_33 1) w fun t_35 w =>
    pvv prog (oEq .eql 24 (.tmp 83) (.const (.int .i64 0)) t_35 (.int .i64 0)) w fun t_36 w =>
    gate (some (t_36, true)) (fun K => K t_34 w) w fun t_37 w =>
    gate (some (t_36, true)) (fun K => K columns_p0 w) w fun t_38 w =>
    gate (some (t_36, true)) (fun K => Calls prog 17 #[t_37, t_38] w (Ret K)) w fun t_39 w =>
    pv prog (oPick t_36 t_39 (.bool false)) w fun t_40 w =>
    K t_40 w)) fun k_41 =>
  pvv prog (oEq .eql 24 (.tmp 61) (.const (.int .i64 0)) t_8 (.int .i64 0)) w fun t_42 w =>
  cd t_42 (
    Calls prog 20 #[t_7] w (Ret fun t_43 w =>
    pvv prog (Instr.extract t_43 0) w fun t_44 w =>
    pvv prog (Instr.extract t_43 1) w fun t_45 w =>
    pvv prog (oEq .neq 24 (.tmp 68) (.const (.int .i64 0)) t_45 (.int .i64 0)) w fun t_46 w =>
    gate (some (t_46, false)) (fun K => K t_44 w) w fun t_47 w =>
    gate (some (t_46, false)) (fun K => K b_p1 w) w fun t_48 w =>
    gate (some (t_46, false)) (fun K => Calls prog 16 #[t_47, t_48] w (Ret K)) w fun t_49 w =>
    gate (some (t_46, false)) (fun K => pvv prog (Op.unary .not t_49) w K) w fun t_50 w =>
    pv prog (oPick t_46 (.bool true) t_50) w fun t_51 w =>
    cd t_51 (
      K (.bool false) w) <|
    k_41 [] w)) <|
  k_41 [] w)))))
theorem B7_eq (columns_p0 b_p1 : Value) (w : World) (K : Value → World → Prop) : denFn prog Tryd.f7 T7 [columns_p0, b_p1] w K = B7 columns_p0 b_p1 w K := by kernel_rfl
theorem c7 {columns_p0 b_p1 : Value} {w : World} {K : Value → World → Prop} (h : B7 columns_p0 b_p1 w K) : Calls prog 7 #[columns_p0, b_p1] w (Ret K) :=
  denFn_calls Tryd.func7 T7_ok (Eq.mpr (B7_eq columns_p0 b_p1 w K) h)

-- 5 holdfast/holdfastlaw02.CodecApart
def T5 : Ann := (.seq .none (.seq .none (.seq .none (.seq (.seq .none (.seq (.seq .none .none) .none)) (.seq .none (.seq .none (.seq .none .none)))))))
theorem T5_ok : chkFn prog Tryd.f5 T5 = true := by kernel_rfl
def B5 (a_p0 b_p1 : Value) (w : World) (K : Value → World → Prop) : Prop :=
  Calls prog 11 #[a_p0] w (Ret fun t_0 w =>
  pvv prog (Instr.extract t_0 0) w fun t_1 w =>
  pvv prog (Instr.extract t_0 1) w fun t_2 w =>
  Calls prog 11 #[b_p1] w (Ret fun t_3 w =>
  pvv prog (Instr.extract t_3 0) w fun t_4 w =>
  pvv prog (Instr.extract t_3 1) w fun t_5 w =>
  pvv prog (oEq .neq 24 (.tmp 21) (.const (.int .i64 0)) t_2 (.int .i64 0)) w fun t_6 w =>
  gate (some (t_6, false)) (fun K => K t_5 w) w fun t_7 w =>
  gate (some (t_6, false)) (fun K => pvv prog (oEq .neq 24 (.tmp 24) (.const (.int .i64 0)) t_7 (.int .i64 0)) w K) w fun t_8 w =>
  pv prog (oPick t_6 (.bool true) t_8) w fun t_9 w =>
  cd t_9 (
    Calls prog 12 #[] w (Ret fun t_10 w =>
    K t_10 w)) <|
  pv prog (oBi .len #[23] 3 #[false] #[t_4]) w fun t_11 w =>
  pv prog (oBi .len #[23] 3 #[false] #[t_1]) w fun t_12 w =>
  pvv prog (binOp .geq 3 t_11 t_12) w fun t_13 w =>
  gate (some (t_13, true)) (fun K => K t_4 w) w fun t_14 w =>
  gate (some (t_13, true)) (fun K => K t_1 w) w fun t_15 w =>
  gate (some (t_13, true)) (fun K => pv prog (oBi .len #[23] 3 #[false] #[t_15]) w K) w fun t_16 w =>
  gate (some (t_13, true)) (fun K => pvv prog (Instr.sliceAt 23 t_14 none (some t_16) none) w K) w fun t_17 w =>
  gate (some (t_13, true)) (fun K => K t_1 w) w fun t_18 w =>
  gate (some (t_13, true)) (fun K => Calls prog 16 #[t_17, t_18] w (Ret K)) w fun t_19 w =>
  pv prog (oPick t_13 t_19 (.bool false)) w fun t_20 w =>
  pv prog (oBi .len #[22] 3 #[false] #[b_p1]) w fun t_21 w =>
  pv prog (oBi .len #[22] 3 #[false] #[a_p0]) w fun t_22 w =>
  pvv prog (binOp .geq 3 t_21 t_22) w fun t_23 w =>
  gate (some (t_23, true)) (fun K => K b_p1 w) w fun t_24 w =>
  gate (some (t_23, true)) (fun K => K a_p0 w) w fun t_25 w =>
  gate (some (t_23, true)) (fun K => pv prog (oBi .len #[22] 3 #[false] #[t_25]) w K) w fun t_26 w =>
  gate (some (t_23, true)) (fun K => pvv prog (Instr.sliceAt 22 t_24 none (some t_26) none) w K) w fun t_27 w =>
  gate (some (t_23, true)) (fun K => K a_p0 w) w fun t_28 w =>
  gate (some (t_23, true)) (fun K => Calls prog 17 #[t_27, t_28] w (Ret K)) w fun t_29 w =>
  pv prog (oPick t_23 t_29 (.bool false)) w fun t_30 w =>
  Calls prog 12 #[] w (Ret fun t_31 w =>
  gate (some (t_31, true)) (fun K => K t_20 w) w fun t_32 w =>
  gate (some (t_31, true)) (fun K => K t_30 w) w fun t_33 w =>
  gate (some (t_31, true)) (fun K => pvv prog (oEq .eql 4 (.tmp 56) (.tmp 57) t_32 t_33) w K) w fun t_34 w =>
  pv prog (oPick t_31 t_34 (.bool false)) w fun t_35 w =>
  gate (some (t_35, true)) (fun K => K t_1 w) w fun t_36 w =>
  gate (some (t_35, true)) (fun K => K t_4 w) w fun t_37 w =>
  gate (some (t_35, true)) (fun K => Calls prog 16 #[t_36, t_37] w (Ret K)) w fun t_38 w =>
  gate (some (t_35, true)) (fun K => K a_p0 w) w fun t_39 w =>
  gate (some (t_35, true)) (fun K => K b_p1 w) w fun t_40 w =>
  gate (some (t_35, true)) (fun K => Calls prog 17 #[t_39, t_40] w (Ret K)) w fun t_41 w =>
  gate (some (t_35, true)) (fun K => pvv prog (oEq .eql 4 (.tmp 63) (.tmp 66) t_38 t_41) w K) w fun t_42 w =>
  pv prog (oPick t_35 t_42 (.bool false)) w fun t_43 w =>
  K t_43 w)))
theorem B5_eq (a_p0 b_p1 : Value) (w : World) (K : Value → World → Prop) : denFn prog Tryd.f5 T5 [a_p0, b_p1] w K = B5 a_p0 b_p1 w K := by kernel_rfl
theorem c5 {a_p0 b_p1 : Value} {w : World} {K : Value → World → Prop} (h : B5 a_p0 b_p1 w K) : Calls prog 5 #[a_p0, b_p1] w (Ret K) :=
  denFn_calls Tryd.func5 T5_ok (Eq.mpr (B5_eq a_p0 b_p1 w K) h)

-- 26 holdfast/codec.Parts
def T26 : Ann := (.seq .none (.seq (.seq .none (.seq (.seq .none .none) .none)) (.seq .none (.seq (.seq .none (.block (.range (.seq .none .none) (.block (.seq (.seq .none (.seq (.seq .none .none) .none)) .none))))) (.seq (.seq .none (.seq (.seq .none .none) .none)) (.seq .none .none))))))
theorem T26_ok : chkFn prog Tryd.f26 T26 = true := by kernel_rfl
def B26 (key_p0 : Value) (w : World) (K : Value → World → Prop) : Prop :=
  efv prog (Instr.alloc 22 true (.tuple #[])) w fun t_0 w =>
  efv prog (Instr.alloc 24 true (.tuple #[])) w fun t_1 w =>
  pv prog (oBi .len #[23] 3 #[false] #[key_p0]) w fun t_2 w =>
  pvv prog (binOp .gtr 3 t_2 (.int .i64 64)) w fun t_3 w =>
  cd t_3 (
    efu prog (Instr.storeAt 22 t_0 (.slice none 0 0)) w fun u_4 w =>
    efu prog (Instr.storeAt 24 t_1 (.int .i64 6)) w fun u_5 w =>
    ∃ r_6, (do loadVar 22 (← asAddr t_0)).run prog w = .ok r_6 w ∧ ∃ r_7, (do loadVar 24 (← asAddr t_1)).run prog w = .ok r_7 w ∧ K (.tuple #[r_6, r_7]) w) <|
  efv prog (Instr.alloc 22 true (.tuple #[])) w fun out_8 w =>
  Calls prog 33 #[key_p0] w (Ret fun t_9 w =>
  rng prog 2 t_9 (fun σ w bg_12 ex_13 => pop σ fun t_10 σ => pop σ fun t_11 σ => fin σ <|
    bg_12 w fun w =>
    pvv prog (Op.unary .not t_11) w fun t_14 w =>
    cd t_14 (
      efu prog (Instr.storeAt 22 t_0 (.slice none 0 0)) w fun u_15 w =>
      efu prog (Instr.storeAt 24 t_1 (.int .i64 3)) w fun u_16 w =>
      ex_13 .ret w) <|
    ldv prog (Instr.loadAt 22 out_8) w fun t_17 w =>
    efv prog (Instr.buildSlice 22 1 #[(0, t_10)]) w fun t_18 w =>
    ef prog (oBi .append #[22, 22] 22 #[false, false] #[t_17, t_18]) w fun t_19 w =>
    efu prog (Instr.storeAt 22 out_8 t_19) w fun u_20 w =>
    ex_13 .normal w) w fun p_22 D_21 w =>
  jump (
    ldv prog (Instr.loadAt 22 out_8) w fun t_23 w =>
    pv prog (oBi .len #[22] 3 #[false] #[t_23]) w fun t_24 w =>
    pvv prog (binOp .lss 3 t_24 (.int .i64 1)) w fun t_25 w =>
    gate (some (t_25, false)) (fun K => ldv prog (Instr.loadAt 22 out_8) w K) w fun t_26 w =>
    gate (some (t_25, false)) (fun K => pv prog (oBi .len #[22] 3 #[false] #[t_26]) w K) w fun t_27 w =>
    gate (some (t_25, false)) (fun K => pvv prog (binOp .gtr 3 t_27 (.int .i64 8)) w K) w fun t_28 w =>
    pv prog (oPick t_25 (.bool true) t_28) w fun t_29 w =>
    cd t_29 (
      efu prog (Instr.storeAt 22 t_0 (.slice none 0 0)) w fun u_30 w =>
      efu prog (Instr.storeAt 24 t_1 (.int .i64 3)) w fun u_31 w =>
      und [D_21] w fun w => ∃ r_32, (do loadVar 22 (← asAddr t_0)).run prog w = .ok r_32 w ∧ ∃ r_33, (do loadVar 24 (← asAddr t_1)).run prog w = .ok r_33 w ∧ K (.tuple #[r_32, r_33]) w) <|
    ldv prog (Instr.loadAt 22 out_8) w fun t_34 w =>
    efu prog (Instr.storeAt 22 t_0 t_34) w fun u_35 w =>
    efu prog (Instr.storeAt 24 t_1 (.int .i64 0)) w fun u_36 w =>
    und [D_21] w fun w => ∃ r_37, (do loadVar 22 (← asAddr t_0)).run prog w = .ok r_37 w ∧ ∃ r_38, (do loadVar 24 (← asAddr t_1)).run prog w = .ok r_38 w ∧ K (.tuple #[r_37, r_38]) w) (
    und [D_21] w fun w => ∃ r_39, (do loadVar 22 (← asAddr t_0)).run prog w = .ok r_39 w ∧ ∃ r_40, (do loadVar 24 (← asAddr t_1)).run prog w = .ok r_40 w ∧ K (.tuple #[r_39, r_40]) w) [] p_22)
theorem B26_eq (key_p0 : Value) (w : World) (K : Value → World → Prop) : denFn prog Tryd.f26 T26 [key_p0] w K = B26 key_p0 w K := by kernel_rfl
theorem c26 {key_p0 : Value} {w : World} {K : Value → World → Prop} (h : B26 key_p0 w K) : Calls prog 26 #[key_p0] w (Ret K) :=
  denFn_calls Tryd.func26 T26_ok (Eq.mpr (B26_eq key_p0 w K) h)

-- 10 holdfast/holdfastlaw02.CodecNext
def T10 : Ann := (.seq .none (.seq (.seq .none (.seq (.seq .none .none) .none)) (.seq .none (.seq .none (.seq .none (.seq .none .none))))))
theorem T10_ok : chkFn prog Tryd.f10 T10 = true := by kernel_rfl
def B10 (n_p0 : Value) (w : World) (K : Value → World → Prop) : Prop :=
  pvv prog (binOp .lss 3 n_p0 (.int .i64 0)) w fun t_0 w =>
  gate (some (t_0, false)) (fun K => K n_p0 w) w fun t_1 w =>
  gate (some (t_0, false)) (fun K => pvv prog (binOp .geq 3 t_1 (.int .i64 4611686018427387904)) w K) w fun t_2 w =>
  pv prog (oPick t_0 (.bool true) t_2) w fun t_3 w =>
  cd t_3 (
    Calls prog 12 #[] w (Ret fun t_4 w =>
    K t_4 w)) <|
  Calls prog 15 #[n_p0] w (Ret fun t_5 w =>
  pvv prog (Instr.extract t_5 0) w fun t_6 w =>
  pvv prog (Instr.extract t_5 1) w fun t_7 w =>
  pvv prog (binOp .add 3 n_p0 (.int .i64 1)) w fun t_8 w =>
  Calls prog 15 #[t_8] w (Ret fun t_9 w =>
  pvv prog (Instr.extract t_9 0) w fun t_10 w =>
  pvv prog (Instr.extract t_9 1) w fun t_11 w =>
  Calls prog 28 #[t_10] w (Ret fun t_12 w =>
  pvv prog (Instr.extract t_12 0) w fun t_13 w =>
  pvv prog (Instr.extract t_12 1) w fun t_14 w =>
  Calls prog 12 #[] w (Ret fun t_15 w =>
  gate (some (t_15, true)) (fun K => K t_7 w) w fun t_16 w =>
  gate (some (t_15, true)) (fun K => pvv prog (oEq .eql 24 (.tmp 34) (.const (.int .i64 0)) t_16 (.int .i64 0)) w K) w fun t_17 w =>
  pv prog (oPick t_15 t_17 (.bool false)) w fun t_18 w =>
  gate (some (t_18, true)) (fun K => K t_11 w) w fun t_19 w =>
  gate (some (t_18, true)) (fun K => pvv prog (oEq .eql 24 (.tmp 38) (.const (.int .i64 0)) t_19 (.int .i64 0)) w K) w fun t_20 w =>
  pv prog (oPick t_18 t_20 (.bool false)) w fun t_21 w =>
  gate (some (t_21, true)) (fun K => K t_14 w) w fun t_22 w =>
  gate (some (t_21, true)) (fun K => pvv prog (oEq .eql 24 (.tmp 42) (.const (.int .i64 0)) t_22 (.int .i64 0)) w K) w fun t_23 w =>
  pv prog (oPick t_21 t_23 (.bool false)) w fun t_24 w =>
  gate (some (t_24, true)) (fun K => K t_6 w) w fun t_25 w =>
  gate (some (t_24, true)) (fun K => K t_10 w) w fun t_26 w =>
  gate (some (t_24, true)) (fun K => pvv prog (binOp .lss 9 t_25 t_26) w K) w fun t_27 w =>
  pv prog (oPick t_24 t_27 (.bool false)) w fun t_28 w =>
  gate (some (t_28, true)) (fun K => K t_13 w) w fun t_29 w =>
  gate (some (t_28, true)) (fun K => K n_p0 w) w fun t_30 w =>
  gate (some (t_28, true)) (fun K => pvv prog (binOp .add 3 t_30 (.int .i64 1)) w K) w fun t_31 w =>
  gate (some (t_28, true)) (fun K => pvv prog (oEq .eql 3 (.tmp 51) (.tmp 53) t_29 t_31) w K) w fun t_32 w =>
  pv prog (oPick t_28 t_32 (.bool false)) w fun t_33 w =>
  K t_33 w))))
theorem B10_eq (n_p0 : Value) (w : World) (K : Value → World → Prop) : denFn prog Tryd.f10 T10 [n_p0] w K = B10 n_p0 w K := by kernel_rfl
theorem c10 {n_p0 : Value} {w : World} {K : Value → World → Prop} (h : B10 n_p0 w K) : Calls prog 10 #[n_p0] w (Ret K) :=
  denFn_calls Tryd.func10 T10_ok (Eq.mpr (B10_eq n_p0 w K) h)

-- 21 holdfast/holdfastref02.Row
def T21 : Ann := (.seq .none (.seq (.seq .none (.seq (.seq .none .none) .none)) (.seq .none (.seq (.seq .none (.block (.loop 1099511619644 [4, 5] (.seq (.seq .none (.seq .none .none)) (.seq (.block (.seq (.seq .none (.seq (.seq .none .none) .none)) (.seq .none .none))) .none))))) (.seq (.seq .none (.seq (.seq .none .none) .none)) (.seq .none .none))))))
theorem T21_ok : chkFn prog Tryd.f21 T21 = true := by kernel_rfl
def B21 (columns_p0 : Value) (w : World) (K : Value → World → Prop) : Prop :=
  pv prog (oBi .len #[22] 3 #[false] #[columns_p0]) w fun t_0 w =>
  pvv prog (binOp .gtr 3 t_0 (.int .i64 8)) w fun t_1 w =>
  cd t_1 (
    K (.tuple #[(.slice none 0 0), (.int .i64 2)]) w) <|
  pv prog (oBi .len #[22] 3 #[false] #[columns_p0]) w fun t_2 w =>
  pvv prog (convert 3 5 t_2) w fun t_3 w =>
  efv prog (Instr.buildSlice 23 1 #[(0, t_3)]) w fun t_4 w =>
  lp (fun σ w again_7 => pop σ fun out_5 σ => pop σ fun i_6 σ => fin σ <|
    pv prog (oBi .len #[22] 3 #[false] #[columns_p0]) w fun t_8 w =>
    pvv prog (binOp .lss 3 i_6 t_8) w fun t_9 w =>
    cd t_9 (
      pvv prog (Instr.indexAt 22 columns_p0 i_6) w fun t_10 w =>
      ldv prog (Instr.loadAt 9 t_10) w fun t_11 w =>
      pv prog (oBi .len #[9] 3 #[false] #[t_11]) w fun t_12 w =>
      pvv prog (binOp .gtr 3 t_12 (.int .i64 70)) w fun t_13 w =>
      cd t_13 (
        K (.tuple #[(.slice none 0 0), (.int .i64 6)]) w) <|
      pvv prog (Instr.indexAt 22 columns_p0 i_6) w fun t_14 w =>
      ldv prog (Instr.loadAt 9 t_14) w fun t_15 w =>
      pv prog (oBi .len #[9] 3 #[false] #[t_15]) w fun t_16 w =>
      pvv prog (convert 3 5 t_16) w fun t_17 w =>
      efv prog (Instr.buildSlice 23 1 #[(0, t_17)]) w fun t_18 w =>
      ef prog (oBi .append #[23, 23] 23 #[false, false] #[out_5, t_18]) w fun t_19 w =>
      pvv prog (Instr.indexAt 22 columns_p0 i_6) w fun t_20 w =>
      ldv prog (Instr.loadAt 9 t_20) w fun t_21 w =>
      ef prog (oBi .append #[23, 9] 23 #[false, false] #[t_19, t_21]) w fun t_22 w =>
      pvv prog (binOp .add 3 i_6 (.int .i64 1)) w fun t_23 w =>
      again_7 [t_22, t_23] w) <|
    pv prog (oBi .len #[23] 3 #[false] #[out_5]) w fun t_24 w =>
    pvv prog (binOp .gtr 3 t_24 (.int .i64 72)) w fun t_25 w =>
    cd t_25 (
      K (.tuple #[(.slice none 0 0), (.int .i64 6)]) w) <|
    K (.tuple #[out_5, (.int .i64 0)]) w) [t_4, (.int .i64 0)] w
theorem B21_eq (columns_p0 : Value) (w : World) (K : Value → World → Prop) : denFn prog Tryd.f21 T21 [columns_p0] w K = B21 columns_p0 w K := by kernel_rfl
theorem c21 {columns_p0 : Value} {w : World} {K : Value → World → Prop} (h : B21 columns_p0 w K) : Calls prog 21 #[columns_p0] w (Ret K) :=
  denFn_calls Tryd.func21 T21_ok (Eq.mpr (B21_eq columns_p0 w K) h)

-- 14 holdfast/holdfastlaw02.before
def T14 : Ann := (.seq .none (.seq (.seq .none (.block (.loop 68719476720 [5] (.seq (.seq .none (.seq .none .none)) (.seq (.block (.seq (.draw [.op 0 .pure, .op 1 .pure, .op 2 .pure, .op 4 .pure, .op 5 .pure, .op 6 .pure, .op 3 .load, .op 7 .load, .op 8 .pure]) (.seq (.seq (.draw [.op 0 .pure, .op 1 .pure, .op 2 .pure, .op 4 .pure, .op 5 .pure, .op 6 .pure, .op 3 .load, .op 7 .load, .op 8 .pure, .op 9 .pure]) .none) .none))) .none))))) (.seq .none .none)))
theorem T14_ok : chkFn prog Tryd.f14 T14 = true := by kernel_rfl
def B14 (a_p0 b_p1 : Value) (w : World) (K : Value → World → Prop) : Prop :=
  lp (fun σ w again_1 => pop σ fun i_0 σ => fin σ <|
    pv prog (oBi .len #[22] 3 #[false] #[a_p0]) w fun t_2 w =>
    pvv prog (binOp .lss 3 i_0 t_2) w fun t_3 w =>
    gate (some (t_3, true)) (fun K => K i_0 w) w fun t_4 w =>
    gate (some (t_3, true)) (fun K => K b_p1 w) w fun t_5 w =>
    gate (some (t_3, true)) (fun K => pv prog (oBi .len #[22] 3 #[false] #[t_5]) w K) w fun t_6 w =>
    gate (some (t_3, true)) (fun K => pvv prog (binOp .lss 3 t_4 t_6) w K) w fun t_7 w =>
    pv prog (oPick t_3 t_7 (.bool false)) w fun t_8 w =>
    cd t_8 (
      dr w fun w =>
      pvv prog (Instr.indexAt 22 a_p0 i_0) w fun t_9 w =>
      pvv prog (Instr.indexAt 22 b_p1 i_0) w fun t_10 w =>
      bindS (vN (Instr.loadAt 9 t_9)) fun m_12 => ldv prog (Instr.loadAt 9 t_9) w fun t_11 w =>
      bindS (vN (Instr.loadAt 9 t_10)) fun m_14 => ldv prog (Instr.loadAt 9 t_10) w fun t_13 w =>
      pvv prog (oEq .neq 9 (.tmp 21) (.tmp 25) t_11 t_13) w fun t_15 w =>
      cd t_15 (
        dr w fun w =>
        pvv prog (Instr.indexAt 22 a_p0 i_0) w fun t_16 w =>
        pvv prog (Instr.indexAt 22 b_p1 i_0) w fun t_17 w =>
        bindS (vN (Instr.loadAt 9 t_16)) fun m_19 => ldv prog (Instr.loadAt 9 t_16) w fun t_18 w =>
        bindS (vN (Instr.loadAt 9 t_17)) fun m_21 => ldv prog (Instr.loadAt 9 t_17) w fun t_20 w =>
        pvv prog (binOp .lss 9 t_18 t_20) w fun t_22 w =>
        K t_22 w) <|
      pvv prog (binOp .add 3 i_0 (.int .i64 1)) w fun t_23 w =>
      again_1 [t_23] w) <|
    pv prog (oBi .len #[22] 3 #[false] #[a_p0]) w fun t_24 w =>
    pv prog (oBi .len #[22] 3 #[false] #[b_p1]) w fun t_25 w =>
    pvv prog (binOp .lss 3 t_24 t_25) w fun t_26 w =>
    K t_26 w) [(.int .i64 0)] w
theorem B14_eq (a_p0 b_p1 : Value) (w : World) (K : Value → World → Prop) : denFn prog Tryd.f14 T14 [a_p0, b_p1] w K = B14 a_p0 b_p1 w K := by kernel_rfl
theorem c14 {a_p0 b_p1 : Value} {w : World} {K : Value → World → Prop} (h : B14 a_p0 b_p1 w K) : Calls prog 14 #[a_p0, b_p1] w (Ret K) :=
  denFn_calls Tryd.func14 T14_ok (Eq.mpr (B14_eq a_p0 b_p1 w K) h)

-- 20 holdfast/codec.Row
def T20 : Ann := (.seq .none (.seq (.seq .none (.seq (.seq .none .none) .none)) (.seq .none (.seq (.seq .none (.block (.loop 4294901852 [4, 16] (.seq .none (.seq (.seq .none .none) (.seq (.block (.seq .none (.seq (.seq .none (.seq (.seq .none .none) .none)) .none))) .none)))))) (.seq (.seq .none (.seq (.seq .none .none) .none)) (.seq .none .none))))))
theorem T20_ok : chkFn prog Tryd.f20 T20 = true := by kernel_rfl
def B20 (columns_p0 : Value) (w : World) (K : Value → World → Prop) : Prop :=
  pv prog (oBi .len #[22] 3 #[false] #[columns_p0]) w fun t_0 w =>
  pvv prog (binOp .gtr 3 t_0 (.int .i64 8)) w fun t_1 w =>
  cd t_1 (
    K (.tuple #[(.slice none 0 0), (.int .i64 2)]) w) <|
  pv prog (oBi .len #[22] 3 #[false] #[columns_p0]) w fun t_2 w =>
  pvv prog (convert 3 5 t_2) w fun t_3 w =>
  efv prog (Instr.buildSlice 23 1 #[(0, t_3)]) w fun t_4 w =>
  pv prog (oBi .len #[22] 3 #[false] #[columns_p0]) w fun t_5 w =>
  lp (fun σ w again_8 => pop σ fun out_6 σ => pop σ fun t_7 σ => fin σ <|
    pvv prog (binOp .lss 3 t_7 t_5) w fun t_9 w =>
    cd t_9 (
      pvv prog (Instr.indexAt 22 columns_p0 t_7) w fun t_10 w =>
      ldv prog (Instr.loadAt 9 t_10) w fun t_11 w =>
      pv prog (oBi .len #[9] 3 #[false] #[t_11]) w fun t_12 w =>
      pvv prog (binOp .gtr 3 t_12 (.int .i64 70)) w fun t_13 w =>
      cd t_13 (
        K (.tuple #[(.slice none 0 0), (.int .i64 6)]) w) <|
      pv prog (oBi .len #[9] 3 #[false] #[t_11]) w fun t_14 w =>
      pvv prog (convert 3 5 t_14) w fun t_15 w =>
      efv prog (Instr.buildSlice 23 1 #[(0, t_15)]) w fun t_16 w =>
      ef prog (oBi .append #[23, 23] 23 #[false, false] #[out_6, t_16]) w fun t_17 w =>
      ef prog (oBi .append #[23, 9] 23 #[false, false] #[t_17, t_11]) w fun t_18 w =>
      pvv prog (binOp .add 3 t_7 (.int .i64 1)) w fun t_19 w =>
      again_8 [t_18, t_19] w) <|
    pv prog (oBi .len #[23] 3 #[false] #[out_6]) w fun t_20 w =>
    pvv prog (binOp .gtr 3 t_20 (.int .i64 72)) w fun t_21 w =>
    cd t_21 (
      K (.tuple #[(.slice none 0 0), (.int .i64 6)]) w) <|
    K (.tuple #[out_6, (.int .i64 0)]) w) [t_4, (.int .i64 0)] w
theorem B20_eq (columns_p0 : Value) (w : World) (K : Value → World → Prop) : denFn prog Tryd.f20 T20 [columns_p0] w K = B20 columns_p0 w K := by kernel_rfl
theorem c20 {columns_p0 : Value} {w : World} {K : Value → World → Prop} (h : B20 columns_p0 w K) : Calls prog 20 #[columns_p0] w (Ret K) :=
  denFn_calls Tryd.func20 T20_ok (Eq.mpr (B20_eq columns_p0 w K) h)

-- 58 internal/strconv.small
def T58 : Ann := (.seq .none (.seq (.seq .none (.seq (.seq .none .none) .none)) (.seq .none .none)))
theorem T58_ok : chkFn prog Tryd.f58 T58 = true := by kernel_rfl
def B58 (i_p0 : Value) (w : World) (K : Value → World → Prop) : Prop :=
  pvv prog (binOp .lss 3 i_p0 (.int .i64 10)) w fun t_0 w =>
  cd t_0 (
    pvv prog (binOp .add 3 i_p0 (.int .i64 1)) w fun t_1 w =>
    pvv prog (Instr.sliceAt 9 (.string ⟨#[48, 49, 50, 51, 52, 53, 54, 55, 56, 57, 97, 98, 99, 100, 101, 102, 103, 104, 105, 106, 107, 108, 109, 110, 111, 112, 113, 114, 115, 116, 117, 118, 119, 120, 121, 122]⟩) (some i_p0) (some t_1) none) w fun t_2 w =>
    K t_2 w) <|
  pvv prog (binOp .mul 3 i_p0 (.int .i64 2)) w fun t_3 w =>
  pvv prog (binOp .mul 3 i_p0 (.int .i64 2)) w fun t_4 w =>
  pvv prog (binOp .add 3 t_4 (.int .i64 2)) w fun t_5 w =>
  pvv prog (Instr.sliceAt 9 (.string ⟨#[48, 48, 48, 49, 48, 50, 48, 51, 48, 52, 48, 53, 48, 54, 48, 55, 48, 56, 48, 57, 49, 48, 49, 49, 49, 50, 49, 51, 49, 52, 49, 53, 49, 54, 49, 55, 49, 56, 49, 57, 50, 48, 50, 49, 50, 50, 50, 51, 50, 52, 50, 53, 50, 54, 50, 55, 50, 56, 50, 57, 51, 48, 51, 49, 51, 50, 51, 51, 51, 52, 51, 53, 51, 54, 51, 55, 51, 56, 51, 57, 52, 48, 52, 49, 52, 50, 52, 51, 52, 52, 52, 53, 52, 54, 52, 55, 52, 56, 52, 57, 53, 48, 53, 49, 53, 50, 53, 51, 53, 52, 53, 53, 53, 54, 53, 55, 53, 56, 53, 57, 54, 48, 54, 49, 54, 50, 54, 51, 54, 52, 54, 53, 54, 54, 54, 55, 54, 56, 54, 57, 55, 48, 55, 49, 55, 50, 55, 51, 55, 52, 55, 53, 55, 54, 55, 55, 55, 56, 55, 57, 56, 48, 56, 49, 56, 50, 56, 51, 56, 52, 56, 53, 56, 54, 56, 55, 56, 56, 56, 57, 57, 48, 57, 49, 57, 50, 57, 51, 57, 52, 57, 53, 57, 54, 57, 55, 57, 56, 57, 57]⟩) (some t_3) (some t_5) none) w fun t_6 w =>
  K t_6 w
theorem B58_eq (i_p0 : Value) (w : World) (K : Value → World → Prop) : denFn prog Tryd.f58 T58 [i_p0] w K = B58 i_p0 w K := by kernel_rfl
theorem c58 {i_p0 : Value} {w : World} {K : Value → World → Prop} (h : B58 i_p0 w K) : Calls prog 58 #[i_p0] w (Ret K) :=
  denFn_calls Tryd.func58 T58_ok (Eq.mpr (B58_eq i_p0 w K) h)

-- 75 (*strings.Builder).grow
def T75 : Ann := (.seq (.draw [.op 0 .pure, .op 1 .pure, .op 2 .pure, .op 6 .pure, .op 9 .pure, .op 10 .pure, .op 11 .pure, .op 3 .load, .op 4 .pure, .op 5 .pure, .op 7 .pure, .op 12 .load, .op 13 .pure, .op 8 .eff, .op 14 .pure, .op 15 .pure]) (.seq .none .none))
theorem T75_ok : chkFn prog Tryd.f75 T75 = true := by kernel_rfl
def B75 (b_p0 n_p1 : Value) (w : World) (K : Value → World → Prop) : Prop :=
  dr w fun w =>
  pv prog (oNil b_p0) w fun t_0 w =>
  pvv prog (Instr.fieldAt 68 t_0 1) w fun t_1 w =>
  pv prog (oNil b_p0) w fun t_2 w =>
  pvv prog (Instr.fieldAt 68 t_2 1) w fun t_3 w =>
  bindS (vN (Instr.loadAt 23 t_1)) fun m_5 => ldv prog (Instr.loadAt 23 t_1) w fun t_4 w =>
  pv prog (oBi .cap #[23] 3 #[false] #[t_4]) w fun t_6 w =>
  pvv prog (binOp .mul 3 (.int .i64 2) t_6) w fun t_7 w =>
  pvv prog (binOp .add 3 t_7 n_p1) w fun t_8 w =>
  bindS (vN (Instr.loadAt 23 t_3)) fun m_10 => ldv prog (Instr.loadAt 23 t_3) w fun t_9 w =>
  pv prog (oBi .len #[23] 3 #[false] #[t_9]) w fun t_11 w =>
  ef prog (oCall (.func (.func 89) #[] #[]) #[t_8]) w fun t_12 w => stay prog none m_10 t_9 w <| stay prog none m_5 t_4 w <| 
  pvv prog (Instr.sliceAt 23 t_12 none (some t_11) none) w fun t_13 w =>
  pv prog (oNil b_p0) w fun t_14 w =>
  pvv prog (Instr.fieldAt 68 t_14 1) w fun t_15 w =>
  ldv prog (Instr.loadAt 23 t_15) w fun t_16 w =>
  ef prog (oBi .copy #[23, 23] 3 #[false, false] #[t_13, t_16]) w fun t_17 w =>
  pv prog (oNil b_p0) w fun t_18 w =>
  pvv prog (Instr.fieldAt 68 t_18 1) w fun t_19 w =>
  efu prog (Instr.storeAt 23 t_19 t_13) w fun u_20 w =>
  K (.tuple #[]) w
theorem B75_eq (b_p0 n_p1 : Value) (w : World) (K : Value → World → Prop) : denFn prog Tryd.f75 T75 [b_p0, n_p1] w K = B75 b_p0 n_p1 w K := by kernel_rfl
theorem c75 {b_p0 n_p1 : Value} {w : World} {K : Value → World → Prop} (h : B75 b_p0 n_p1 w K) : Calls prog 75 #[b_p0, n_p1] w (Ret K) :=
  denFn_calls Tryd.func75 T75_ok (Eq.mpr (B75_eq b_p0 n_p1 w K) h)

-- 18 holdfast/codec.After
def T18 : Ann := (.seq .none (.seq .none (.seq (.seq .none (.seq .none (.seq (.seq .none (.seq .none .none)) .none))) (.seq .none .none))))
theorem T18_ok : chkFn prog Tryd.f18 T18 = true := by kernel_rfl
def B18 (key_p0 : Value) (w : World) (K : Value → World → Prop) : Prop :=
  Calls prog 32 #[key_p0] w (Ret fun t_0 w =>
  pv prog (oBi .len #[23] 3 #[false] #[t_0]) w fun t_1 w =>
  pvv prog (binOp .gtr 3 t_1 (.int .i64 0)) w fun t_2 w =>
  gate (some (t_2, true)) (fun K => K t_0 w) w fun t_3 w =>
  gate (some (t_2, true)) (fun K => K t_1 w) w fun t_4 w =>
  gate (some (t_2, true)) (fun K => pvv prog (binOp .sub 3 t_4 (.int .i64 1)) w K) w fun t_5 w =>
  gate (some (t_2, true)) (fun K => pvv prog (Instr.indexAt 23 t_3 t_5) w K) w fun t_6 w =>
  gate (some (t_2, true)) (fun K => ldv prog (Instr.loadAt 5 t_6) w K) w fun t_7 w =>
  gate (some (t_2, true)) (fun K => pvv prog (binOp .lss 5 t_7 (.int .u8 255)) w K) w fun t_8 w =>
  pv prog (oPick t_2 t_8 (.bool false)) w fun t_9 w =>
  cd t_9 (
    pvv prog (binOp .sub 3 t_1 (.int .i64 1)) w fun t_10 w =>
    pvv prog (Instr.indexAt 23 t_0 t_10) w fun t_11 w =>
    ldv prog (Instr.loadAt 5 t_11) w fun t_12 w =>
    pvv prog (binOp .add 5 t_12 (.int .u8 1)) w fun t_13 w =>
    pvv prog (Instr.indexAt 23 t_0 t_10) w fun t_14 w =>
    efu prog (Instr.storeAt 5 t_14 t_13) w fun u_15 w =>
    K t_0 w) <|
  efv prog (Instr.buildSlice 23 1 #[(0, (.int .u8 255))]) w fun t_16 w =>
  ef prog (oBi .append #[23, 23] 23 #[false, false] #[t_0, t_16]) w fun t_17 w =>
  K t_17 w)
theorem B18_eq (key_p0 : Value) (w : World) (K : Value → World → Prop) : denFn prog Tryd.f18 T18 [key_p0] w K = B18 key_p0 w K := by kernel_rfl
theorem c18 {key_p0 : Value} {w : World} {K : Value → World → Prop} (h : B18 key_p0 w K) : Calls prog 18 #[key_p0] w (Ret K) :=
  denFn_calls Tryd.func18 T18_ok (Eq.mpr (B18_eq key_p0 w K) h)

-- 48 strings.trimLeftUnicode
def T48 : Ann := (.seq .none (.meet 4194273 [0] (.block (.loop 4194273 [0] (.seq (.seq .none (.seq .none .none)) (.block (.seq .none (.seq (.seq .none (.seq .none .none)) .none)))))) (.seq .none .none)))
theorem T48_ok : chkFn prog Tryd.f48 T48 = true := by kernel_rfl
def B48 (s_p0 cutset_p1 : Value) (w : World) (K : Value → World → Prop) : Prop :=
  jn (fun σ w => pop σ fun s_0 σ => fin σ <|
    K s_0 w) fun k_1 =>
  lp (fun σ w again_3 => pop σ fun s_2 σ => fin σ <|
    pv prog (oBi .len #[9] 3 #[false] #[s_2]) w fun t_4 w =>
    pvv prog (binOp .gtr 3 t_4 (.int .i64 0)) w fun t_5 w =>
    cd t_5 (
      Calls prog 56 #[s_2] w (Ret fun t_6 w =>
      pvv prog (Instr.extract t_6 0) w fun t_7 w =>
      pvv prog (Instr.extract t_6 1) w fun t_8 w =>
      Calls prog 64 #[cutset_p1, t_7] w (Ret fun t_9 w =>
      pvv prog (Op.unary .not t_9) w fun t_10 w =>
      cd t_10 (
        k_1 [s_2] w) <|
      pvv prog (Instr.sliceAt 9 s_2 (some t_8) none none) w fun t_11 w =>
      again_3 [t_11] w))) <|
    k_1 [s_2] w) [s_p0] w
theorem B48_eq (s_p0 cutset_p1 : Value) (w : World) (K : Value → World → Prop) : denFn prog Tryd.f48 T48 [s_p0, cutset_p1] w K = B48 s_p0 cutset_p1 w K := by kernel_rfl
theorem c48 {s_p0 cutset_p1 : Value} {w : World} {K : Value → World → Prop} (h : B48 s_p0 cutset_p1 w K) : Calls prog 48 #[s_p0, cutset_p1] w (Ret K) :=
  denFn_calls Tryd.func48 T48_ok (Eq.mpr (B48_eq s_p0 cutset_p1 w K) h)

-- 57 (*strings.Builder).String
def T57 : Ann := (.seq .none (.seq (.draw [.op 0 .pure, .op 1 .pure, .op 2 .pure, .op 5 .pure, .op 6 .pure, .op 7 .pure, .op 3 .load, .op 8 .load, .op 9 .pure, .op 4 .eff, .op 10 .eff, .op 11 .pure]) .none))
theorem T57_ok : chkFn prog Tryd.f57 T57 = true := by kernel_rfl
def B57 (b_p0 : Value) (w : World) (K : Value → World → Prop) : Prop :=
  dr w fun w =>
  pv prog (oNil b_p0) w fun t_0 w =>
  pvv prog (Instr.fieldAt 68 t_0 1) w fun t_1 w =>
  pv prog (oNil b_p0) w fun t_2 w =>
  pvv prog (Instr.fieldAt 68 t_2 1) w fun t_3 w =>
  bindS (vN (Instr.loadAt 23 t_1)) fun m_5 => ldv prog (Instr.loadAt 23 t_1) w fun t_4 w =>
  bindS (vN (Instr.loadAt 23 t_3)) fun m_7 => ldv prog (Instr.loadAt 23 t_3) w fun t_6 w =>
  pv prog (oBi .len #[23] 3 #[false] #[t_6]) w fun t_8 w =>
  ef prog (oBi .unsafeSliceData #[23] 92 #[false] #[t_4]) w fun t_9 w => stay prog none m_7 t_6 w <| 
  ef prog (oBi .unsafeString #[92, 3] 9 #[false, false] #[t_9, t_8]) w fun t_10 w => stay prog none m_7 t_6 w <| stay prog none m_5 t_4 w <| 
  K t_10 w
theorem B57_eq (b_p0 : Value) (w : World) (K : Value → World → Prop) : denFn prog Tryd.f57 T57 [b_p0] w K = B57 b_p0 w K := by kernel_rfl
theorem c57 {b_p0 : Value} {w : World} {K : Value → World → Prop} (h : B57 b_p0 w K) : Calls prog 57 #[b_p0] w (Ret K) :=
  denFn_calls Tryd.func57 T57_ok (Eq.mpr (B57_eq b_p0 w K) h)

-- 56 unicode/utf8.DecodeRuneInString
def T56 : Ann := (.seq .none (.seq (.seq .none (.seq (.seq .none .none) .none)) .none))
theorem T56_ok : chkFn prog Tryd.f56 T56 = true := by kernel_rfl
def B56 (s_p0 : Value) (w : World) (K : Value → World → Prop) : Prop :=
  pvv prog (oEq .neq 9 (.tmp 4) (.const (.string ⟨#[]⟩)) s_p0 (.string ⟨#[]⟩)) w fun t_0 w =>
  gate (some (t_0, true)) (fun K => K s_p0 w) w fun t_1 w =>
  gate (some (t_0, true)) (fun K => pvv prog (Instr.index 9 t_1 (.int .i64 0)) w K) w fun t_2 w =>
  gate (some (t_0, true)) (fun K => pvv prog (binOp .lss 5 t_2 (.int .u8 128)) w K) w fun t_3 w =>
  pv prog (oPick t_0 t_3 (.bool false)) w fun t_4 w =>
  cd t_4 (
    pvv prog (Instr.index 9 s_p0 (.int .i64 0)) w fun t_5 w =>
    pvv prog (convert 5 21 t_5) w fun t_6 w =>
    K (.tuple #[t_6, (.int .i64 1)]) w) <|
  Calls prog 77 #[s_p0] w (Ret fun t_7 w =>
  pvv prog (Instr.extract t_7 0) w fun t_8 w =>
  pvv prog (Instr.extract t_7 1) w fun t_9 w =>
  K (.tuple #[t_8, t_9]) w)
theorem B56_eq (s_p0 : Value) (w : World) (K : Value → World → Prop) : denFn prog Tryd.f56 T56 [s_p0] w K = B56 s_p0 w K := by kernel_rfl
theorem c56 {s_p0 : Value} {w : World} {K : Value → World → Prop} (h : B56 s_p0 w K) : Calls prog 56 #[s_p0] w (Ret K) :=
  denFn_calls Tryd.func56 T56_ok (Eq.mpr (B56_eq s_p0 w K) h)

-- 36 strconv.ParseUint
def T36 : Ann := (.seq .none (.seq .none (.seq (.seq .none (.seq (.seq .none .none) .none)) (.seq .none .none))))
theorem T36_ok : chkFn prog Tryd.f36 T36 = true := by kernel_rfl
def B36 (s_p0 base_p1 bitSize_p2 : Value) (w : World) (K : Value → World → Prop) : Prop :=
  Calls prog 50 #[s_p0, base_p1, bitSize_p2] w (Ret fun t_0 w =>
  pvv prog (Instr.extract t_0 0) w fun t_1 w =>
  pvv prog (Instr.extract t_0 1) w fun t_2 w =>
  pvv prog (oEq .neq 51 (.tmp 17) (.const .nilIface) t_2 .nilIface) w fun t_3 w =>
  cd t_3 (
    Calls prog 51 #[(.string ⟨#[80, 97, 114, 115, 101, 85, 105, 110, 116]⟩), s_p0, base_p1, bitSize_p2, t_2] w (Ret fun t_4 w =>
    K (.tuple #[t_1, t_4]) w)) <|
  K (.tuple #[t_1, .nilIface]) w)
theorem B36_eq (s_p0 base_p1 bitSize_p2 : Value) (w : World) (K : Value → World → Prop) : denFn prog Tryd.f36 T36 [s_p0, base_p1, bitSize_p2] w K = B36 s_p0 base_p1 bitSize_p2 w K := by kernel_rfl
theorem c36 {s_p0 base_p1 bitSize_p2 : Value} {w : World} {K : Value → World → Prop} (h : B36 s_p0 base_p1 bitSize_p2 w K) : Calls prog 36 #[s_p0, base_p1, bitSize_p2] w (Ret K) :=
  denFn_calls Tryd.func36 T36_ok (Eq.mpr (B36_eq s_p0 base_p1 bitSize_p2 w K) h)

-- 68 strconv.syntaxError
def T68 : Ann := (.seq .none (.seq (.draw [.op 0 .pure, .op 1 .pure, .op 3 .load, .op 2 .eff, .op 4 .pure, .op 5 .eff, .op 6 .pure]) .none))
theorem T68_ok : chkFn prog Tryd.f68 T68 = true := by kernel_rfl
def B68 (fn_p0 str_p1 : Value) (w : World) (K : Value → World → Prop) : Prop :=
  dr w fun w =>
  bindS (vN (Instr.loadAt 51 (.pointer (some ⟨2, 0, none⟩)))) fun m_1 => ldv prog (Instr.loadAt 51 (.pointer (some ⟨2, 0, none⟩))) w fun t_0 w =>
  Calls prog 85 #[str_p1] w (Ret fun t_2 w => stay prog none m_1 t_0 w <| 
  pvv prog (Instr.build 102 #[(0, fn_p0), (1, t_2), (2, t_0)]) w fun t_3 w =>
  efv prog (Instr.box 102 t_3) w fun t_4 w => stay prog none m_1 t_0 w <| 
  K t_4 w)
theorem B68_eq (fn_p0 str_p1 : Value) (w : World) (K : Value → World → Prop) : denFn prog Tryd.f68 T68 [fn_p0, str_p1] w K = B68 fn_p0 str_p1 w K := by kernel_rfl
theorem c68 {fn_p0 str_p1 : Value} {w : World} {K : Value → World → Prop} (h : B68 fn_p0 str_p1 w K) : Calls prog 68 #[fn_p0, str_p1] w (Ret K) :=
  denFn_calls Tryd.func68 T68_ok (Eq.mpr (B68_eq fn_p0 str_p1 w K) h)

-- 59 internal/strconv.numDigits
def T59 : Ann := (.seq .none (.seq .none (.seq .none .none)))
theorem T59_ok : chkFn prog Tryd.f59 T59 = true := by kernel_rfl
def B59 (d_p0 : Value) (w : World) (K : Value → World → Prop) : Prop :=
  Calls prog 79 #[d_p0] w (Ret fun t_0 w =>
  Calls prog 78 #[t_0] w (Ret fun t_1 w =>
  pvv prog (Instr.indexAt 95 (.pointer (some ⟨0, 0, none⟩)) t_1) w fun t_2 w =>
  ldv prog (Instr.loadAt 49 t_2) w fun t_3 w =>
  pvv prog (binOp .geq 49 d_p0 t_3) w fun t_4 w =>
  Calls prog 80 #[t_4] w (Ret fun t_5 w =>
  pvv prog (binOp .add 3 t_1 t_5) w fun t_6 w =>
  K t_6 w)))
theorem B59_eq (d_p0 : Value) (w : World) (K : Value → World → Prop) : denFn prog Tryd.f59 T59 [d_p0] w K = B59 d_p0 w K := by kernel_rfl
theorem c59 {d_p0 : Value} {w : World} {K : Value → World → Prop} (h : B59 d_p0 w K) : Calls prog 59 #[d_p0] w (Ret K) :=
  denFn_calls Tryd.func59 T59_ok (Eq.mpr (B59_eq d_p0 w K) h)

-- 82 math/bits.TrailingZeros
def T82 : Ann := (.seq .none (.seq (.seq (.seq .none .none) .none) (.seq .none .none)))
theorem T82_ok : chkFn prog Tryd.f82 T82 = true := by kernel_rfl
def B82 (x_p0 : Value) (w : World) (K : Value → World → Prop) : Prop :=
  cd (.bool false) (
    pvv prog (convert 85 96 x_p0) w fun t_0 w =>
    Calls prog 94 #[t_0] w (Ret fun t_1 w =>
    K t_1 w)) <|
  Calls prog 95 #[x_p0] w (Ret fun t_2 w =>
  K t_2 w)
theorem B82_eq (x_p0 : Value) (w : World) (K : Value → World → Prop) : denFn prog Tryd.f82 T82 [x_p0] w K = B82 x_p0 w K := by kernel_rfl
theorem c82 {x_p0 : Value} {w : World} {K : Value → World → Prop} (h : B82 x_p0 w K) : Calls prog 82 #[x_p0] w (Ret K) :=
  denFn_calls Tryd.func82 T82_ok (Eq.mpr (B82_eq x_p0 w K) h)

-- 86 errors.New
def T86 : Ann := (.seq .none (.seq .none .none))
theorem T86_ok : chkFn prog Tryd.f86 T86 = true := by kernel_rfl
def B86 (text_p0 : Value) (w : World) (K : Value → World → Prop) : Prop :=
  pvv prog (Instr.build 115 #[(0, text_p0)]) w fun t_0 w =>
  efv prog (Instr.box 115 t_0) w fun t_1 w =>
  pvv prog (Instr.makeInterface 113 t_1) w fun t_2 w =>
  K t_2 w
theorem B86_eq (text_p0 : Value) (w : World) (K : Value → World → Prop) : denFn prog Tryd.f86 T86 [text_p0] w K = B86 text_p0 w K := by kernel_rfl
theorem c86 {text_p0 : Value} {w : World} {K : Value → World → Prop} (h : B86 text_p0 w K) : Calls prog 86 #[text_p0] w (Ret K) :=
  denFn_calls Tryd.func86 T86_ok (Eq.mpr (B86_eq text_p0 w K) h)

-- 34 strings.HasPrefix
def T34 : Ann := (.seq .none (.seq .none .none))
theorem T34_ok : chkFn prog Tryd.f34 T34 = true := by kernel_rfl
def B34 (s_p0 prefix_p1 : Value) (w : World) (K : Value → World → Prop) : Prop :=
  Calls prog 42 #[s_p0, prefix_p1] w (Ret fun t_0 w =>
  K t_0 w)
theorem B34_eq (s_p0 prefix_p1 : Value) (w : World) (K : Value → World → Prop) : denFn prog Tryd.f34 T34 [s_p0, prefix_p1] w K = B34 s_p0 prefix_p1 w K := by kernel_rfl
theorem c34 {s_p0 prefix_p1 : Value} {w : World} {K : Value → World → Prop} (h : B34 s_p0 prefix_p1 w K) : Calls prog 34 #[s_p0, prefix_p1] w (Ret K) :=
  denFn_calls Tryd.func34 T34_ok (Eq.mpr (B34_eq s_p0 prefix_p1 w K) h)

-- 92 internal/bytealg.Cutover
def T92 : Ann := (.seq .none (.seq .none .none))
theorem T92_ok : chkFn prog Tryd.f92 T92 = true := by kernel_rfl
def B92 (n_p0 : Value) (w : World) (K : Value → World → Prop) : Prop :=
  pvv prog (binOp .add 3 n_p0 (.int .i64 16)) w fun t_0 w =>
  pvv prog (binOp .quo 3 t_0 (.int .i64 8)) w fun t_1 w =>
  K t_1 w
theorem B92_eq (n_p0 : Value) (w : World) (K : Value → World → Prop) : denFn prog Tryd.f92 T92 [n_p0] w K = B92 n_p0 w K := by kernel_rfl
theorem c92 {n_p0 : Value} {w : World} {K : Value → World → Prop} (h : B92 n_p0 w K) : Calls prog 92 #[n_p0] w (Ret K) :=
  denFn_calls Tryd.func92 T92_ok (Eq.mpr (B92_eq n_p0 w K) h)

-- 96 strings.IndexByte
def T96 : Ann := (.seq .none (.seq .none .none))
theorem T96_ok : chkFn prog Tryd.f96 T96 = true := by kernel_rfl
def B96 (s_p0 c_p1 : Value) (w : World) (K : Value → World → Prop) : Prop :=
  Calls prog 90 #[s_p0, c_p1] w (Ret fun t_0 w =>
  K t_0 w)
theorem B96_eq (s_p0 c_p1 : Value) (w : World) (K : Value → World → Prop) : denFn prog Tryd.f96 T96 [s_p0, c_p1] w K = B96 s_p0 c_p1 w K := by kernel_rfl
theorem c96 {s_p0 c_p1 : Value} {w : World} {K : Value → World → Prop} (h : B96 s_p0 c_p1 w K) : Calls prog 96 #[s_p0, c_p1] w (Ret K) :=
  denFn_calls Tryd.func96 T96_ok (Eq.mpr (B96_eq s_p0 c_p1 w K) h)

-- 87 strconv.Itoa
def T87 : Ann := (.seq .none (.seq .none .none))
theorem T87_ok : chkFn prog Tryd.f87 T87 = true := by kernel_rfl
def B87 (i_p0 : Value) (w : World) (K : Value → World → Prop) : Prop :=
  Calls prog 98 #[i_p0] w (Ret fun t_0 w =>
  K t_0 w)
theorem B87_eq (i_p0 : Value) (w : World) (K : Value → World → Prop) : denFn prog Tryd.f87 T87 [i_p0] w K = B87 i_p0 w K := by kernel_rfl
theorem c87 {i_p0 : Value} {w : World} {K : Value → World → Prop} (h : B87 i_p0 w K) : Calls prog 87 #[i_p0] w (Ret K) :=
  denFn_calls Tryd.func87 T87_ok (Eq.mpr (B87_eq i_p0 w K) h)


end Go.Proofs.YtnkmgkilfkgfhaaDoor
