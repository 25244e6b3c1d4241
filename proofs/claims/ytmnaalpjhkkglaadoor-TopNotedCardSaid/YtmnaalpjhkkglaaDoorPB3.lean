import Derived.Test.YtmnaalpjhkkglaaDoorPI
set_option linter.all false
set_option maxRecDepth 100000
namespace Go.Proofs.YtmnaalpjhkkglaaDoor
open Go Hold
-- 64 slices.pdqsortCmpFunc[holdfast/api.Consent]
def T64 : Ann := (.seq .none (.seq .none (.block (.loop 356811923176489970264571492362373784095685646 [1, 2, 3, 10, 11] (.block (.seq .none (.seq (.seq .none (.seq (.seq .none .none) .none)) (.seq (.seq .none (.seq (.seq .none .none) .none)) (.meet 140462610448392 [3] (.seq .none (.seq (.seq .none .none) .none)) (.seq .none (.meet 295111876382333886464 [13, 14] (.seq .none (.seq (.seq .none (.seq .none .none)) .none)) (.meet 2417556491324078996586496 [] (.seq .none (.seq (.seq .none (.seq .none .none)) .none)) (.seq (.seq (.draw [.op 0 .pure, .op 1 .pure, .op 2 .pure, .op 3 .pure, .op 4 .pure, .op 5 .pure, .op 6 .pure, .op 7 .pure, .op 9 .pure, .op 10 .pure, .op 11 .pure, .op 8 .load, .op 12 .load, .op 13 .eff, .op 14 .pure, .op 15 .pure, .op 16 .pure]) (.seq (.seq .none (.seq .none .none)) .none)) (.seq .none (.seq .none (.seq .none (.seq .none (.seq .none (.seq (.seq .none (.seq .none .none)) (.seq .none (.seq .none .none)))))))))))))))))))))
theorem T64_ok : chkFn prog Tryd.f64 T64 = true := by kernel_rfl
def B64 (data_p0 a_p1 b_p2 limit_p3 cmp_p4 : Value) (w : World) (K : Value → World → Prop) : Prop :=
  lp (fun σ w again_5 => pop σ fun a_0 σ => pop σ fun b_1 σ => pop σ fun limit_2 σ => pop σ fun wasBalanced_3 σ => pop σ fun wasPartitioned_4 σ => fin σ <|
    pvv prog (binOp .sub 3 b_1 a_0) w fun t_6 w =>
    pvv prog (binOp .leq 3 t_6 (.int .i64 12)) w fun t_7 w =>
    cd t_7 (
      Calls prog 78 #[data_p0, a_0, b_1, cmp_p4] w (Ret fun t_8 w =>
      K (.tuple #[]) w)) <|
    pvv prog (oEq .eql 3 (.tmp 31) (.const (.int .i64 0)) limit_2 (.int .i64 0)) w fun t_9 w =>
    cd t_9 (
      Calls prog 79 #[data_p0, a_0, b_1, cmp_p4] w (Ret fun t_10 w =>
      K (.tuple #[]) w)) <|
    jn (fun σ w => pop σ fun limit_11 σ => fin σ <|
      Calls prog 81 #[data_p0, a_0, b_1, cmp_p4] w (Ret fun t_12 w =>
      pvv prog (Instr.extract t_12 0) w fun t_13 w =>
      pvv prog (Instr.extract t_12 1) w fun t_14 w =>
      jn (fun σ w => pop σ fun pivot_15 σ => pop σ fun hint_16 σ => fin σ <|
        jn (fun σ w => fin σ <|
          dr w fun w =>
          pvv prog (binOp .gtr 3 a_0 (.int .i64 0)) w fun t_17 w =>
          gate (some (t_17, true)) (fun K => K cmp_p4 w) w fun t_18 w =>
          gate (some (t_17, true)) (fun K => K data_p0 w) w fun t_19 w =>
          gate (some (t_17, true)) (fun K => K a_0 w) w fun t_20 w =>
          gate (some (t_17, true)) (fun K => pvv prog (binOp .sub 3 t_20 (.int .i64 1)) w K) w fun t_21 w =>
          gate (some (t_17, true)) (fun K => pvv prog (Instr.indexAt 106 t_19 t_21) w K) w fun t_22 w =>
          gate (some (t_17, true)) (fun K => K data_p0 w) w fun t_23 w =>
          gate (some (t_17, true)) (fun K => K pivot_15 w) w fun t_24 w =>
          gate (some (t_17, true)) (fun K => pvv prog (Instr.indexAt 106 t_23 t_24) w K) w fun t_25 w =>
          bindS (vN (Instr.loadAt 53 t_22)) fun m_27 => gate (some (t_17, true)) (fun K => ldv prog (Instr.loadAt 53 t_22) w K) w fun t_26 w =>
          bindS (vN (Instr.loadAt 53 t_25)) fun m_29 => gate (some (t_17, true)) (fun K => ldv prog (Instr.loadAt 53 t_25) w K) w fun t_28 w =>
          gate (some (t_17, true)) (fun K => ef prog (oCall t_18 #[t_26, t_28]) w fun s_48 w => K s_48 w) w fun t_30 w =>
          gate (some (t_17, true)) (fun K => pvv prog (binOp .lss 3 t_30 (.int .i64 0)) w K) w fun t_31 w =>
          gate (some (t_17, true)) (fun K => pvv prog (Op.unary .not t_31) w K) w fun t_32 w =>
          pv prog (oPick t_17 t_32 (.bool false)) w fun t_33 w =>
          cd t_33 (
            Calls prog 84 #[data_p0, a_0, b_1, pivot_15, cmp_p4] w (Ret fun t_34 w =>
            again_5 [t_34, b_1, limit_11, wasBalanced_3, wasPartitioned_4] w)) <|
          Calls prog 85 #[data_p0, a_0, b_1, pivot_15, cmp_p4] w (Ret fun t_35 w =>
          pvv prog (Instr.extract t_35 0) w fun t_36 w =>
          pvv prog (Instr.extract t_35 1) w fun t_37 w =>
          pvv prog (binOp .sub 3 t_36 a_0) w fun t_38 w =>
          pvv prog (binOp .sub 3 b_1 t_36) w fun t_39 w =>
          pvv prog (binOp .quo 3 t_6 (.int .i64 8)) w fun t_40 w =>
          pvv prog (binOp .lss 3 t_38 t_39) w fun t_41 w =>
          cd t_41 (
            pvv prog (binOp .geq 3 t_38 t_40) w fun t_42 w =>
            Calls prog 64 #[data_p0, a_0, t_36, limit_11, cmp_p4] w (Ret fun t_43 w =>
            pvv prog (binOp .add 3 t_36 (.int .i64 1)) w fun t_44 w =>
            again_5 [t_44, b_1, limit_11, t_42, t_37] w)) <|
          pvv prog (binOp .geq 3 t_39 t_40) w fun t_45 w =>
          pvv prog (binOp .add 3 t_36 (.int .i64 1)) w fun t_46 w =>
          Calls prog 64 #[data_p0, t_46, b_1, limit_11, cmp_p4] w (Ret fun t_47 w =>
          again_5 [a_0, t_36, limit_11, t_45, t_37] w))) fun k_49 =>
        gate (some (wasBalanced_3, true)) (fun K => K wasPartitioned_4 w) w fun t_50 w =>
        pv prog (oPick wasBalanced_3 t_50 (.bool false)) w fun t_51 w =>
        gate (some (t_51, true)) (fun K => K hint_16 w) w fun t_52 w =>
        gate (some (t_51, true)) (fun K => pvv prog (oEq .eql 156 (.tmp 73) (.const (.int .i64 1)) t_52 (.int .i64 1)) w K) w fun t_53 w =>
        pv prog (oPick t_51 t_53 (.bool false)) w fun t_54 w =>
        cd t_54 (
          Calls prog 83 #[data_p0, a_0, b_1, cmp_p4] w (Ret fun t_55 w =>
          cd t_55 (
            K (.tuple #[]) w) <|
          k_49 [] w)) <|
        k_49 [] w) fun k_56 =>
      pvv prog (oEq .eql 156 (.tmp 55) (.const (.int .i64 2)) t_14 (.int .i64 2)) w fun t_57 w =>
      cd t_57 (
        Calls prog 82 #[data_p0, a_0, b_1, cmp_p4] w (Ret fun t_58 w =>
        pvv prog (binOp .sub 3 b_1 (.int .i64 1)) w fun t_59 w =>
        pvv prog (binOp .sub 3 t_13 a_0) w fun t_60 w =>
        pvv prog (binOp .sub 3 t_59 t_60) w fun t_61 w =>
        k_56 [t_61, (.int .i64 1)] w)) <|
      k_56 [t_13, t_14] w)) fun k_62 =>
    pvv prog (Op.unary .not wasBalanced_3) w fun t_63 w =>
    cd t_63 (
      Calls prog 80 #[data_p0, a_0, b_1, cmp_p4] w (Ret fun t_64 w =>
      pvv prog (binOp .sub 3 limit_2 (.int .i64 1)) w fun t_65 w =>
      k_62 [t_65] w)) <|
    k_62 [limit_2] w) [a_p1, b_p2, limit_p3, (.bool true), (.bool true)] w
theorem B64_eq (data_p0 a_p1 b_p2 limit_p3 cmp_p4 : Value) (w : World) (K : Value → World → Prop) : denFn prog Tryd.f64 T64 [data_p0, a_p1, b_p2, limit_p3, cmp_p4] w K = B64 data_p0 a_p1 b_p2 limit_p3 cmp_p4 w K := by kernel_rfl
theorem c64 {data_p0 a_p1 b_p2 limit_p3 cmp_p4 : Value} {w : World} {K : Value → World → Prop} (h : B64 data_p0 a_p1 b_p2 limit_p3 cmp_p4 w K) : Calls prog 64 #[data_p0, a_p1, b_p2, limit_p3, cmp_p4] w (Ret K) :=
  denFn_calls Tryd.func64 T64_ok (Eq.mpr (B64_eq data_p0 a_p1 b_p2 limit_p3 cmp_p4 w K) h)

-- 117 internal/strconv.formatBits
def T117 : Ann := (.seq .none (.meet 1073217536 [] (.seq .none (.seq .none .none)) (.seq .none (.seq .none (.meet 7516192770 [1] (.seq .none (.seq .none .none)) (.meet 618970019642690128860143618 [13] (.seq .none (.seq (.seq .none (.seq .none (.seq .none (.seq (.block (.loop 288212783965675522 [1, 13] (.seq (.seq .none (.seq .none .none)) (.block (.seq .none (.seq .none .none)))))) (.seq .none .none))))) (.seq .none (.seq (.block (.loop 9671332769940738559713282 [1, 13] (.seq (.seq .none (.seq .none .none)) (.block (.seq .none (.seq .none (.seq .none .none))))))) (.seq .none .none))))) (.meet 19188070608923394260936433664 [13] (.seq .none (.seq (.seq .none .none) .none)) (.seq (.seq .none (.seq (.seq .none .none) .none)) (.seq .none .none)))))))))
theorem T117_ok : chkFn prog Tryd.f117 T117 = true := by kernel_rfl
def B117 (dst_p0 u_p1 base_p2 neg_p3 append__p4 : Value) (w : World) (K : Value → World → Prop) : Prop :=
  jn (fun σ w => fin σ <|
    efv prog (Instr.alloc 195 true (.tuple #[])) w fun a_0 w =>
    jn (fun σ w => pop σ fun u_1 σ => fin σ <|
      jn (fun σ w => pop σ fun i_2 σ => fin σ <|
        jn (fun σ w => pop σ fun i_3 σ => fin σ <|
          cd append__p4 (
            pvv prog (Instr.sliceAt 195 a_0 (some i_3) none none) w fun t_4 w =>
            ef prog (oBi .append #[25, 25] 25 #[false, false] #[dst_p0, t_4]) w fun t_5 w =>
            K (.tuple #[t_5, (.string ⟨#[]⟩)]) w) <|
          pvv prog (Instr.sliceAt 195 a_0 (some i_3) none none) w fun t_6 w =>
          efv prog (convert 25 9 t_6) w fun t_7 w =>
          K (.tuple #[(.slice none 0 0), t_7]) w) fun k_8 =>
        cd neg_p3 (
          pvv prog (binOp .sub 3 i_2 (.int .i64 1)) w fun t_9 w =>
          pvv prog (Instr.indexAt 195 a_0 t_9) w fun t_10 w =>
          efu prog (Instr.storeAt 5 t_10 (.int .u8 45)) w fun u_11 w =>
          k_8 [t_9] w) <|
        k_8 [i_2] w) fun k_12 =>
      Calls prog 122 #[base_p2] w (Ret fun t_13 w =>
      cd t_13 (
        pvv prog (convert 3 75 base_p2) w fun t_14 w =>
        Calls prog 123 #[t_14] w (Ret fun t_15 w =>
        pvv prog (convert 3 75 t_15) w fun t_16 w =>
        pvv prog (convert 3 35 base_p2) w fun t_17 w =>
        pvv prog (convert 3 75 base_p2) w fun t_18 w =>
        pvv prog (binOp .sub 75 t_18 (.int .u64 1)) w fun t_19 w =>
        lp (fun σ w again_22 => pop σ fun u_20 σ => pop σ fun i_21 σ => fin σ <|
          pvv prog (binOp .geq 35 u_20 t_17) w fun t_23 w =>
          cd t_23 (
            pvv prog (binOp .sub 3 i_21 (.int .i64 1)) w fun t_24 w =>
            pvv prog (binOp .and 75 u_20 t_19) w fun t_25 w =>
            pvv prog (Instr.index 9 (.string ⟨#[48, 49, 50, 51, 52, 53, 54, 55, 56, 57, 97, 98, 99, 100, 101, 102, 103, 104, 105, 106, 107, 108, 109, 110, 111, 112, 113, 114, 115, 116, 117, 118, 119, 120, 121, 122]⟩) t_25) w fun t_26 w =>
            pvv prog (Instr.indexAt 195 a_0 t_24) w fun t_27 w =>
            efu prog (Instr.storeAt 5 t_27 t_26) w fun u_28 w =>
            pvv prog (binOp .shr 35 u_20 t_16) w fun t_29 w =>
            again_22 [t_29, t_24] w) <|
          pvv prog (binOp .sub 3 i_21 (.int .i64 1)) w fun t_30 w =>
          pvv prog (Instr.index 9 (.string ⟨#[48, 49, 50, 51, 52, 53, 54, 55, 56, 57, 97, 98, 99, 100, 101, 102, 103, 104, 105, 106, 107, 108, 109, 110, 111, 112, 113, 114, 115, 116, 117, 118, 119, 120, 121, 122]⟩) u_20) w fun t_31 w =>
          pvv prog (Instr.indexAt 195 a_0 t_30) w fun t_32 w =>
          efu prog (Instr.storeAt 5 t_32 t_31) w fun u_33 w =>
          k_12 [t_30] w) [u_1, (.int .i64 65)] w)) <|
      pvv prog (convert 3 35 base_p2) w fun t_34 w =>
      lp (fun σ w again_37 => pop σ fun u_35 σ => pop σ fun i_36 σ => fin σ <|
        pvv prog (binOp .geq 35 u_35 t_34) w fun t_38 w =>
        cd t_38 (
          pvv prog (binOp .sub 3 i_36 (.int .i64 1)) w fun t_39 w =>
          pvv prog (binOp .quo 35 u_35 t_34) w fun t_40 w =>
          pvv prog (binOp .mul 35 t_40 t_34) w fun t_41 w =>
          pvv prog (binOp .sub 35 u_35 t_41) w fun t_42 w =>
          pvv prog (Instr.index 9 (.string ⟨#[48, 49, 50, 51, 52, 53, 54, 55, 56, 57, 97, 98, 99, 100, 101, 102, 103, 104, 105, 106, 107, 108, 109, 110, 111, 112, 113, 114, 115, 116, 117, 118, 119, 120, 121, 122]⟩) t_42) w fun t_43 w =>
          pvv prog (Instr.indexAt 195 a_0 t_39) w fun t_44 w =>
          efu prog (Instr.storeAt 5 t_44 t_43) w fun u_45 w =>
          again_37 [t_40, t_39] w) <|
        pvv prog (binOp .sub 3 i_36 (.int .i64 1)) w fun t_46 w =>
        pvv prog (Instr.index 9 (.string ⟨#[48, 49, 50, 51, 52, 53, 54, 55, 56, 57, 97, 98, 99, 100, 101, 102, 103, 104, 105, 106, 107, 108, 109, 110, 111, 112, 113, 114, 115, 116, 117, 118, 119, 120, 121, 122]⟩) u_35) w fun t_47 w =>
        pvv prog (Instr.indexAt 195 a_0 t_46) w fun t_48 w =>
        efu prog (Instr.storeAt 5 t_48 t_47) w fun u_49 w =>
        k_12 [t_46] w) [u_1, (.int .i64 65)] w)) fun k_50 =>
    cd neg_p3 (
      pvv prog (Op.unary .neg u_p1) w fun t_51 w =>
      k_50 [t_51] w) <|
    k_50 [u_p1] w) fun k_52 =>
  pvv prog (binOp .lss 3 base_p2 (.int .i64 2)) w fun t_53 w =>
  gate (some (t_53, false)) (fun K => K base_p2 w) w fun t_54 w =>
  gate (some (t_53, false)) (fun K => pvv prog (oEq .eql 3 (.tmp 22) (.const (.int .i64 10)) t_54 (.int .i64 10)) w K) w fun t_55 w =>
  pv prog (oPick t_53 (.bool true) t_55) w fun t_56 w =>
  gate (some (t_56, false)) (fun K => K base_p2 w) w fun t_57 w =>
  gate (some (t_56, false)) (fun K => pvv prog (binOp .gtr 3 t_57 (.int .i64 36)) w K) w fun t_58 w =>
  pv prog (oPick t_56 (.bool true) t_58) w fun t_59 w =>
  cd t_59 (
    pvv prog (Instr.makeInterface 9 (.string ⟨#[115, 116, 114, 99, 111, 110, 118, 58, 32, 105, 108, 108, 101, 103, 97, 108, 32, 65, 112, 112, 101, 110, 100, 73, 110, 116, 47, 70, 111, 114, 109, 97, 116, 73, 110, 116, 32, 98, 97, 115, 101]⟩)) w fun t_60 w =>
    efv prog (Instr.panic t_60) w fun u_61 w =>
    k_52 [] w) <|
  k_52 [] w
theorem B117_eq (dst_p0 u_p1 base_p2 neg_p3 append__p4 : Value) (w : World) (K : Value → World → Prop) : denFn prog Tryd.f117 T117 [dst_p0, u_p1, base_p2, neg_p3, append__p4] w K = B117 dst_p0 u_p1 base_p2 neg_p3 append__p4 w K := by kernel_rfl
theorem c117 {dst_p0 u_p1 base_p2 neg_p3 append__p4 : Value} {w : World} {K : Value → World → Prop} (h : B117 dst_p0 u_p1 base_p2 neg_p3 append__p4 w K) : Calls prog 117 #[dst_p0, u_p1, base_p2, neg_p3, append__p4] w (Ret K) :=
  denFn_calls Tryd.func117 T117_ok (Eq.mpr (B117_eq dst_p0 u_p1 base_p2 neg_p3 append__p4 w K) h)

-- 94 unicode/utf8.decodeRuneInStringSlow
def T94 : Ann := (.seq .none (.seq .none (.seq (.seq .none (.seq (.seq .none .none) .none)) (.seq .none (.seq .none (.seq (.seq .none (.seq (.seq .none (.seq .none .none)) .none)) (.seq .none (.seq .none (.seq (.seq .none (.seq (.seq .none .none) .none)) (.seq .none (.seq (.seq .none (.seq (.seq .none .none) .none)) (.seq (.seq .none (.seq (.seq .none .none) .none)) (.seq .none (.seq (.seq .none (.seq (.seq .none .none) .none)) (.seq (.seq .none (.seq (.seq .none .none) .none)) (.seq .none (.seq (.seq .none (.seq (.seq .none .none) .none)) (.seq .none .none))))))))))))))))))
theorem T94_ok : chkFn prog Tryd.f94 T94 = true := by kernel_rfl
def B94 (s_p0 : Value) (w : World) (K : Value → World → Prop) : Prop :=
  pv prog (oBi .len #[9] 3 #[false] #[s_p0]) w fun t_0 w =>
  pvv prog (binOp .lss 3 t_0 (.int .i64 1)) w fun t_1 w =>
  cd t_1 (
    K (.tuple #[(.int .i32 65533), (.int .i64 0)]) w) <|
  pvv prog (Instr.index 9 s_p0 (.int .i64 0)) w fun t_2 w =>
  pvv prog (Instr.indexAt 178 (.pointer (some ⟨1, 0, none⟩)) t_2) w fun t_3 w =>
  ldv prog (Instr.loadAt 5 t_3) w fun t_4 w =>
  pvv prog (binOp .geq 5 t_4 (.int .u8 240)) w fun t_5 w =>
  cd t_5 (
    pvv prog (convert 5 21 t_4) w fun t_6 w =>
    pvv prog (binOp .shl 21 t_6 (.int .u64 31)) w fun t_7 w =>
    pvv prog (binOp .shr 21 t_7 (.int .u64 31)) w fun t_8 w =>
    pvv prog (Instr.index 9 s_p0 (.int .i64 0)) w fun t_9 w =>
    pvv prog (convert 5 21 t_9) w fun t_10 w =>
    pvv prog (binOp .andNot 21 t_10 t_8) w fun t_11 w =>
    pvv prog (binOp .and 21 (.int .i32 65533) t_8) w fun t_12 w =>
    pvv prog (binOp .or 21 t_11 t_12) w fun t_13 w =>
    K (.tuple #[t_13, (.int .i64 1)]) w) <|
  pvv prog (binOp .and 5 t_4 (.int .u8 7)) w fun t_14 w =>
  pvv prog (convert 5 3 t_14) w fun t_15 w =>
  pvv prog (binOp .shr 5 t_4 (.int .u64 4)) w fun t_16 w =>
  pvv prog (Instr.indexAt 181 (.pointer (some ⟨2, 0, none⟩)) t_16) w fun t_17 w =>
  ldv prog (Instr.loadAt 180 t_17) w fun t_18 w =>
  efv prog (Instr.alloc 180 true (.tuple #[])) w fun accept_19 w =>
  efu prog (Instr.storeAt 180 accept_19 t_18) w fun u_20 w =>
  pvv prog (binOp .lss 3 t_0 t_15) w fun t_21 w =>
  cd t_21 (
    K (.tuple #[(.int .i32 65533), (.int .i64 1)]) w) <|
  pvv prog (Instr.index 9 s_p0 (.int .i64 1)) w fun t_22 w =>
  pvv prog (Instr.fieldAt 180 accept_19 0) w fun t_23 w =>
  ldv prog (Instr.loadAt 5 t_23) w fun t_24 w =>
  pvv prog (binOp .lss 5 t_22 t_24) w fun t_25 w =>
  gate (some (t_25, false)) (fun K => pvv prog (Instr.fieldAt 180 accept_19 1) w K) w fun t_26 w =>
  gate (some (t_25, false)) (fun K => ldv prog (Instr.loadAt 5 t_26) w K) w fun t_27 w =>
  gate (some (t_25, false)) (fun K => K t_22 w) w fun t_28 w =>
  gate (some (t_25, false)) (fun K => pvv prog (binOp .lss 5 t_27 t_28) w K) w fun t_29 w =>
  pv prog (oPick t_25 (.bool true) t_29) w fun t_30 w =>
  cd t_30 (
    K (.tuple #[(.int .i32 65533), (.int .i64 1)]) w) <|
  pvv prog (binOp .leq 3 t_15 (.int .i64 2)) w fun t_31 w =>
  cd t_31 (
    pvv prog (binOp .and 5 t_2 (.int .u8 31)) w fun t_32 w =>
    pvv prog (convert 5 21 t_32) w fun t_33 w =>
    pvv prog (binOp .shl 21 t_33 (.int .u64 6)) w fun t_34 w =>
    pvv prog (binOp .and 5 t_22 (.int .u8 63)) w fun t_35 w =>
    pvv prog (convert 5 21 t_35) w fun t_36 w =>
    pvv prog (binOp .or 21 t_34 t_36) w fun t_37 w =>
    K (.tuple #[t_37, (.int .i64 2)]) w) <|
  pvv prog (Instr.index 9 s_p0 (.int .i64 2)) w fun t_38 w =>
  pvv prog (binOp .lss 5 t_38 (.int .u8 128)) w fun t_39 w =>
  gate (some (t_39, false)) (fun K => K t_38 w) w fun t_40 w =>
  gate (some (t_39, false)) (fun K => pvv prog (binOp .lss 5 (.int .u8 191) t_40) w K) w fun t_41 w =>
  pv prog (oPick t_39 (.bool true) t_41) w fun t_42 w =>
  cd t_42 (
    K (.tuple #[(.int .i32 65533), (.int .i64 1)]) w) <|
  pvv prog (binOp .leq 3 t_15 (.int .i64 3)) w fun t_43 w =>
  cd t_43 (
    pvv prog (binOp .and 5 t_2 (.int .u8 15)) w fun t_44 w =>
    pvv prog (convert 5 21 t_44) w fun t_45 w =>
    pvv prog (binOp .shl 21 t_45 (.int .u64 12)) w fun t_46 w =>
    pvv prog (binOp .and 5 t_22 (.int .u8 63)) w fun t_47 w =>
    pvv prog (convert 5 21 t_47) w fun t_48 w =>
    pvv prog (binOp .shl 21 t_48 (.int .u64 6)) w fun t_49 w =>
    pvv prog (binOp .or 21 t_46 t_49) w fun t_50 w =>
    pvv prog (binOp .and 5 t_38 (.int .u8 63)) w fun t_51 w =>
    pvv prog (convert 5 21 t_51) w fun t_52 w =>
    pvv prog (binOp .or 21 t_50 t_52) w fun t_53 w =>
    K (.tuple #[t_53, (.int .i64 3)]) w) <|
  pvv prog (Instr.index 9 s_p0 (.int .i64 3)) w fun t_54 w =>
  pvv prog (binOp .lss 5 t_54 (.int .u8 128)) w fun t_55 w =>
  gate (some (t_55, false)) (fun K => K t_54 w) w fun t_56 w =>
  gate (some (t_55, false)) (fun K => pvv prog (binOp .lss 5 (.int .u8 191) t_56) w K) w fun t_57 w =>
  pv prog (oPick t_55 (.bool true) t_57) w fun t_58 w =>
  cd t_58 (
    K (.tuple #[(.int .i32 65533), (.int .i64 1)]) w) <|
  pvv prog (binOp .and 5 t_2 (.int .u8 7)) w fun t_59 w =>
  pvv prog (convert 5 21 t_59) w fun t_60 w =>
  pvv prog (binOp .shl 21 t_60 (.int .u64 18)) w fun t_61 w =>
  pvv prog (binOp .and 5 t_22 (.int .u8 63)) w fun t_62 w =>
  pvv prog (convert 5 21 t_62) w fun t_63 w =>
  pvv prog (binOp .shl 21 t_63 (.int .u64 12)) w fun t_64 w =>
  pvv prog (binOp .or 21 t_61 t_64) w fun t_65 w =>
  pvv prog (binOp .and 5 t_38 (.int .u8 63)) w fun t_66 w =>
  pvv prog (convert 5 21 t_66) w fun t_67 w =>
  pvv prog (binOp .shl 21 t_67 (.int .u64 6)) w fun t_68 w =>
  pvv prog (binOp .or 21 t_65 t_68) w fun t_69 w =>
  pvv prog (binOp .and 5 t_54 (.int .u8 63)) w fun t_70 w =>
  pvv prog (convert 5 21 t_70) w fun t_71 w =>
  pvv prog (binOp .or 21 t_69 t_71) w fun t_72 w =>
  K (.tuple #[t_72, (.int .i64 4)]) w
theorem B94_eq (s_p0 : Value) (w : World) (K : Value → World → Prop) : denFn prog Tryd.f94 T94 [s_p0] w K = B94 s_p0 w K := by kernel_rfl
theorem c94 {s_p0 : Value} {w : World} {K : Value → World → Prop} (h : B94 s_p0 w K) : Calls prog 94 #[s_p0] w (Ret K) :=
  denFn_calls Tryd.func94 T94_ok (Eq.mpr (B94_eq s_p0 w K) h)

-- 15 (*holdfast/grant.Store).Allow
def T15 : Ann := (.seq .none (.seq (.seq .none (.seq (.seq .none .none) .none)) (.seq (.seq .none (.seq (.seq .none .none) .none)) (.seq .none (.seq .none (.seq (.draw [.op 0 .pure, .op 1 .pure, .op 2 .pure, .op 3 .load, .op 4 .load, .op 5 .load, .op 6 .pure, .op 7 .pure, .op 8 .pure, .op 9 .pure, .op 10 .pure]) (.seq (.block (.seq .none (.seq (.seq .none .none) (.seq .none (.seq (.seq .none .none) (.seq .none (.seq (.seq .none .none) .none))))))) (.seq (.draw [.op 0 .pure, .op 1 .pure, .op 2 .pure, .op 5 .pure, .op 3 .load, .op 4 .load, .op 6 .load, .op 7 .eff]) (.seq .none .none)))))))))
theorem T15_ok : chkFn prog Tryd.f15 T15 = true := by kernel_rfl
def B15 (s_p0 c_p1 : Value) (w : World) (K : Value → World → Prop) : Prop :=
  efv prog (Instr.box 53 c_p1) w fun c_0 w =>
  pvv prog (oEq .eql 41 (.tmp 10) (.const (.pointer none)) s_p0 (.pointer none)) w fun t_1 w =>
  cd t_1 (
    K (.int .i64 1) w) <|
  pvv prog (Instr.fieldAt 53 c_0 0) w fun t_2 w =>
  pvv prog (Instr.fieldAt 46 t_2 0) w fun t_3 w =>
  ldv prog (Instr.loadAt 9 t_3) w fun t_4 w =>
  Calls prog 33 #[t_4] w (Ret fun t_5 w =>
  pvv prog (Op.unary .not t_5) w fun t_6 w =>
  gate (some (t_6, false)) (fun K => pvv prog (Instr.fieldAt 53 c_0 0) w K) w fun t_7 w =>
  gate (some (t_6, false)) (fun K => pvv prog (Instr.fieldAt 46 t_7 1) w K) w fun t_8 w =>
  gate (some (t_6, false)) (fun K => ldv prog (Instr.loadAt 9 t_8) w K) w fun t_9 w =>
  gate (some (t_6, false)) (fun K => Calls prog 33 #[t_9] w (Ret K)) w fun t_10 w =>
  gate (some (t_6, false)) (fun K => pvv prog (Op.unary .not t_10) w K) w fun t_11 w =>
  pv prog (oPick t_6 (.bool true) t_11) w fun t_12 w =>
  cd t_12 (
    K (.int .i64 8) w) <|
  pvv prog (Instr.fieldAt 53 c_0 0) w fun t_13 w =>
  pvv prog (Instr.fieldAt 46 t_13 0) w fun t_14 w =>
  ldv prog (Instr.loadAt 9 t_14) w fun t_15 w =>
  pvv prog (Instr.fieldAt 53 c_0 1) w fun t_16 w =>
  ldv prog (Instr.loadAt 9 t_16) w fun t_17 w =>
  Calls prog 35 #[s_p0, t_15, t_17] w (Ret fun t_18 w =>
  pvv prog (Instr.extract t_18 0) w fun t_19 w =>
  pvv prog (Instr.extract t_18 1) w fun t_20 w =>
  efv prog (Instr.alloc 50 true (.tuple #[])) w fun x_21 w =>
  efu prog (Instr.storeAt 50 x_21 t_19) w fun u_22 w =>
  pvv prog (Instr.fieldAt 53 c_0 0) w fun t_23 w =>
  ldv prog (Instr.loadAt 46 t_23) w fun t_24 w =>
  pvv prog (Instr.fieldAt 53 c_0 1) w fun t_25 w =>
  ldv prog (Instr.loadAt 9 t_25) w fun t_26 w =>
  pvv prog (Instr.build 104 #[(0, t_24), (1, t_26)]) w fun t_27 w =>
  efv prog (Instr.alloc 104 true (.tuple #[])) w fun u_28 w =>
  efu prog (Instr.storeAt 104 u_28 t_27) w fun u_29 w =>
  dr w fun w =>
  pv prog (oNil s_p0) w fun t_30 w =>
  pvv prog (Instr.fieldAt 94 t_30 1) w fun t_31 w =>
  bindS (vN (Instr.loadAt 92 t_31)) fun m_33 => ldv prog (Instr.loadAt 92 t_31) w fun t_32 w =>
  bindS (vN (Instr.loadAt 104 u_28)) fun m_35 => ldv prog (Instr.loadAt 104 u_28) w fun t_34 w =>
  bindS (vN (Instr.lookup 92 t_32 t_34 true)) fun m_37 => ldv prog (Instr.lookup 92 t_32 t_34 true) w fun t_36 w =>
  pvv prog (Instr.extract t_36 0) w fun t_38 w =>
  pvv prog (Instr.extract t_36 1) w fun t_39 w =>
  pvv prog (oEq .neq 28 (.tmp 49) (.const (.int .i64 0)) t_20 (.int .i64 0)) w fun t_40 w =>
  cd t_40 (
    K t_20 w) <|
  pvv prog (Instr.fieldAt 53 c_0 2) w fun t_41 w =>
  ldv prog (Instr.loadAt 48 t_41) w fun t_42 w =>
  pvv prog (Instr.fieldAt 50 x_21 3) w fun t_43 w =>
  ldv prog (Instr.loadAt 48 t_43) w fun t_44 w =>
  pvv prog (binOp .andNot 48 t_42 t_44) w fun t_45 w =>
  pvv prog (oEq .neq 48 (.tmp 57) (.const (.int .u8 0)) t_45 (.int .u8 0)) w fun t_46 w =>
  cd t_46 (
    K (.int .i64 14) w) <|
  pvv prog (Op.unary .not t_39) w fun t_47 w =>
  gate (some (t_47, true)) (fun K => K s_p0 w) w fun t_48 w =>
  gate (some (t_47, true)) (fun K => pvv prog (Instr.fieldAt 53 c_0 0) w K) w fun t_49 w =>
  gate (some (t_47, true)) (fun K => ldv prog (Instr.loadAt 46 t_49) w K) w fun t_50 w =>
  gate (some (t_47, true)) (fun K => Calls prog 36 #[t_48, t_50] w (Ret K)) w fun t_51 w =>
  gate (some (t_47, true)) (fun K => pv prog (oBi .len #[106] 3 #[false] #[t_51]) w K) w fun t_52 w =>
  gate (some (t_47, true)) (fun K => pvv prog (binOp .geq 3 t_52 (.int .i64 4)) w K) w fun t_53 w =>
  pv prog (oPick t_47 t_53 (.bool false)) w fun t_54 w =>
  cd t_54 (
    K (.int .i64 25) w) <|
  dr w fun w =>
  pv prog (oNil s_p0) w fun t_55 w =>
  pvv prog (Instr.fieldAt 94 t_55 1) w fun t_56 w =>
  pvv prog (Instr.fieldAt 53 c_0 2) w fun t_57 w =>
  bindS (vN (Instr.loadAt 92 t_56)) fun m_59 => ldv prog (Instr.loadAt 92 t_56) w fun t_58 w =>
  bindS (vN (Instr.loadAt 104 u_28)) fun m_61 => ldv prog (Instr.loadAt 104 u_28) w fun t_60 w =>
  bindS (vN (Instr.loadAt 48 t_57)) fun m_63 => ldv prog (Instr.loadAt 48 t_57) w fun t_62 w =>
  efu prog (Instr.mapUpdate 92 t_58 t_60 t_62) w fun u_64 w =>
  K (.int .i64 0) w))
theorem B15_eq (s_p0 c_p1 : Value) (w : World) (K : Value → World → Prop) : denFn prog Tryd.f15 T15 [s_p0, c_p1] w K = B15 s_p0 c_p1 w K := by kernel_rfl
theorem c15 {s_p0 c_p1 : Value} {w : World} {K : Value → World → Prop} (h : B15 s_p0 c_p1 w K) : Calls prog 15 #[s_p0, c_p1] w (Ret K) :=
  denFn_calls Tryd.func15 T15_ok (Eq.mpr (B15_eq s_p0 c_p1 w K) h)

-- 14 (*holdfast/grant.Store).Register
def T14 : Ann := (.seq .none (.seq (.block (.seq .none (.seq (.seq .none .none) (.seq .none (.seq (.seq .none .none) (.seq .none (.seq (.seq .none .none) .none))))))) (.seq .none (.seq (.seq (.draw [.op 0 .pure, .op 1 .pure, .op 2 .pure, .op 3 .load, .op 4 .load, .op 5 .load, .op 6 .pure, .op 7 .pure, .op 8 .pure, .op 9 .eff, .op 10 .eff, .op 11 .pure]) (.seq .none (.seq (.seq .none .none) .none))) (.seq (.seq .none (.seq (.seq .none .none) .none)) (.seq (.draw [.op 0 .pure, .op 1 .pure, .op 2 .pure, .op 3 .load, .op 4 .load, .op 5 .load, .op 6 .eff]) (.seq .none .none)))))))
theorem T14_ok : chkFn prog Tryd.f14 T14 = true := by kernel_rfl
def B14 (s_p0 c_p1 : Value) (w : World) (K : Value → World → Prop) : Prop :=
  efv prog (Instr.box 50 c_p1) w fun c_0 w =>
  pvv prog (oEq .eql 41 (.tmp 9) (.const (.pointer none)) s_p0 (.pointer none)) w fun t_1 w =>
  cd t_1 (
    K (.int .i64 1) w) <|
  pvv prog (Instr.fieldAt 50 c_0 0) w fun t_2 w =>
  ldv prog (Instr.loadAt 9 t_2) w fun t_3 w =>
  Calls prog 33 #[t_3] w (Ret fun t_4 w =>
  pvv prog (Op.unary .not t_4) w fun t_5 w =>
  gate (some (t_5, false)) (fun K => pvv prog (Instr.fieldAt 50 c_0 1) w K) w fun t_6 w =>
  gate (some (t_5, false)) (fun K => ldv prog (Instr.loadAt 9 t_6) w K) w fun t_7 w =>
  gate (some (t_5, false)) (fun K => Calls prog 33 #[t_7] w (Ret K)) w fun t_8 w =>
  gate (some (t_5, false)) (fun K => pvv prog (Op.unary .not t_8) w K) w fun t_9 w =>
  pv prog (oPick t_5 (.bool true) t_9) w fun t_10 w =>
  cd t_10 (
    K (.int .i64 8) w) <|
  pvv prog (Instr.fieldAt 50 c_0 2) w fun t_11 w =>
  ldv prog (Instr.loadAt 9 t_11) w fun t_12 w =>
  pv prog (oBi .len #[9] 3 #[false] #[t_12]) w fun t_13 w =>
  pvv prog (binOp .gtr 3 t_13 (.int .i64 24)) w fun t_14 w =>
  cd t_14 (
    K (.int .i64 6) w) <|
  pvv prog (Instr.fieldAt 50 c_0 0) w fun t_15 w =>
  ldv prog (Instr.loadAt 9 t_15) w fun t_16 w =>
  pvv prog (Instr.fieldAt 50 c_0 1) w fun t_17 w =>
  ldv prog (Instr.loadAt 9 t_17) w fun t_18 w =>
  pvv prog (Instr.build 101 #[(0, t_16), (1, t_18)]) w fun t_19 w =>
  efv prog (Instr.alloc 101 true (.tuple #[])) w fun n_20 w =>
  efu prog (Instr.storeAt 101 n_20 t_19) w fun u_21 w =>
  dr w fun w =>
  pv prog (oNil s_p0) w fun t_22 w =>
  pvv prog (Instr.fieldAt 94 t_22 0) w fun t_23 w =>
  bindS (vN (Instr.loadAt 91 t_23)) fun m_25 => ldv prog (Instr.loadAt 91 t_23) w fun t_24 w =>
  bindS (vN (Instr.loadAt 101 n_20)) fun m_27 => ldv prog (Instr.loadAt 101 n_20) w fun t_26 w =>
  bindS (vN (Instr.lookup 91 t_24 t_26 true)) fun m_29 => ldv prog (Instr.lookup 91 t_24 t_26 true) w fun t_28 w =>
  pvv prog (Instr.extract t_28 0) w fun t_30 w =>
  pvv prog (Instr.extract t_28 1) w fun t_31 w =>
  efv prog (Instr.alloc 50 true (.tuple #[])) w fun t_32 w => stay prog none m_29 t_28 w <| stay prog none m_27 t_26 w <| stay prog none m_25 t_24 w <| 
  efu prog (Instr.storeAt 50 t_32 t_30) w fun u_33 w =>
  cd t_31 (
    K (.int .i64 5) w) <|
  pvv prog (Instr.fieldAt 50 c_0 0) w fun t_34 w =>
  ldv prog (Instr.loadAt 9 t_34) w fun t_35 w =>
  Calls prog 34 #[s_p0, t_35] w (Ret fun t_36 w =>
  cd t_36 (
    K (.int .i64 24) w) <|
  dr w fun w =>
  pv prog (oNil s_p0) w fun t_37 w =>
  pvv prog (Instr.fieldAt 94 t_37 0) w fun t_38 w =>
  bindS (vN (Instr.loadAt 91 t_38)) fun m_40 => ldv prog (Instr.loadAt 91 t_38) w fun t_39 w =>
  bindS (vN (Instr.loadAt 101 n_20)) fun m_42 => ldv prog (Instr.loadAt 101 n_20) w fun t_41 w =>
  bindS (vN (Instr.loadAt 50 c_0)) fun m_44 => ldv prog (Instr.loadAt 50 c_0) w fun t_43 w =>
  efu prog (Instr.mapUpdate 91 t_39 t_41 t_43) w fun u_45 w =>
  K (.int .i64 0) w))
theorem B14_eq (s_p0 c_p1 : Value) (w : World) (K : Value → World → Prop) : denFn prog Tryd.f14 T14 [s_p0, c_p1] w K = B14 s_p0 c_p1 w K := by kernel_rfl
theorem c14 {s_p0 c_p1 : Value} {w : World} {K : Value → World → Prop} (h : B14 s_p0 c_p1 w K) : Calls prog 14 #[s_p0, c_p1] w (Ret K) :=
  denFn_calls Tryd.func14 T14_ok (Eq.mpr (B14_eq s_p0 c_p1 w K) h)

-- 104 internal/strconv.FormatInt
def T104 : Ann := (.seq .none (.seq (.seq .none (.seq (.seq (.seq .none (.seq (.seq .none .none) .none)) (.seq .none (.seq .none (.meet 62914624 [6] (.seq .none (.seq .none .none)) (.seq .none (.seq .none (.seq (.seq .none (.seq (.seq .none (.seq .none .none)) .none)) (.seq .none .none)))))))) .none)) (.seq .none (.seq .none .none))))
theorem T104_ok : chkFn prog Tryd.f104 T104 = true := by kernel_rfl
def B104 (i_p0 base_p1 : Value) (w : World) (K : Value → World → Prop) : Prop :=
  pvv prog (oEq .eql 3 (.tmp 10) (.const (.int .i64 10)) base_p1 (.int .i64 10)) w fun t_0 w =>
  cd t_0 (
    pvv prog (binOp .leq 2 (.int .i64 0) i_p0) w fun t_1 w =>
    gate (some (t_1, true)) (fun K => K i_p0 w) w fun t_2 w =>
    gate (some (t_1, true)) (fun K => pvv prog (binOp .lss 2 t_2 (.int .i64 100)) w K) w fun t_3 w =>
    pv prog (oPick t_1 t_3 (.bool false)) w fun t_4 w =>
    cd t_4 (
      Calls prog 114 #[i_p0] w (Ret fun t_5 w =>
      K t_5 w)) <|
    efv prog (Instr.alloc 187 true (.tuple #[])) w fun a_6 w =>
    pvv prog (convert 2 35 i_p0) w fun t_7 w =>
    jn (fun σ w => pop σ fun u_8 σ => fin σ <|
      Calls prog 115 #[u_8] w (Ret fun t_9 w =>
      pvv prog (binOp .add 3 (.int .i64 1) t_9) w fun t_10 w =>
      pvv prog (Instr.sliceAt 187 a_6 (some (.int .i64 1)) (some t_10) none) w fun t_11 w =>
      Calls prog 116 #[t_11, u_8] w (Ret fun t_12 w =>
      pvv prog (binOp .lss 2 i_p0 (.int .i64 0)) w fun t_13 w =>
      cd t_13 (
        pvv prog (Instr.indexAt 187 a_6 (.int .i64 0)) w fun t_14 w =>
        efu prog (Instr.storeAt 5 t_14 (.int .u8 45)) w fun u_15 w =>
        pvv prog (binOp .add 3 (.int .i64 1) t_9) w fun t_16 w =>
        pvv prog (Instr.sliceAt 187 a_6 none (some t_16) none) w fun t_17 w =>
        efv prog (convert 25 9 t_17) w fun t_18 w =>
        K t_18 w) <|
      pvv prog (binOp .add 3 (.int .i64 1) t_9) w fun t_19 w =>
      pvv prog (Instr.sliceAt 187 a_6 (some (.int .i64 1)) (some t_19) none) w fun t_20 w =>
      efv prog (convert 25 9 t_20) w fun t_21 w =>
      K t_21 w))) fun k_22 =>
    pvv prog (binOp .lss 2 i_p0 (.int .i64 0)) w fun t_23 w =>
    cd t_23 (
      pvv prog (Op.unary .neg t_7) w fun t_24 w =>
      k_22 [t_24] w) <|
    k_22 [t_7] w) <|
  pvv prog (convert 2 35 i_p0) w fun t_25 w =>
  pvv prog (binOp .lss 2 i_p0 (.int .i64 0)) w fun t_26 w =>
  Calls prog 117 #[(.slice none 0 0), t_25, base_p1, t_26, (.bool false)] w (Ret fun t_27 w =>
  pvv prog (Instr.extract t_27 0) w fun t_28 w =>
  pvv prog (Instr.extract t_27 1) w fun t_29 w =>
  K t_29 w)
theorem B104_eq (i_p0 base_p1 : Value) (w : World) (K : Value → World → Prop) : denFn prog Tryd.f104 T104 [i_p0, base_p1] w K = B104 i_p0 base_p1 w K := by kernel_rfl
theorem c104 {i_p0 base_p1 : Value} {w : World} {K : Value → World → Prop} (h : B104 i_p0 base_p1 w K) : Calls prog 104 #[i_p0, base_p1] w (Ret K) :=
  denFn_calls Tryd.func104 T104_ok (Eq.mpr (B104_eq i_p0 base_p1 w K) h)

-- 34 (*holdfast/grant.Store).full
def T34 : Ann := (.seq .none (.seq .none (.seq (.seq .none (.block (.loop 4186176 [] (.seq .none (.seq (.seq .none .none) (.block (.seq .none .none))))))) (.seq .none .none))))
theorem T34_ok : chkFn prog Tryd.f34 T34 = true := by kernel_rfl
def B34 (s_p0 tenant_p1 : Value) (w : World) (K : Value → World → Prop) : Prop :=
  efv prog (Instr.makeMap 122 none) w fun t_0 w =>
  pv prog (oNil s_p0) w fun t_1 w =>
  pvv prog (Instr.fieldAt 94 t_1 0) w fun t_2 w =>
  ldv prog (Instr.loadAt 91 t_2) w fun t_3 w =>
  efv prog (Instr.range 91 t_3) w fun t_4 w =>
  lp (fun σ w again_5 => fin σ <|
    efv prog (Instr.next t_4 false 0) w fun t_6 w =>
    pvv prog (Instr.extract t_6 0) w fun t_7 w =>
    cd t_7 (
      efv prog (Instr.entry t_4) w fun t_8 w =>
      pvv prog (Instr.extract t_8 0) w fun t_9 w =>
      efv prog (Instr.alloc 101 true (.tuple #[])) w fun n_10 w =>
      efu prog (Instr.storeAt 101 n_10 t_9) w fun u_11 w =>
      pvv prog (Instr.fieldAt 101 n_10 0) w fun t_12 w =>
      ldv prog (Instr.loadAt 9 t_12) w fun t_13 w =>
      ldv prog (Instr.lookup 122 t_0 t_13 false) w fun t_14 w =>
      pvv prog (binOp .add 3 t_14 (.int .i64 1)) w fun t_15 w =>
      efu prog (Instr.mapUpdate 122 t_0 t_13 t_15) w fun u_16 w =>
      again_5 [] w) <|
    ldv prog (Instr.lookup 122 t_0 tenant_p1 false) w fun t_17 w =>
    pvv prog (binOp .geq 3 t_17 (.int .i64 4)) w fun t_18 w =>
    gate (some (t_18, false)) (fun K => K t_0 w) w fun t_19 w =>
    gate (some (t_18, false)) (fun K => K tenant_p1 w) w fun t_20 w =>
    gate (some (t_18, false)) (fun K => ldv prog (Instr.lookup 122 t_19 t_20 false) w K) w fun t_21 w =>
    gate (some (t_18, false)) (fun K => pvv prog (oEq .eql 3 (.tmp 29) (.const (.int .i64 0)) t_21 (.int .i64 0)) w K) w fun t_22 w =>
    gate (some (t_18, false)) (fun K => K t_22 w) w fun t_23 w =>
    gate (some (t_23, true)) (fun K => K t_0 w) w fun t_24 w =>
    gate (some (t_23, true)) (fun K => ld prog (oBi .len #[122] 3 #[false] #[t_24]) w K) w fun t_25 w =>
    gate (some (t_23, true)) (fun K => pvv prog (binOp .geq 3 t_25 (.int .i64 4)) w K) w fun t_26 w =>
    gate (some (t_18, false)) (fun K => pv prog (oPick t_23 t_26 (.bool false)) w K) w fun t_27 w =>
    pv prog (oPick t_18 (.bool true) t_27) w fun t_28 w =>
    K t_28 w) [] w
theorem B34_eq (s_p0 tenant_p1 : Value) (w : World) (K : Value → World → Prop) : denFn prog Tryd.f34 T34 [s_p0, tenant_p1] w K = B34 s_p0 tenant_p1 w K := by kernel_rfl
theorem c34 {s_p0 tenant_p1 : Value} {w : World} {K : Value → World → Prop} (h : B34 s_p0 tenant_p1 w K) : Calls prog 34 #[s_p0, tenant_p1] w (Ret K) :=
  denFn_calls Tryd.func34 T34_ok (Eq.mpr (B34_eq s_p0 tenant_p1 w K) h)

-- 50 holdfast/codec.Row
def T50 : Ann := (.seq .none (.seq (.seq .none (.seq (.seq .none .none) .none)) (.seq .none (.seq (.seq .none (.block (.loop 4294901852 [4, 16] (.seq .none (.seq (.seq .none .none) (.seq (.block (.seq .none (.seq (.seq .none (.seq (.seq .none .none) .none)) .none))) .none)))))) (.seq (.seq .none (.seq (.seq .none .none) .none)) (.seq .none .none))))))
theorem T50_ok : chkFn prog Tryd.f50 T50 = true := by kernel_rfl
def B50 (columns_p0 : Value) (w : World) (K : Value → World → Prop) : Prop :=
  pv prog (oBi .len #[24] 3 #[false] #[columns_p0]) w fun t_0 w =>
  pvv prog (binOp .gtr 3 t_0 (.int .i64 8)) w fun t_1 w =>
  cd t_1 (
    K (.tuple #[(.slice none 0 0), (.int .i64 2)]) w) <|
  pv prog (oBi .len #[24] 3 #[false] #[columns_p0]) w fun t_2 w =>
  pvv prog (convert 3 5 t_2) w fun t_3 w =>
  efv prog (Instr.buildSlice 25 1 #[(0, t_3)]) w fun t_4 w =>
  pv prog (oBi .len #[24] 3 #[false] #[columns_p0]) w fun t_5 w =>
  lp (fun σ w again_8 => pop σ fun out_6 σ => pop σ fun t_7 σ => fin σ <|
    pvv prog (binOp .lss 3 t_7 t_5) w fun t_9 w =>
    cd t_9 (
      pvv prog (Instr.indexAt 24 columns_p0 t_7) w fun t_10 w =>
      ldv prog (Instr.loadAt 9 t_10) w fun t_11 w =>
      pv prog (oBi .len #[9] 3 #[false] #[t_11]) w fun t_12 w =>
      pvv prog (binOp .gtr 3 t_12 (.int .i64 70)) w fun t_13 w =>
      cd t_13 (
        K (.tuple #[(.slice none 0 0), (.int .i64 6)]) w) <|
      pv prog (oBi .len #[9] 3 #[false] #[t_11]) w fun t_14 w =>
      pvv prog (convert 3 5 t_14) w fun t_15 w =>
      efv prog (Instr.buildSlice 25 1 #[(0, t_15)]) w fun t_16 w =>
      ef prog (oBi .append #[25, 25] 25 #[false, false] #[out_6, t_16]) w fun t_17 w =>
      ef prog (oBi .append #[25, 9] 25 #[false, false] #[t_17, t_11]) w fun t_18 w =>
      pvv prog (binOp .add 3 t_7 (.int .i64 1)) w fun t_19 w =>
      again_8 [t_18, t_19] w) <|
    pv prog (oBi .len #[25] 3 #[false] #[out_6]) w fun t_20 w =>
    pvv prog (binOp .gtr 3 t_20 (.int .i64 72)) w fun t_21 w =>
    cd t_21 (
      K (.tuple #[(.slice none 0 0), (.int .i64 6)]) w) <|
    K (.tuple #[out_6, (.int .i64 0)]) w) [t_4, (.int .i64 0)] w
theorem B50_eq (columns_p0 : Value) (w : World) (K : Value → World → Prop) : denFn prog Tryd.f50 T50 [columns_p0] w K = B50 columns_p0 w K := by kernel_rfl
theorem c50 {columns_p0 : Value} {w : World} {K : Value → World → Prop} (h : B50 columns_p0 w K) : Calls prog 50 #[columns_p0] w (Ret K) :=
  denFn_calls Tryd.func50 T50_ok (Eq.mpr (B50_eq columns_p0 w K) h)

-- 39 holdfast/audit.next
def T39 : Ann := (.seq .none (.seq (.draw [.op 0 .pure, .op 3 .pure, .op 6 .pure, .op 8 .pure, .op 1 .load, .op 4 .load, .op 7 .load, .op 9 .load, .op 2 .eff, .op 5 .eff, .op 10 .eff, .op 11 .eff, .op 12 .pure, .op 13 .pure, .op 14 .pure, .op 15 .pure, .op 16 .pure]) (.seq .none .none)))
theorem T39_ok : chkFn prog Tryd.f39 T39 = true := by kernel_rfl
def B39 (h_p0 x_p1 : Value) (w : World) (K : Value → World → Prop) : Prop :=
  efv prog (Instr.box 23 h_p0) w fun h_0 w =>
  efv prog (Instr.box 56 x_p1) w fun x_1 w =>
  efv prog (Instr.alloc 23 true (.tuple #[])) w fun t_2 w =>
  dr w fun w =>
  pvv prog (Instr.fieldAt 56 x_1 0) w fun t_3 w =>
  pvv prog (Instr.fieldAt 56 x_1 1) w fun t_4 w =>
  pvv prog (Instr.fieldAt 56 x_1 2) w fun t_5 w =>
  pvv prog (Instr.fieldAt 56 x_1 3) w fun t_6 w =>
  bindS (vN (Instr.loadAt 3 t_3)) fun m_8 => ldv prog (Instr.loadAt 3 t_3) w fun t_7 w =>
  bindS (vN (Instr.loadAt 3 t_4)) fun m_10 => ldv prog (Instr.loadAt 3 t_4) w fun t_9 w =>
  bindS (vN (Instr.loadAt 9 t_5)) fun m_12 => ldv prog (Instr.loadAt 9 t_5) w fun t_11 w =>
  bindS (vN (Instr.loadAt 9 t_6)) fun m_14 => ldv prog (Instr.loadAt 9 t_6) w fun t_13 w =>
  Calls prog 51 #[t_7] w (Ret fun t_15 w => stay prog none m_14 t_13 w <| stay prog none m_12 t_11 w <| stay prog none m_10 t_9 w <| 
  Calls prog 51 #[t_9] w (Ret fun t_16 w => stay prog none m_14 t_13 w <| stay prog none m_12 t_11 w <| stay prog none m_8 t_7 w <| 
  efv prog (Instr.buildSlice 24 4 #[(0, t_15), (1, t_16), (2, t_11), (3, t_13)]) w fun t_17 w => stay prog none m_10 t_9 w <| stay prog none m_8 t_7 w <| 
  Calls prog 50 #[t_17] w (Ret fun t_18 w => stay prog none m_14 t_13 w <| stay prog none m_12 t_11 w <| stay prog none m_10 t_9 w <| stay prog none m_8 t_7 w <| 
  pvv prog (Instr.extract t_18 0) w fun t_19 w =>
  pvv prog (Instr.extract t_18 1) w fun t_20 w =>
  ldv prog (Instr.loadAt 23 h_0) w fun t_21 w =>
  Calls prog 52 #[t_21, t_19] w (Ret fun t_22 w =>
  efu prog (Instr.storeAt 23 t_2 t_22) w fun u_23 w =>
  ∃ r_24, (do loadVar 23 (← asAddr t_2)).run prog w = .ok r_24 w ∧ K r_24 w))))
theorem B39_eq (h_p0 x_p1 : Value) (w : World) (K : Value → World → Prop) : denFn prog Tryd.f39 T39 [h_p0, x_p1] w K = B39 h_p0 x_p1 w K := by kernel_rfl
theorem c39 {h_p0 x_p1 : Value} {w : World} {K : Value → World → Prop} (h : B39 h_p0 x_p1 w K) : Calls prog 39 #[h_p0, x_p1] w (Ret K) :=
  denFn_calls Tryd.func39 T39_ok (Eq.mpr (B39_eq h_p0 x_p1 w K) h)

-- 35 (*holdfast/grant.Store).look
def T35 : Ann := (.seq .none (.seq (.seq .none (.seq (.seq .none .none) .none)) (.seq .none (.seq (.seq .none (.seq (.seq .none .none) .none)) (.seq .none .none)))))
theorem T35_ok : chkFn prog Tryd.f35 T35 = true := by kernel_rfl
def B35 (s_p0 tenant_p1 client_p2 : Value) (w : World) (K : Value → World → Prop) : Prop :=
  efv prog (Instr.alloc 50 true (.tuple #[])) w fun t_0 w =>
  pvv prog (oEq .eql 41 (.tmp 10) (.const (.pointer none)) s_p0 (.pointer none)) w fun t_1 w =>
  cd t_1 (
    pvv prog (Instr.build 50 #[]) w fun t_2 w =>
    efu prog (Instr.storeAt 50 t_0 t_2) w fun u_3 w =>
    ∃ r_4, (do loadVar 50 (← asAddr t_0)).run prog w = .ok r_4 w ∧ K (.tuple #[r_4, (.int .i64 1)]) w) <|
  pv prog (oNil s_p0) w fun t_5 w =>
  pvv prog (Instr.fieldAt 94 t_5 0) w fun t_6 w =>
  ldv prog (Instr.loadAt 91 t_6) w fun t_7 w =>
  pvv prog (Instr.build 101 #[(0, tenant_p1), (1, client_p2)]) w fun t_8 w =>
  ldv prog (Instr.lookup 91 t_7 t_8 true) w fun t_9 w =>
  pvv prog (Instr.extract t_9 0) w fun t_10 w =>
  pvv prog (Instr.extract t_9 1) w fun t_11 w =>
  efv prog (Instr.alloc 50 true (.tuple #[])) w fun c_12 w =>
  efu prog (Instr.storeAt 50 c_12 t_10) w fun u_13 w =>
  pvv prog (Op.unary .not t_11) w fun t_14 w =>
  cd t_14 (
    pvv prog (Instr.build 50 #[]) w fun t_15 w =>
    efu prog (Instr.storeAt 50 t_0 t_15) w fun u_16 w =>
    ∃ r_17, (do loadVar 50 (← asAddr t_0)).run prog w = .ok r_17 w ∧ K (.tuple #[r_17, (.int .i64 4)]) w) <|
  ldv prog (Instr.loadAt 50 c_12) w fun t_18 w =>
  efu prog (Instr.storeAt 50 t_0 t_18) w fun u_19 w =>
  ∃ r_20, (do loadVar 50 (← asAddr t_0)).run prog w = .ok r_20 w ∧ K (.tuple #[r_20, (.int .i64 0)]) w
theorem B35_eq (s_p0 tenant_p1 client_p2 : Value) (w : World) (K : Value → World → Prop) : denFn prog Tryd.f35 T35 [s_p0, tenant_p1, client_p2] w K = B35 s_p0 tenant_p1 client_p2 w K := by kernel_rfl
theorem c35 {s_p0 tenant_p1 client_p2 : Value} {w : World} {K : Value → World → Prop} (h : B35 s_p0 tenant_p1 client_p2 w K) : Calls prog 35 #[s_p0, tenant_p1, client_p2] w (Ret K) :=
  denFn_calls Tryd.func35 T35_ok (Eq.mpr (B35_eq s_p0 tenant_p1 client_p2 w K) h)

-- 96 strings.IndexRune
def T96 : Ann := (.seq .none (.block (.seq .none (.seq (.seq .none .none) (.seq .none (.seq (.seq (.seq .none (.block (.loop 12164183355622992813219379528005579144973741782332342384 [] (.seq .none (.seq (.seq .none .none) (.block (.seq .none (.seq .none (.seq (.seq .none .none) .none))))))))) (.seq .none .none)) (.seq .none (.seq (.seq .none .none) .none))))))))
theorem T96_ok : chkFn prog Tryd.f96 T96 = true := by kernel_rfl
def B96 (s_p0 r_p1 : Value) (w : World) (K : Value → World → Prop) : Prop :=
  pvv prog (binOp .leq 21 (.int .i32 0) r_p1) w fun t_0 w =>
  gate (some (t_0, true)) (fun K => K r_p1 w) w fun t_1 w =>
  gate (some (t_0, true)) (fun K => pvv prog (binOp .lss 21 t_1 (.int .i32 128)) w K) w fun t_2 w =>
  pv prog (oPick t_0 t_2 (.bool false)) w fun t_3 w =>
  cd t_3 (
    pvv prog (convert 21 5 r_p1) w fun t_4 w =>
    Calls prog 110 #[s_p0, t_4] w (Ret fun t_5 w =>
    K t_5 w)) <|
  pvv prog (oEq .eql 21 (.tmp 172) (.const (.int .i32 65533)) r_p1 (.int .i32 65533)) w fun t_6 w =>
  cd t_6 (
    efv prog (Instr.range 9 s_p0) w fun t_7 w =>
    lp (fun σ w again_8 => fin σ <|
      efv prog (Instr.next t_7 true 0) w fun t_9 w =>
      pvv prog (Instr.extract t_9 0) w fun t_10 w =>
      cd t_10 (
        pvv prog (Instr.extract t_9 1) w fun t_11 w =>
        pvv prog (Instr.extract t_9 2) w fun t_12 w =>
        pvv prog (oEq .eql 21 (.tmp 180) (.const (.int .i32 65533)) t_12 (.int .i32 65533)) w fun t_13 w =>
        cd t_13 (
          K t_11 w) <|
        again_8 [] w) <|
      K (.int .i64 (-1)) w) [] w) <|
  Calls prog 111 #[r_p1] w (Ret fun t_14 w =>
  pvv prog (Op.unary .not t_14) w fun t_15 w =>
  cd t_15 (
    K (.int .i64 (-1)) w) <|
  False)
theorem B96_eq (s_p0 r_p1 : Value) (w : World) (K : Value → World → Prop) : denFn prog Tryd.f96 T96 [s_p0, r_p1] w K = B96 s_p0 r_p1 w K := by kernel_rfl
theorem c96 {s_p0 r_p1 : Value} {w : World} {K : Value → World → Prop} (h : B96 s_p0 r_p1 w K) : Calls prog 96 #[s_p0, r_p1] w (Ret K) :=
  denFn_calls Tryd.func96 T96_ok (Eq.mpr (B96_eq s_p0 r_p1 w K) h)

-- 37 maps.DeleteFunc[map[holdfast/grant.use]holdfast/api.Scopes,holdfast/grant.use,holdfast/api.Scopes]
def T37 : Ann := (.seq .none (.block (.loop 524080 [] (.seq .none (.seq (.seq .none .none) (.block (.seq .none (.seq .none (.seq .none .none)))))))))
theorem T37_ok : chkFn prog Tryd.f37 T37 = true := by kernel_rfl
def B37 (m_p0 del_p1 : Value) (w : World) (K : Value → World → Prop) : Prop :=
  efv prog (Instr.range 92 m_p0) w fun t_0 w =>
  lp (fun σ w again_1 => fin σ <|
    efv prog (Instr.next t_0 false 0) w fun t_2 w =>
    pvv prog (Instr.extract t_2 0) w fun t_3 w =>
    cd t_3 (
      efv prog (Instr.entry t_0) w fun t_4 w =>
      pvv prog (Instr.extract t_4 0) w fun t_5 w =>
      pvv prog (Instr.extract t_4 1) w fun t_6 w =>
      efv prog (Instr.alloc 104 true (.tuple #[])) w fun k_7 w =>
      efu prog (Instr.storeAt 104 k_7 t_5) w fun u_8 w =>
      ldv prog (Instr.loadAt 104 k_7) w fun t_9 w =>
      ef prog (oCall del_p1 #[t_9, t_6]) w fun t_10 w =>
      cd t_10 (
        ldv prog (Instr.loadAt 104 k_7) w fun t_11 w =>
        ef prog (oBi .delete #[92, 104] 0 #[false, false] #[m_p0, t_11]) w fun u_12 w =>
        again_1 [] w) <|
      again_1 [] w) <|
    K (.tuple #[]) w) [] w
theorem B37_eq (m_p0 del_p1 : Value) (w : World) (K : Value → World → Prop) : denFn prog Tryd.f37 T37 [m_p0, del_p1] w K = B37 m_p0 del_p1 w K := by kernel_rfl
theorem c37 {m_p0 del_p1 : Value} {w : World} {K : Value → World → Prop} (h : B37 m_p0 del_p1 w K) : Calls prog 37 #[m_p0, del_p1] w (Ret K) :=
  denFn_calls Tryd.func37 T37_ok (Eq.mpr (B37_eq m_p0 del_p1 w K) h)

-- 20 (*holdfast/audit.Chain).Count
def T20 : Ann := (.seq .none (.seq (.seq .none (.seq (.seq .none .none) .none)) (.seq (.draw [.op 0 .pure, .op 1 .pure, .op 2 .pure, .op 3 .pure, .op 5 .pure, .op 6 .pure, .op 7 .pure, .op 4 .load, .op 8 .load, .op 9 .pure, .op 10 .pure, .op 11 .pure]) .none)))
theorem T20_ok : chkFn prog Tryd.f20 T20 = true := by kernel_rfl
def B20 (c_p0 : Value) (w : World) (K : Value → World → Prop) : Prop :=
  pvv prog (oEq .eql 43 (.tmp 3) (.const (.pointer none)) c_p0 (.pointer none)) w fun t_0 w =>
  cd t_0 (
    K (.int .i64 0) w) <|
  dr w fun w =>
  pv prog (oNil c_p0) w fun t_1 w =>
  pvv prog (Instr.fieldAt 98 t_1 0) w fun t_2 w =>
  pvv prog (Instr.fieldAt 96 t_2 0) w fun t_3 w =>
  pv prog (oNil c_p0) w fun t_4 w =>
  pvv prog (Instr.fieldAt 98 t_4 4) w fun t_5 w =>
  bindS (vN (Instr.loadAt 3 t_3)) fun m_7 => ldv prog (Instr.loadAt 3 t_3) w fun t_6 w =>
  bindS (vN (Instr.loadAt 65 t_5)) fun m_9 => ldv prog (Instr.loadAt 65 t_5) w fun t_8 w =>
  pv prog (oBi .len #[65] 3 #[false] #[t_8]) w fun t_10 w =>
  pvv prog (binOp .add 3 t_6 t_10) w fun t_11 w =>
  K t_11 w
theorem B20_eq (c_p0 : Value) (w : World) (K : Value → World → Prop) : denFn prog Tryd.f20 T20 [c_p0] w K = B20 c_p0 w K := by kernel_rfl
theorem c20 {c_p0 : Value} {w : World} {K : Value → World → Prop} (h : B20 c_p0 w K) : Calls prog 20 #[c_p0] w (Ret K) :=
  denFn_calls Tryd.func20 T20_ok (Eq.mpr (B20_eq c_p0 w K) h)

-- 57 strings.trimLeftByte
def T57 : Ann := (.seq .none (.seq (.block (.loop 65505 [0] (.seq (.seq .none (.seq .none .none)) (.block .none)))) (.seq .none .none)))
theorem T57_ok : chkFn prog Tryd.f57 T57 = true := by kernel_rfl
def B57 (s_p0 c_p1 : Value) (w : World) (K : Value → World → Prop) : Prop :=
  lp (fun σ w again_1 => pop σ fun s_0 σ => fin σ <|
    pv prog (oBi .len #[9] 3 #[false] #[s_0]) w fun t_2 w =>
    pvv prog (binOp .gtr 3 t_2 (.int .i64 0)) w fun t_3 w =>
    gate (some (t_3, true)) (fun K => K s_0 w) w fun t_4 w =>
    gate (some (t_3, true)) (fun K => pvv prog (Instr.index 9 t_4 (.int .i64 0)) w K) w fun t_5 w =>
    gate (some (t_3, true)) (fun K => K c_p1 w) w fun t_6 w =>
    gate (some (t_3, true)) (fun K => pvv prog (oEq .eql 5 (.tmp 10) (.tmp 11) t_5 t_6) w K) w fun t_7 w =>
    pv prog (oPick t_3 t_7 (.bool false)) w fun t_8 w =>
    cd t_8 (
      pvv prog (Instr.sliceAt 9 s_0 (some (.int .i64 1)) none none) w fun t_9 w =>
      again_1 [t_9] w) <|
    K s_0 w) [s_p0] w
theorem B57_eq (s_p0 c_p1 : Value) (w : World) (K : Value → World → Prop) : denFn prog Tryd.f57 T57 [s_p0, c_p1] w K = B57 s_p0 c_p1 w K := by kernel_rfl
theorem c57 {s_p0 c_p1 : Value} {w : World} {K : Value → World → Prop} (h : B57 s_p0 c_p1 w K) : Calls prog 57 #[s_p0, c_p1] w (Ret K) :=
  denFn_calls Tryd.func57 T57_ok (Eq.mpr (B57_eq s_p0 c_p1 w K) h)

-- 49 cmp.Compare[string]
def T49 : Ann := (.seq .none (.seq .none (.seq .none (.seq (.seq .none (.seq (.seq (.seq .none (.seq (.seq .none .none) .none)) (.seq .none .none)) .none)) (.seq (.seq .none (.seq (.seq .none .none) .none)) (.seq (.seq .none (.seq (.seq .none .none) .none)) (.seq (.seq .none (.seq (.seq .none .none) .none)) (.seq .none .none))))))))
theorem T49_ok : chkFn prog Tryd.f49 T49 = true := by kernel_rfl
def B49 (x_p0 y_p1 : Value) (w : World) (K : Value → World → Prop) : Prop :=
  Calls prog 66 #[x_p0] w (Ret fun t_0 w =>
  Calls prog 66 #[y_p1] w (Ret fun t_1 w =>
  cd t_0 (
    cd t_1 (
      K (.int .i64 0) w) <|
    K (.int .i64 (-1)) w) <|
  cd t_1 (
    K (.int .i64 1) w) <|
  pvv prog (binOp .lss 9 x_p0 y_p1) w fun t_2 w =>
  cd t_2 (
    K (.int .i64 (-1)) w) <|
  pvv prog (binOp .gtr 9 x_p0 y_p1) w fun t_3 w =>
  cd t_3 (
    K (.int .i64 1) w) <|
  K (.int .i64 0) w))
theorem B49_eq (x_p0 y_p1 : Value) (w : World) (K : Value → World → Prop) : denFn prog Tryd.f49 T49 [x_p0, y_p1] w K = B49 x_p0 y_p1 w K := by kernel_rfl
theorem c49 {x_p0 y_p1 : Value} {w : World} {K : Value → World → Prop} (h : B49 x_p0 y_p1 w K) : Calls prog 49 #[x_p0, y_p1] w (Ret K) :=
  denFn_calls Tryd.func49 T49_ok (Eq.mpr (B49_eq x_p0 y_p1 w K) h)

-- 52 holdfast/hash.Chain
def T52 : Ann := (.seq .none (.seq .none .none))
theorem T52_ok : chkFn prog Tryd.f52 T52 = true := by kernel_rfl
def B52 (h_p0 b_p1 : Value) (w : World) (K : Value → World → Prop) : Prop :=
  efv prog (Instr.box 23 h_p0) w fun h_0 w =>
  efv prog (Instr.alloc 23 true (.tuple #[])) w fun t_1 w =>
  pvv prog (Instr.sliceAt 23 h_0 none none none) w fun t_2 w =>
  ef prog (oBi .append #[25, 25] 25 #[false, false] #[t_2, b_p1]) w fun t_3 w =>
  Calls prog 7 #[t_3] w (Ret fun t_4 w =>
  efu prog (Instr.storeAt 23 t_1 t_4) w fun u_5 w =>
  ∃ r_6, (do loadVar 23 (← asAddr t_1)).run prog w = .ok r_6 w ∧ K r_6 w)
theorem B52_eq (h_p0 b_p1 : Value) (w : World) (K : Value → World → Prop) : denFn prog Tryd.f52 T52 [h_p0, b_p1] w K = B52 h_p0 b_p1 w K := by kernel_rfl
theorem c52 {h_p0 b_p1 : Value} {w : World} {K : Value → World → Prop} (h : B52 h_p0 b_p1 w K) : Calls prog 52 #[h_p0, b_p1] w (Ret K) :=
  denFn_calls Tryd.func52 T52_ok (Eq.mpr (B52_eq h_p0 b_p1 w K) h)

-- 103 internal/stringslite.TrimPrefix
def T103 : Ann := (.seq .none (.seq (.seq .none (.seq (.seq .none .none) .none)) (.seq .none .none)))
theorem T103_ok : chkFn prog Tryd.f103 T103 = true := by kernel_rfl
def B103 (s_p0 prefix_p1 : Value) (w : World) (K : Value → World → Prop) : Prop :=
  Calls prog 113 #[s_p0, prefix_p1] w (Ret fun t_0 w =>
  cd t_0 (
    pv prog (oBi .len #[9] 3 #[false] #[prefix_p1]) w fun t_1 w =>
    pvv prog (Instr.sliceAt 9 s_p0 (some t_1) none none) w fun t_2 w =>
    K t_2 w) <|
  K s_p0 w)
theorem B103_eq (s_p0 prefix_p1 : Value) (w : World) (K : Value → World → Prop) : denFn prog Tryd.f103 T103 [s_p0, prefix_p1] w K = B103 s_p0 prefix_p1 w K := by kernel_rfl
theorem c103 {s_p0 prefix_p1 : Value} {w : World} {K : Value → World → Prop} (h : B103 s_p0 prefix_p1 w K) : Calls prog 103 #[s_p0, prefix_p1] w (Ret K) :=
  denFn_calls Tryd.func103 T103_ok (Eq.mpr (B103_eq s_p0 prefix_p1 w K) h)

-- 47 slices.SortFunc[[]holdfast/api.Consent,holdfast/api.Consent]
def T47 : Ann := (.seq .none .none)
theorem T47_ok : chkFn prog Tryd.f47 T47 = true := by kernel_rfl
def B47 (x_p0 cmp_p1 : Value) (w : World) (K : Value → World → Prop) : Prop :=
  pv prog (oBi .len #[106] 3 #[false] #[x_p0]) w fun t_0 w =>
  pvv prog (convert 3 75 t_0) w fun t_1 w =>
  Calls prog 65 #[t_1] w (Ret fun t_2 w =>
  Calls prog 64 #[x_p0, (.int .i64 0), t_0, t_2, cmp_p1] w (Ret fun t_3 w =>
  K (.tuple #[]) w))
theorem B47_eq (x_p0 cmp_p1 : Value) (w : World) (K : Value → World → Prop) : denFn prog Tryd.f47 T47 [x_p0, cmp_p1] w K = B47 x_p0 cmp_p1 w K := by kernel_rfl
theorem c47 {x_p0 cmp_p1 : Value} {w : World} {K : Value → World → Prop} (h : B47 x_p0 cmp_p1 w K) : Calls prog 47 #[x_p0, cmp_p1] w (Ret K) :=
  denFn_calls Tryd.func47 T47_ok (Eq.mpr (B47_eq x_p0 cmp_p1 w K) h)

-- 65 math/bits.Len
def T65 : Ann := (.seq .none (.seq (.seq (.seq .none .none) .none) (.seq .none .none)))
theorem T65_ok : chkFn prog Tryd.f65 T65 = true := by kernel_rfl
def B65 (x_p0 : Value) (w : World) (K : Value → World → Prop) : Prop :=
  cd (.bool false) (
    pvv prog (convert 75 77 x_p0) w fun t_0 w =>
    Calls prog 86 #[t_0] w (Ret fun t_1 w =>
    K t_1 w)) <|
  Calls prog 87 #[x_p0] w (Ret fun t_2 w =>
  K t_2 w)
theorem B65_eq (x_p0 : Value) (w : World) (K : Value → World → Prop) : denFn prog Tryd.f65 T65 [x_p0] w K = B65 x_p0 w K := by kernel_rfl
theorem c65 {x_p0 : Value} {w : World} {K : Value → World → Prop} (h : B65 x_p0 w K) : Calls prog 65 #[x_p0] w (Ret K) :=
  denFn_calls Tryd.func65 T65_ok (Eq.mpr (B65_eq x_p0 w K) h)

-- 76 strings.ContainsRune
def T76 : Ann := (.seq .none (.seq .none .none))
theorem T76_ok : chkFn prog Tryd.f76 T76 = true := by kernel_rfl
def B76 (s_p0 r_p1 : Value) (w : World) (K : Value → World → Prop) : Prop :=
  Calls prog 96 #[s_p0, r_p1] w (Ret fun t_0 w =>
  pvv prog (binOp .geq 3 t_0 (.int .i64 0)) w fun t_1 w =>
  K t_1 w)
theorem B76_eq (s_p0 r_p1 : Value) (w : World) (K : Value → World → Prop) : denFn prog Tryd.f76 T76 [s_p0, r_p1] w K = B76 s_p0 r_p1 w K := by kernel_rfl
theorem c76 {s_p0 r_p1 : Value} {w : World} {K : Value → World → Prop} (h : B76 s_p0 r_p1 w K) : Calls prog 76 #[s_p0, r_p1] w (Ret K) :=
  denFn_calls Tryd.func76 T76_ok (Eq.mpr (B76_eq s_p0 r_p1 w K) h)

-- 88 strings.TrimPrefix
def T88 : Ann := (.seq .none (.seq .none .none))
theorem T88_ok : chkFn prog Tryd.f88 T88 = true := by kernel_rfl
def B88 (s_p0 prefix_p1 : Value) (w : World) (K : Value → World → Prop) : Prop :=
  Calls prog 103 #[s_p0, prefix_p1] w (Ret fun t_0 w =>
  K t_0 w)
theorem B88_eq (s_p0 prefix_p1 : Value) (w : World) (K : Value → World → Prop) : denFn prog Tryd.f88 T88 [s_p0, prefix_p1] w K = B88 s_p0 prefix_p1 w K := by kernel_rfl
theorem c88 {s_p0 prefix_p1 : Value} {w : World} {K : Value → World → Prop} (h : B88 s_p0 prefix_p1 w K) : Calls prog 88 #[s_p0, prefix_p1] w (Ret K) :=
  denFn_calls Tryd.func88 T88_ok (Eq.mpr (B88_eq s_p0 prefix_p1 w K) h)

-- 66 cmp.isNaN[string]
def T66 : Ann := (.seq .none (.seq .none .none))
theorem T66_ok : chkFn prog Tryd.f66 T66 = true := by kernel_rfl
def B66 (x_p0 : Value) (w : World) (K : Value → World → Prop) : Prop :=
  pvv prog (oEq .neq 9 (.tmp 3) (.tmp 4) x_p0 x_p0) w fun t_0 w =>
  K t_0 w
theorem B66_eq (x_p0 : Value) (w : World) (K : Value → World → Prop) : denFn prog Tryd.f66 T66 [x_p0] w K = B66 x_p0 w K := by kernel_rfl
theorem c66 {x_p0 : Value} {w : World} {K : Value → World → Prop} (h : B66 x_p0 w K) : Calls prog 66 #[x_p0] w (Ret K) :=
  denFn_calls Tryd.func66 T66_ok (Eq.mpr (B66_eq x_p0 w K) h)


end Go.Proofs.YtmnaalpjhkkglaaDoor
