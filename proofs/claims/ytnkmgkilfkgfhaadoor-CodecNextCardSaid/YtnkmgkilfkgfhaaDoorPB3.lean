import Derived.Test.YtnkmgkilfkgfhaaDoorPI
set_option linter.all false
set_option maxRecDepth 100000
namespace Go.Proofs.YtnkmgkilfkgfhaaDoor
open Go Hold
-- 76 internal/stringslite.Index
def T76 : Ann := (.seq .none (.seq .none (.seq (.block (.seq .none (.seq (.seq .none .none) (.seq .none (.seq (.seq .none .none) (.seq .none (.seq (.seq .none .none) (.seq .none (.seq (.seq .none .none) .none))))))))) (.seq .none (.seq .none (.seq .none (.seq .none (.seq .none (.seq (.block (.loop 11150372599265311570767858992208992677149968 [8, 10] (.seq (.seq .none (.seq .none .none)) (.block (.meet 302230301982152686831888 [8] (.seq .none (.seq (.seq .none (.seq (.seq .none (.seq (.seq .none .none) .none)) .none)) .none)) (.seq (.seq .none (.seq (.seq .none .none) .none)) (.seq .none (.seq .none (.seq .none (.seq (.seq .none (.seq (.seq .none (.seq (.seq .none .none) .none)) (.seq .none .none))) (.seq .none (.seq (.seq .none (.seq (.seq .none (.seq (.seq .none .none) .none)) (.seq .none .none))) .none)))))))))))) (.seq .none .none))))))))))
theorem T76_ok : chkFn prog Tryd.f76 T76 = true := by kernel_rfl
def B76 (s_p0 substr_p1 : Value) (w : World) (K : Value → World → Prop) : Prop :=
  pv prog (oBi .len #[9] 3 #[false] #[substr_p1]) w fun t_0 w =>
  pvv prog (oEq .eql 3 (.tmp 17) (.const (.int .i64 0)) t_0 (.int .i64 0)) w fun t_1 w =>
  gate (some (t_1, false)) (fun K => K substr_p1 w) w fun t_2 w =>
  gate (some (t_1, false)) (fun K => K s_p0 w) w fun t_3 w =>
  gate (some (t_1, false)) (fun K => pvv prog (oEq .eql 9 (.tmp 20) (.tmp 21) t_2 t_3) w K) w fun t_4 w =>
  pv prog (oPick t_1 (.bool true) t_4) w fun t_5 w =>
  cd t_5 (
    K (.int .i64 0) w) <|
  pvv prog (oEq .eql 3 (.tmp 25) (.const (.int .i64 1)) t_0 (.int .i64 1)) w fun t_6 w =>
  cd t_6 (
    pvv prog (Instr.index 9 substr_p1 (.int .i64 0)) w fun t_7 w =>
    Calls prog 90 #[s_p0, t_7] w (Ret fun t_8 w =>
    K t_8 w)) <|
  pv prog (oBi .len #[9] 3 #[false] #[s_p0]) w fun t_9 w =>
  pvv prog (binOp .geq 3 t_0 t_9) w fun t_10 w =>
  cd t_10 (
    K (.int .i64 (-1)) w) <|
  ldv prog (Instr.loadAt 3 (.pointer (some ⟨1, 0, none⟩))) w fun t_11 w =>
  pvv prog (binOp .leq 3 t_0 t_11) w fun t_12 w =>
  gate (some (t_12, true)) (fun K => K s_p0 w) w fun t_13 w =>
  gate (some (t_12, true)) (fun K => pv prog (oBi .len #[9] 3 #[false] #[t_13]) w K) w fun t_14 w =>
  gate (some (t_12, true)) (fun K => pvv prog (binOp .leq 3 t_14 (.int .i64 64)) w K) w fun t_15 w =>
  pv prog (oPick t_12 t_15 (.bool false)) w fun t_16 w =>
  cd t_16 (
    ef prog (oCall (.func (.func 91) #[] #[]) #[s_p0, substr_p1]) w fun t_17 w =>
    K t_17 w) <|
  pvv prog (Instr.index 9 substr_p1 (.int .i64 0)) w fun t_18 w =>
  pvv prog (Instr.index 9 substr_p1 (.int .i64 1)) w fun t_19 w =>
  pv prog (oBi .len #[9] 3 #[false] #[s_p0]) w fun t_20 w =>
  pvv prog (binOp .sub 3 t_20 t_0) w fun t_21 w =>
  pvv prog (binOp .add 3 t_21 (.int .i64 1)) w fun t_22 w =>
  lp (fun σ w again_25 => pop σ fun i_23 σ => pop σ fun fails_24 σ => fin σ <|
    pvv prog (binOp .lss 3 i_23 t_22) w fun t_26 w =>
    cd t_26 (
      jn (fun σ w => pop σ fun i_27 σ => fin σ <|
        pvv prog (binOp .add 3 i_27 (.int .i64 1)) w fun t_28 w =>
        pvv prog (Instr.index 9 s_p0 t_28) w fun t_29 w =>
        pvv prog (oEq .eql 5 (.tmp 81) (.tmp 82) t_29 t_19) w fun t_30 w =>
        gate (some (t_30, true)) (fun K => K s_p0 w) w fun t_31 w =>
        gate (some (t_30, true)) (fun K => K i_27 w) w fun t_32 w =>
        gate (some (t_30, true)) (fun K => K i_27 w) w fun t_33 w =>
        gate (some (t_30, true)) (fun K => K t_0 w) w fun t_34 w =>
        gate (some (t_30, true)) (fun K => pvv prog (binOp .add 3 t_33 t_34) w K) w fun t_35 w =>
        gate (some (t_30, true)) (fun K => pvv prog (Instr.sliceAt 9 t_31 (some t_32) (some t_35) none) w K) w fun t_36 w =>
        gate (some (t_30, true)) (fun K => K substr_p1 w) w fun t_37 w =>
        gate (some (t_30, true)) (fun K => pvv prog (oEq .eql 9 (.tmp 90) (.tmp 91) t_36 t_37) w K) w fun t_38 w =>
        pv prog (oPick t_30 t_38 (.bool false)) w fun t_39 w =>
        cd t_39 (
          K i_27 w) <|
        pvv prog (binOp .add 3 i_27 (.int .i64 1)) w fun t_40 w =>
        pvv prog (binOp .add 3 fails_24 (.int .i64 1)) w fun t_41 w =>
        ldv prog (Instr.loadAt 3 (.pointer (some ⟨1, 0, none⟩))) w fun t_42 w =>
        pvv prog (binOp .leq 3 t_0 t_42) w fun t_43 w =>
        gate (some (t_43, true)) (fun K => K t_41 w) w fun t_44 w =>
        gate (some (t_43, true)) (fun K => K t_40 w) w fun t_45 w =>
        gate (some (t_43, true)) (fun K => Calls prog 92 #[t_45] w (Ret K)) w fun t_46 w =>
        gate (some (t_43, true)) (fun K => pvv prog (binOp .gtr 3 t_44 t_46) w K) w fun t_47 w =>
        pv prog (oPick t_43 t_47 (.bool false)) w fun t_48 w =>
        cd t_48 (
          pvv prog (Instr.sliceAt 9 s_p0 (some t_40) none none) w fun t_49 w =>
          ef prog (oCall (.func (.func 91) #[] #[]) #[t_49, substr_p1]) w fun t_50 w =>
          pvv prog (binOp .geq 3 t_50 (.int .i64 0)) w fun t_51 w =>
          cd t_51 (
            pvv prog (binOp .add 3 t_50 t_40) w fun t_52 w =>
            K t_52 w) <|
          K (.int .i64 (-1)) w) <|
        ldv prog (Instr.loadAt 3 (.pointer (some ⟨1, 0, none⟩))) w fun t_53 w =>
        pvv prog (binOp .gtr 3 t_0 t_53) w fun t_54 w =>
        gate (some (t_54, true)) (fun K => K t_41 w) w fun t_55 w =>
        gate (some (t_54, true)) (fun K => K t_40 w) w fun t_56 w =>
        gate (some (t_54, true)) (fun K => pvv prog (binOp .shr 3 t_56 (.int .u64 4)) w K) w fun t_57 w =>
        gate (some (t_54, true)) (fun K => pvv prog (binOp .add 3 (.int .i64 4) t_57) w K) w fun t_58 w =>
        gate (some (t_54, true)) (fun K => pvv prog (binOp .geq 3 t_55 t_58) w K) w fun t_59 w =>
        pv prog (oPick t_54 t_59 (.bool false)) w fun t_60 w =>
        gate (some (t_60, true)) (fun K => K t_40 w) w fun t_61 w =>
        gate (some (t_60, true)) (fun K => K t_22 w) w fun t_62 w =>
        gate (some (t_60, true)) (fun K => pvv prog (binOp .lss 3 t_61 t_62) w K) w fun t_63 w =>
        pv prog (oPick t_60 t_63 (.bool false)) w fun t_64 w =>
        cd t_64 (
          pvv prog (Instr.sliceAt 9 s_p0 (some t_40) none none) w fun t_65 w =>
          Calls prog 93 #[t_65, substr_p1] w (Ret fun t_66 w =>
          pvv prog (binOp .lss 3 t_66 (.int .i64 0)) w fun t_67 w =>
          cd t_67 (
            K (.int .i64 (-1)) w) <|
          pvv prog (binOp .add 3 t_40 t_66) w fun t_68 w =>
          K t_68 w)) <|
        again_25 [t_40, t_41] w) fun k_69 =>
      pvv prog (Instr.index 9 s_p0 i_23) w fun t_70 w =>
      pvv prog (oEq .neq 5 (.tmp 62) (.tmp 63) t_70 t_18) w fun t_71 w =>
      cd t_71 (
        pvv prog (binOp .add 3 i_23 (.int .i64 1)) w fun t_72 w =>
        pvv prog (Instr.sliceAt 9 s_p0 (some t_72) (some t_22) none) w fun t_73 w =>
        Calls prog 90 #[t_73, t_18] w (Ret fun t_74 w =>
        pvv prog (binOp .lss 3 t_74 (.int .i64 0)) w fun t_75 w =>
        cd t_75 (
          K (.int .i64 (-1)) w) <|
        pvv prog (binOp .add 3 t_74 (.int .i64 1)) w fun t_76 w =>
        pvv prog (binOp .add 3 i_23 t_76) w fun t_77 w =>
        k_69 [t_77] w)) <|
      k_69 [i_23] w) <|
    K (.int .i64 (-1)) w) [(.int .i64 0), (.int .i64 0)] w
theorem B76_eq (s_p0 substr_p1 : Value) (w : World) (K : Value → World → Prop) : denFn prog Tryd.f76 T76 [s_p0, substr_p1] w K = B76 s_p0 substr_p1 w K := by kernel_rfl
theorem c76 {s_p0 substr_p1 : Value} {w : World} {K : Value → World → Prop} (h : B76 s_p0 substr_p1 w K) : Calls prog 76 #[s_p0, substr_p1] w (Ret K) :=
  denFn_calls Tryd.func76 T76_ok (Eq.mpr (B76_eq s_p0 substr_p1 w K) h)

-- 61 internal/strconv.formatBits
def T61 : Ann := (.seq .none (.meet 1073217536 [] (.seq .none (.seq .none .none)) (.seq .none (.seq .none (.meet 7516192770 [1] (.seq .none (.seq .none .none)) (.meet 618970019642690128860143618 [13] (.seq .none (.seq (.seq .none (.seq .none (.seq .none (.seq (.block (.loop 288212783965675522 [1, 13] (.seq (.seq .none (.seq .none .none)) (.block (.seq .none (.seq .none .none)))))) (.seq .none .none))))) (.seq .none (.seq (.block (.loop 9671332769940738559713282 [1, 13] (.seq (.seq .none (.seq .none .none)) (.block (.seq .none (.seq .none (.seq .none .none))))))) (.seq .none .none))))) (.meet 19188070608923394260936433664 [13] (.seq .none (.seq (.seq .none .none) .none)) (.seq (.seq .none (.seq (.seq .none .none) .none)) (.seq .none .none)))))))))
theorem T61_ok : chkFn prog Tryd.f61 T61 = true := by kernel_rfl
def B61 (dst_p0 u_p1 base_p2 neg_p3 append__p4 : Value) (w : World) (K : Value → World → Prop) : Prop :=
  jn (fun σ w => fin σ <|
    efv prog (Instr.alloc 97 true (.tuple #[])) w fun a_0 w =>
    jn (fun σ w => pop σ fun u_1 σ => fin σ <|
      jn (fun σ w => pop σ fun i_2 σ => fin σ <|
        jn (fun σ w => pop σ fun i_3 σ => fin σ <|
          cd append__p4 (
            pvv prog (Instr.sliceAt 97 a_0 (some i_3) none none) w fun t_4 w =>
            ef prog (oBi .append #[23, 23] 23 #[false, false] #[dst_p0, t_4]) w fun t_5 w =>
            K (.tuple #[t_5, (.string ⟨#[]⟩)]) w) <|
          pvv prog (Instr.sliceAt 97 a_0 (some i_3) none none) w fun t_6 w =>
          efv prog (convert 23 9 t_6) w fun t_7 w =>
          K (.tuple #[(.slice none 0 0), t_7]) w) fun k_8 =>
        cd neg_p3 (
          pvv prog (binOp .sub 3 i_2 (.int .i64 1)) w fun t_9 w =>
          pvv prog (Instr.indexAt 97 a_0 t_9) w fun t_10 w =>
          efu prog (Instr.storeAt 5 t_10 (.int .u8 45)) w fun u_11 w =>
          k_8 [t_9] w) <|
        k_8 [i_2] w) fun k_12 =>
      Calls prog 81 #[base_p2] w (Ret fun t_13 w =>
      cd t_13 (
        pvv prog (convert 3 85 base_p2) w fun t_14 w =>
        Calls prog 82 #[t_14] w (Ret fun t_15 w =>
        pvv prog (convert 3 85 t_15) w fun t_16 w =>
        pvv prog (convert 3 49 base_p2) w fun t_17 w =>
        pvv prog (convert 3 85 base_p2) w fun t_18 w =>
        pvv prog (binOp .sub 85 t_18 (.int .u64 1)) w fun t_19 w =>
        lp (fun σ w again_22 => pop σ fun u_20 σ => pop σ fun i_21 σ => fin σ <|
          pvv prog (binOp .geq 49 u_20 t_17) w fun t_23 w =>
          cd t_23 (
            pvv prog (binOp .sub 3 i_21 (.int .i64 1)) w fun t_24 w =>
            pvv prog (binOp .and 85 u_20 t_19) w fun t_25 w =>
            pvv prog (Instr.index 9 (.string ⟨#[48, 49, 50, 51, 52, 53, 54, 55, 56, 57, 97, 98, 99, 100, 101, 102, 103, 104, 105, 106, 107, 108, 109, 110, 111, 112, 113, 114, 115, 116, 117, 118, 119, 120, 121, 122]⟩) t_25) w fun t_26 w =>
            pvv prog (Instr.indexAt 97 a_0 t_24) w fun t_27 w =>
            efu prog (Instr.storeAt 5 t_27 t_26) w fun u_28 w =>
            pvv prog (binOp .shr 49 u_20 t_16) w fun t_29 w =>
            again_22 [t_29, t_24] w) <|
          pvv prog (binOp .sub 3 i_21 (.int .i64 1)) w fun t_30 w =>
          pvv prog (Instr.index 9 (.string ⟨#[48, 49, 50, 51, 52, 53, 54, 55, 56, 57, 97, 98, 99, 100, 101, 102, 103, 104, 105, 106, 107, 108, 109, 110, 111, 112, 113, 114, 115, 116, 117, 118, 119, 120, 121, 122]⟩) u_20) w fun t_31 w =>
          pvv prog (Instr.indexAt 97 a_0 t_30) w fun t_32 w =>
          efu prog (Instr.storeAt 5 t_32 t_31) w fun u_33 w =>
          k_12 [t_30] w) [u_1, (.int .i64 65)] w)) <|
      pvv prog (convert 3 49 base_p2) w fun t_34 w =>
      lp (fun σ w again_37 => pop σ fun u_35 σ => pop σ fun i_36 σ => fin σ <|
        pvv prog (binOp .geq 49 u_35 t_34) w fun t_38 w =>
        cd t_38 (
          pvv prog (binOp .sub 3 i_36 (.int .i64 1)) w fun t_39 w =>
          pvv prog (binOp .quo 49 u_35 t_34) w fun t_40 w =>
          pvv prog (binOp .mul 49 t_40 t_34) w fun t_41 w =>
          pvv prog (binOp .sub 49 u_35 t_41) w fun t_42 w =>
          pvv prog (Instr.index 9 (.string ⟨#[48, 49, 50, 51, 52, 53, 54, 55, 56, 57, 97, 98, 99, 100, 101, 102, 103, 104, 105, 106, 107, 108, 109, 110, 111, 112, 113, 114, 115, 116, 117, 118, 119, 120, 121, 122]⟩) t_42) w fun t_43 w =>
          pvv prog (Instr.indexAt 97 a_0 t_39) w fun t_44 w =>
          efu prog (Instr.storeAt 5 t_44 t_43) w fun u_45 w =>
          again_37 [t_40, t_39] w) <|
        pvv prog (binOp .sub 3 i_36 (.int .i64 1)) w fun t_46 w =>
        pvv prog (Instr.index 9 (.string ⟨#[48, 49, 50, 51, 52, 53, 54, 55, 56, 57, 97, 98, 99, 100, 101, 102, 103, 104, 105, 106, 107, 108, 109, 110, 111, 112, 113, 114, 115, 116, 117, 118, 119, 120, 121, 122]⟩) u_35) w fun t_47 w =>
        pvv prog (Instr.indexAt 97 a_0 t_46) w fun t_48 w =>
        efu prog (Instr.storeAt 5 t_48 t_47) w fun u_49 w =>
        k_12 [t_46] w) [u_1, (.int .i64 65)] w)) fun k_50 =>
    cd neg_p3 (
      pvv prog (Op.unary .neg u_p1) w fun t_51 w =>
      k_50 [t_51] w) <|
    k_50 [u_p1] w) fun k_52 =>
  pvv prog (binOp .lss 3 base_p2 (.int .i64 2)) w fun t_53 w =>
  gate (some (t_53, false)) (fun K => K base_p2 w) w fun t_54 w =>
  gate (some (t_53, false)) (fun K => pvv prog (oEq .eql 3 (.tmp 22) (.const (.int .i64 10)) t_54 (.int .i64 10)) w K) w fun t_55 w =>
  pv prog (oPick t_53 (.bool true) t_55) w fun t_56 w =>
  gate (some (t_56, false)) (fun K => K base_p2 w) w fun t_57 w =>
  gate (some (t_56, false)) (fun K => pvv prog (binOp .gtr 3 t_57 (.int .i64 36)) w K) w fun t_58 w =>
  pv prog (oPick t_56 (.bool true) t_58) w fun t_59 w =>
  cd t_59 (
    pvv prog (Instr.makeInterface 9 (.string ⟨#[115, 116, 114, 99, 111, 110, 118, 58, 32, 105, 108, 108, 101, 103, 97, 108, 32, 65, 112, 112, 101, 110, 100, 73, 110, 116, 47, 70, 111, 114, 109, 97, 116, 73, 110, 116, 32, 98, 97, 115, 101]⟩)) w fun t_60 w =>
    efv prog (Instr.panic t_60) w fun u_61 w =>
    k_52 [] w) <|
  k_52 [] w
theorem B61_eq (dst_p0 u_p1 base_p2 neg_p3 append__p4 : Value) (w : World) (K : Value → World → Prop) : denFn prog Tryd.f61 T61 [dst_p0, u_p1, base_p2, neg_p3, append__p4] w K = B61 dst_p0 u_p1 base_p2 neg_p3 append__p4 w K := by kernel_rfl
theorem c61 {dst_p0 u_p1 base_p2 neg_p3 append__p4 : Value} {w : World} {K : Value → World → Prop} (h : B61 dst_p0 u_p1 base_p2 neg_p3 append__p4 w K) : Calls prog 61 #[dst_p0, u_p1, base_p2, neg_p3, append__p4] w (Ret K) :=
  denFn_calls Tryd.func61 T61_ok (Eq.mpr (B61_eq dst_p0 u_p1 base_p2 neg_p3 append__p4 w K) h)

-- 27 holdfast/holdfastref02.Parts
def T27 : Ann := (.seq .none (.seq (.seq .none (.seq (.seq .none .none) .none)) (.seq .none (.seq .none (.seq .none (.seq (.seq .none (.block (.loop 9223372036854774012 [4, 5, 6, 7] (.seq (.seq .none (.seq .none .none)) (.meet 9223372036854644988 [4, 5, 6, 7] (.block (.seq (.seq .none (.seq (.seq .none (.seq .none .none)) .none)) (.seq .none (.block (.seq .none (.seq (.seq .none .none) (.seq .none (.seq (.seq .none (.seq .none .none)) (.seq .none .none))))))))) .none))))) (.seq (.seq .none (.seq (.seq .none .none) .none)) (.seq .none .none))))))))
theorem T27_ok : chkFn prog Tryd.f27 T27 = true := by kernel_rfl
def B27 (key_p0 : Value) (w : World) (K : Value → World → Prop) : Prop :=
  pv prog (oBi .len #[23] 3 #[false] #[key_p0]) w fun t_0 w =>
  pvv prog (binOp .gtr 3 t_0 (.int .i64 64)) w fun t_1 w =>
  cd t_1 (
    K (.tuple #[(.slice none 0 0), (.int .i64 6)]) w) <|
  lp (fun σ w again_6 => pop σ fun out_2 σ => pop σ fun part_3 σ => pop σ fun open_4 σ => pop σ fun i_5 σ => fin σ <|
    pv prog (oBi .len #[23] 3 #[false] #[key_p0]) w fun t_7 w =>
    pvv prog (binOp .lss 3 i_5 t_7) w fun t_8 w =>
    cd t_8 (
      jn (fun σ w => pop σ fun out_9 σ => pop σ fun part_10 σ => pop σ fun open_11 σ => pop σ fun i_12 σ => fin σ <|
        pvv prog (binOp .add 3 i_12 (.int .i64 1)) w fun t_13 w =>
        again_6 [out_9, part_10, open_11, t_13] w) fun k_14 =>
      pvv prog (Instr.indexAt 23 key_p0 i_5) w fun t_15 w =>
      ldv prog (Instr.loadAt 5 t_15) w fun t_16 w =>
      pvv prog (oEq .neq 5 (.tmp 20) (.const (.int .u8 0)) t_16 (.int .u8 0)) w fun t_17 w =>
      cd t_17 (
        pvv prog (Instr.indexAt 23 key_p0 i_5) w fun t_18 w =>
        ldv prog (Instr.loadAt 5 t_18) w fun t_19 w =>
        efv prog (Instr.buildSlice 23 1 #[(0, t_19)]) w fun t_20 w =>
        ef prog (oBi .append #[23, 23] 23 #[false, false] #[part_3, t_20]) w fun t_21 w =>
        k_14 [out_2, t_21, (.bool true), i_5] w) <|
      pvv prog (binOp .add 3 i_5 (.int .i64 1)) w fun t_22 w =>
      pv prog (oBi .len #[23] 3 #[false] #[key_p0]) w fun t_23 w =>
      pvv prog (binOp .lss 3 t_22 t_23) w fun t_24 w =>
      gate (some (t_24, true)) (fun K => K key_p0 w) w fun t_25 w =>
      gate (some (t_24, true)) (fun K => K t_22 w) w fun t_26 w =>
      gate (some (t_24, true)) (fun K => pvv prog (Instr.indexAt 23 t_25 t_26) w K) w fun t_27 w =>
      gate (some (t_24, true)) (fun K => ldv prog (Instr.loadAt 5 t_27) w K) w fun t_28 w =>
      gate (some (t_24, true)) (fun K => pvv prog (oEq .eql 5 (.tmp 40) (.const (.int .u8 255)) t_28 (.int .u8 255)) w K) w fun t_29 w =>
      pv prog (oPick t_24 t_29 (.bool false)) w fun t_30 w =>
      cd t_30 (
        efv prog (Instr.buildSlice 23 1 #[(0, (.int .u8 0))]) w fun t_31 w =>
        ef prog (oBi .append #[23, 23] 23 #[false, false] #[part_3, t_31]) w fun t_32 w =>
        k_14 [out_2, t_32, (.bool true), t_22] w) <|
      pv prog (oBi .len #[23] 3 #[false] #[key_p0]) w fun t_33 w =>
      pvv prog (binOp .lss 3 t_22 t_33) w fun t_34 w =>
      gate (some (t_34, true)) (fun K => K key_p0 w) w fun t_35 w =>
      gate (some (t_34, true)) (fun K => K t_22 w) w fun t_36 w =>
      gate (some (t_34, true)) (fun K => pvv prog (Instr.indexAt 23 t_35 t_36) w K) w fun t_37 w =>
      gate (some (t_34, true)) (fun K => ldv prog (Instr.loadAt 5 t_37) w K) w fun t_38 w =>
      gate (some (t_34, true)) (fun K => pvv prog (oEq .eql 5 (.tmp 55) (.const (.int .u8 1)) t_38 (.int .u8 1)) w K) w fun t_39 w =>
      pv prog (oPick t_34 t_39 (.bool false)) w fun t_40 w =>
      cd t_40 (
        efv prog (convert 23 9 part_3) w fun t_41 w =>
        efv prog (Instr.buildSlice 22 1 #[(0, t_41)]) w fun t_42 w =>
        ef prog (oBi .append #[22, 22] 22 #[false, false] #[out_2, t_42]) w fun t_43 w =>
        k_14 [t_43, (.slice none 0 0), (.bool false), t_22] w) <|
      K (.tuple #[(.slice none 0 0), (.int .i64 3)]) w) <|
    gate (some (open_4, false)) (fun K => K out_2 w) w fun t_44 w =>
    gate (some (open_4, false)) (fun K => pv prog (oBi .len #[22] 3 #[false] #[t_44]) w K) w fun t_45 w =>
    gate (some (open_4, false)) (fun K => pvv prog (binOp .lss 3 t_45 (.int .i64 1)) w K) w fun t_46 w =>
    pv prog (oPick open_4 (.bool true) t_46) w fun t_47 w =>
    gate (some (t_47, false)) (fun K => K out_2 w) w fun t_48 w =>
    gate (some (t_47, false)) (fun K => pv prog (oBi .len #[22] 3 #[false] #[t_48]) w K) w fun t_49 w =>
    gate (some (t_47, false)) (fun K => pvv prog (binOp .gtr 3 t_49 (.int .i64 8)) w K) w fun t_50 w =>
    pv prog (oPick t_47 (.bool true) t_50) w fun t_51 w =>
    cd t_51 (
      K (.tuple #[(.slice none 0 0), (.int .i64 3)]) w) <|
    K (.tuple #[out_2, (.int .i64 0)]) w) [(.slice none 0 0), (.slice none 0 0), (.bool false), (.int .i64 0)] w
theorem B27_eq (key_p0 : Value) (w : World) (K : Value → World → Prop) : denFn prog Tryd.f27 T27 [key_p0] w K = B27 key_p0 w K := by kernel_rfl
theorem c27 {key_p0 : Value} {w : World} {K : Value → World → Prop} (h : B27 key_p0 w K) : Calls prog 27 #[key_p0] w (Ret K) :=
  denFn_calls Tryd.func27 T27_ok (Eq.mpr (B27_eq key_p0 w K) h)

-- 23 holdfast/holdfastref02.Columns
def T23 : Ann := (.seq .none (.seq (.seq .none (.seq (.seq .none .none) .none)) (.seq (.seq .none (.seq (.seq .none .none) .none)) (.seq .none (.seq .none (.seq (.seq .none (.block (.loop 9444732965739289379068 [4, 5, 6] (.seq (.seq .none (.seq .none .none)) (.seq (.block (.seq (.seq .none (.seq (.seq .none .none) .none)) (.seq .none (.seq .none .none)))) .none))))) (.seq (.seq .none (.seq (.seq .none .none) .none)) (.seq .none .none))))))))
theorem T23_ok : chkFn prog Tryd.f23 T23 = true := by kernel_rfl
def B23 (b_p0 : Value) (w : World) (K : Value → World → Prop) : Prop :=
  pv prog (oBi .len #[23] 3 #[false] #[b_p0]) w fun t_0 w =>
  pvv prog (binOp .gtr 3 t_0 (.int .i64 72)) w fun t_1 w =>
  cd t_1 (
    K (.tuple #[(.slice none 0 0), (.int .i64 6)]) w) <|
  pv prog (oBi .len #[23] 3 #[false] #[b_p0]) w fun t_2 w =>
  pvv prog (binOp .lss 3 t_2 (.int .i64 1)) w fun t_3 w =>
  gate (some (t_3, false)) (fun K => K b_p0 w) w fun t_4 w =>
  gate (some (t_3, false)) (fun K => pvv prog (Instr.indexAt 23 t_4 (.int .i64 0)) w K) w fun t_5 w =>
  gate (some (t_3, false)) (fun K => ldv prog (Instr.loadAt 5 t_5) w K) w fun t_6 w =>
  gate (some (t_3, false)) (fun K => pvv prog (binOp .gtr 5 t_6 (.int .u8 8)) w K) w fun t_7 w =>
  pv prog (oPick t_3 (.bool true) t_7) w fun t_8 w =>
  cd t_8 (
    K (.tuple #[(.slice none 0 0), (.int .i64 3)]) w) <|
  lp (fun σ w again_12 => pop σ fun out_9 σ => pop σ fun at_10 σ => pop σ fun i_11 σ => fin σ <|
    pvv prog (Instr.indexAt 23 b_p0 (.int .i64 0)) w fun t_13 w =>
    ldv prog (Instr.loadAt 5 t_13) w fun t_14 w =>
    pvv prog (convert 5 3 t_14) w fun t_15 w =>
    pvv prog (binOp .lss 3 i_11 t_15) w fun t_16 w =>
    cd t_16 (
      pv prog (oBi .len #[23] 3 #[false] #[b_p0]) w fun t_17 w =>
      pvv prog (binOp .geq 3 at_10 t_17) w fun t_18 w =>
      gate (some (t_18, false)) (fun K => K b_p0 w) w fun t_19 w =>
      gate (some (t_18, false)) (fun K => K at_10 w) w fun t_20 w =>
      gate (some (t_18, false)) (fun K => pvv prog (Instr.indexAt 23 t_19 t_20) w K) w fun t_21 w =>
      gate (some (t_18, false)) (fun K => ldv prog (Instr.loadAt 5 t_21) w K) w fun t_22 w =>
      gate (some (t_18, false)) (fun K => pvv prog (binOp .gtr 5 t_22 (.int .u8 70)) w K) w fun t_23 w =>
      pv prog (oPick t_18 (.bool true) t_23) w fun t_24 w =>
      gate (some (t_24, false)) (fun K => K at_10 w) w fun t_25 w =>
      gate (some (t_24, false)) (fun K => pvv prog (binOp .add 3 t_25 (.int .i64 1)) w K) w fun t_26 w =>
      gate (some (t_24, false)) (fun K => K b_p0 w) w fun t_27 w =>
      gate (some (t_24, false)) (fun K => K at_10 w) w fun t_28 w =>
      gate (some (t_24, false)) (fun K => pvv prog (Instr.indexAt 23 t_27 t_28) w K) w fun t_29 w =>
      gate (some (t_24, false)) (fun K => ldv prog (Instr.loadAt 5 t_29) w K) w fun t_30 w =>
      gate (some (t_24, false)) (fun K => pvv prog (convert 5 3 t_30) w K) w fun t_31 w =>
      gate (some (t_24, false)) (fun K => pvv prog (binOp .add 3 t_26 t_31) w K) w fun t_32 w =>
      gate (some (t_24, false)) (fun K => K b_p0 w) w fun t_33 w =>
      gate (some (t_24, false)) (fun K => pv prog (oBi .len #[23] 3 #[false] #[t_33]) w K) w fun t_34 w =>
      gate (some (t_24, false)) (fun K => pvv prog (binOp .gtr 3 t_32 t_34) w K) w fun t_35 w =>
      pv prog (oPick t_24 (.bool true) t_35) w fun t_36 w =>
      cd t_36 (
        K (.tuple #[(.slice none 0 0), (.int .i64 3)]) w) <|
      pvv prog (Instr.indexAt 23 b_p0 at_10) w fun t_37 w =>
      ldv prog (Instr.loadAt 5 t_37) w fun t_38 w =>
      pvv prog (convert 5 3 t_38) w fun t_39 w =>
      pvv prog (binOp .add 3 at_10 (.int .i64 1)) w fun t_40 w =>
      pvv prog (binOp .add 3 at_10 (.int .i64 1)) w fun t_41 w =>
      pvv prog (binOp .add 3 t_41 t_39) w fun t_42 w =>
      pvv prog (Instr.sliceAt 23 b_p0 (some t_40) (some t_42) none) w fun t_43 w =>
      efv prog (convert 23 9 t_43) w fun t_44 w =>
      efv prog (Instr.buildSlice 22 1 #[(0, t_44)]) w fun t_45 w =>
      ef prog (oBi .append #[22, 22] 22 #[false, false] #[out_9, t_45]) w fun t_46 w =>
      pvv prog (binOp .add 3 (.int .i64 1) t_39) w fun t_47 w =>
      pvv prog (binOp .add 3 at_10 t_47) w fun t_48 w =>
      pvv prog (binOp .add 3 i_11 (.int .i64 1)) w fun t_49 w =>
      again_12 [t_46, t_48, t_49] w) <|
    pv prog (oBi .len #[23] 3 #[false] #[b_p0]) w fun t_50 w =>
    pvv prog (oEq .neq 3 (.tmp 73) (.tmp 75) at_10 t_50) w fun t_51 w =>
    cd t_51 (
      K (.tuple #[(.slice none 0 0), (.int .i64 3)]) w) <|
    K (.tuple #[out_9, (.int .i64 0)]) w) [(.slice none 0 0), (.int .i64 1), (.int .i64 0)] w
theorem B23_eq (b_p0 : Value) (w : World) (K : Value → World → Prop) : denFn prog Tryd.f23 T23 [b_p0] w K = B23 b_p0 w K := by kernel_rfl
theorem c23 {b_p0 : Value} {w : World} {K : Value → World → Prop} (h : B23 b_p0 w K) : Calls prog 23 #[b_p0] w (Ret K) :=
  denFn_calls Tryd.func23 T23_ok (Eq.mpr (B23_eq b_p0 w K) h)

-- 93 internal/bytealg.IndexRabinKarp[string]
def T93 : Ann := (.seq .none (.seq .none (.seq .none (.seq .none (.seq (.seq .none (.block (.loop 1073480448 [8, 9] (.seq (.seq .none (.seq .none .none)) (.seq (.block .none) .none))))) (.seq (.seq .none (.seq (.seq .none .none) .none)) (.seq (.seq .none (.block (.loop 2417851639227059326158096 [8, 10] (.seq (.seq .none (.seq .none .none)) (.block (.seq .none (.seq .none (.seq .none (.seq .none (.seq .none (.seq (.seq .none .none) .none))))))))))) (.seq .none .none))))))))
theorem T93_ok : chkFn prog Tryd.f93 T93 = true := by kernel_rfl
def B93 (s_p0 sep_p1 : Value) (w : World) (K : Value → World → Prop) : Prop :=
  Calls prog 100 #[sep_p1] w (Ret fun t_0 w =>
  pvv prog (Instr.extract t_0 0) w fun t_1 w =>
  pvv prog (Instr.extract t_0 1) w fun t_2 w =>
  pv prog (oBi .len #[9] 3 #[false] #[sep_p1]) w fun t_3 w =>
  lp (fun σ w again_6 => pop σ fun h_4 σ => pop σ fun i_5 σ => fin σ <|
    pvv prog (binOp .lss 3 i_5 t_3) w fun t_7 w =>
    cd t_7 (
      pvv prog (binOp .mul 96 h_4 (.int .u32 16777619)) w fun t_8 w =>
      pvv prog (Instr.index 9 s_p0 i_5) w fun t_9 w =>
      pvv prog (convert 5 96 t_9) w fun t_10 w =>
      pvv prog (binOp .add 96 t_8 t_10) w fun t_11 w =>
      pvv prog (binOp .add 3 i_5 (.int .i64 1)) w fun t_12 w =>
      again_6 [t_11, t_12] w) <|
    pvv prog (oEq .eql 96 (.tmp 30) (.tmp 31) h_4 t_1) w fun t_13 w =>
    gate (some (t_13, true)) (fun K => K s_p0 w) w fun t_14 w =>
    gate (some (t_13, true)) (fun K => K t_3 w) w fun t_15 w =>
    gate (some (t_13, true)) (fun K => pvv prog (Instr.sliceAt 9 t_14 none (some t_15) none) w K) w fun t_16 w =>
    gate (some (t_13, true)) (fun K => K sep_p1 w) w fun t_17 w =>
    gate (some (t_13, true)) (fun K => pvv prog (oEq .eql 9 (.tmp 36) (.tmp 37) t_16 t_17) w K) w fun t_18 w =>
    pv prog (oPick t_13 t_18 (.bool false)) w fun t_19 w =>
    cd t_19 (
      K (.int .i64 0) w) <|
    lp (fun σ w again_22 => pop σ fun h_20 σ => pop σ fun i_21 σ => fin σ <|
      pv prog (oBi .len #[9] 3 #[false] #[s_p0]) w fun t_23 w =>
      pvv prog (binOp .lss 3 i_21 t_23) w fun t_24 w =>
      cd t_24 (
        pvv prog (binOp .mul 96 h_20 (.int .u32 16777619)) w fun t_25 w =>
        pvv prog (Instr.index 9 s_p0 i_21) w fun t_26 w =>
        pvv prog (convert 5 96 t_26) w fun t_27 w =>
        pvv prog (binOp .add 96 t_25 t_27) w fun t_28 w =>
        pvv prog (binOp .sub 3 i_21 t_3) w fun t_29 w =>
        pvv prog (Instr.index 9 s_p0 t_29) w fun t_30 w =>
        pvv prog (convert 5 96 t_30) w fun t_31 w =>
        pvv prog (binOp .mul 96 t_2 t_31) w fun t_32 w =>
        pvv prog (binOp .sub 96 t_28 t_32) w fun t_33 w =>
        pvv prog (binOp .add 3 i_21 (.int .i64 1)) w fun t_34 w =>
        pvv prog (oEq .eql 96 (.tmp 65) (.tmp 66) t_33 t_1) w fun t_35 w =>
        gate (some (t_35, true)) (fun K => K s_p0 w) w fun t_36 w =>
        gate (some (t_35, true)) (fun K => K t_34 w) w fun t_37 w =>
        gate (some (t_35, true)) (fun K => K t_3 w) w fun t_38 w =>
        gate (some (t_35, true)) (fun K => pvv prog (binOp .sub 3 t_37 t_38) w K) w fun t_39 w =>
        gate (some (t_35, true)) (fun K => K t_34 w) w fun t_40 w =>
        gate (some (t_35, true)) (fun K => pvv prog (Instr.sliceAt 9 t_36 (some t_39) (some t_40) none) w K) w fun t_41 w =>
        gate (some (t_35, true)) (fun K => K sep_p1 w) w fun t_42 w =>
        gate (some (t_35, true)) (fun K => pvv prog (oEq .eql 9 (.tmp 74) (.tmp 75) t_41 t_42) w K) w fun t_43 w =>
        pv prog (oPick t_35 t_43 (.bool false)) w fun t_44 w =>
        cd t_44 (
          pvv prog (binOp .sub 3 t_34 t_3) w fun t_45 w =>
          K t_45 w) <|
        again_22 [t_33, t_34] w) <|
      K (.int .i64 (-1)) w) [h_4, t_3] w) [(.int .u32 0), (.int .i64 0)] w)
theorem B93_eq (s_p0 sep_p1 : Value) (w : World) (K : Value → World → Prop) : denFn prog Tryd.f93 T93 [s_p0, sep_p1] w K = B93 s_p0 sep_p1 w K := by kernel_rfl
theorem c93 {s_p0 sep_p1 : Value} {w : World} {K : Value → World → Prop} (h : B93 s_p0 sep_p1 w K) : Calls prog 93 #[s_p0, sep_p1] w (Ret K) :=
  denFn_calls Tryd.func93 T93_ok (Eq.mpr (B93_eq s_p0 sep_p1 w K) h)

-- 25 holdfast/holdfastref02.Key
def T25 : Ann := (.seq .none (.seq (.seq .none (.seq (.seq .none .none) .none)) (.seq .none (.seq (.seq .none (.block (.loop 288230376151679100 [4, 5] (.seq (.seq .none (.seq .none .none)) (.seq (.block (.seq (.seq .none (.seq (.seq .none .none) .none)) (.seq (.seq .none (.block (.loop 36028796884746320 [4, 6] (.seq (.seq .none (.seq .none .none)) (.meet 36028728299487248 [4] (.block (.seq .none (.seq .none (.seq .none .none)))) .none))))) .none))) .none))))) (.seq (.seq .none (.seq (.seq .none .none) .none)) (.seq .none .none))))))
theorem T25_ok : chkFn prog Tryd.f25 T25 = true := by kernel_rfl
def B25 (parts_p0 : Value) (w : World) (K : Value → World → Prop) : Prop :=
  pv prog (oBi .len #[22] 3 #[false] #[parts_p0]) w fun t_0 w =>
  pvv prog (binOp .lss 3 t_0 (.int .i64 1)) w fun t_1 w =>
  gate (some (t_1, false)) (fun K => K parts_p0 w) w fun t_2 w =>
  gate (some (t_1, false)) (fun K => pv prog (oBi .len #[22] 3 #[false] #[t_2]) w K) w fun t_3 w =>
  gate (some (t_1, false)) (fun K => pvv prog (binOp .gtr 3 t_3 (.int .i64 8)) w K) w fun t_4 w =>
  pv prog (oPick t_1 (.bool true) t_4) w fun t_5 w =>
  cd t_5 (
    K (.tuple #[(.slice none 0 0), (.int .i64 2)]) w) <|
  lp (fun σ w again_8 => pop σ fun out_6 σ => pop σ fun i_7 σ => fin σ <|
    pv prog (oBi .len #[22] 3 #[false] #[parts_p0]) w fun t_9 w =>
    pvv prog (binOp .lss 3 i_7 t_9) w fun t_10 w =>
    cd t_10 (
      pvv prog (Instr.indexAt 22 parts_p0 i_7) w fun t_11 w =>
      ldv prog (Instr.loadAt 9 t_11) w fun t_12 w =>
      pv prog (oBi .len #[9] 3 #[false] #[t_12]) w fun t_13 w =>
      pvv prog (binOp .gtr 3 t_13 (.int .i64 64)) w fun t_14 w =>
      cd t_14 (
        K (.tuple #[(.slice none 0 0), (.int .i64 6)]) w) <|
      lp (fun σ w again_17 => pop σ fun out_15 σ => pop σ fun k_16 σ => fin σ <|
        pvv prog (Instr.indexAt 22 parts_p0 i_7) w fun t_18 w =>
        ldv prog (Instr.loadAt 9 t_18) w fun t_19 w =>
        pv prog (oBi .len #[9] 3 #[false] #[t_19]) w fun t_20 w =>
        pvv prog (binOp .lss 3 k_16 t_20) w fun t_21 w =>
        cd t_21 (
          jn (fun σ w => pop σ fun out_22 σ => fin σ <|
            pvv prog (binOp .add 3 k_16 (.int .i64 1)) w fun t_23 w =>
            again_17 [out_22, t_23] w) fun k_24 =>
          pvv prog (Instr.indexAt 22 parts_p0 i_7) w fun t_25 w =>
          ldv prog (Instr.loadAt 9 t_25) w fun t_26 w =>
          pvv prog (Instr.index 9 t_26 k_16) w fun t_27 w =>
          efv prog (Instr.buildSlice 23 1 #[(0, t_27)]) w fun t_28 w =>
          ef prog (oBi .append #[23, 23] 23 #[false, false] #[out_15, t_28]) w fun t_29 w =>
          pvv prog (Instr.indexAt 22 parts_p0 i_7) w fun t_30 w =>
          ldv prog (Instr.loadAt 9 t_30) w fun t_31 w =>
          pvv prog (Instr.index 9 t_31 k_16) w fun t_32 w =>
          pvv prog (oEq .eql 5 (.tmp 50) (.const (.int .u8 0)) t_32 (.int .u8 0)) w fun t_33 w =>
          cd t_33 (
            efv prog (Instr.buildSlice 23 1 #[(0, (.int .u8 255))]) w fun t_34 w =>
            ef prog (oBi .append #[23, 23] 23 #[false, false] #[t_29, t_34]) w fun t_35 w =>
            k_24 [t_35] w) <|
          k_24 [t_29] w) <|
        efv prog (Instr.buildSlice 23 2 #[(0, (.int .u8 0)), (1, (.int .u8 1))]) w fun t_36 w =>
        ef prog (oBi .append #[23, 23] 23 #[false, false] #[out_15, t_36]) w fun t_37 w =>
        pvv prog (binOp .add 3 i_7 (.int .i64 1)) w fun t_38 w =>
        again_8 [t_37, t_38] w) [out_6, (.int .i64 0)] w) <|
    pv prog (oBi .len #[23] 3 #[false] #[out_6]) w fun t_39 w =>
    pvv prog (binOp .gtr 3 t_39 (.int .i64 64)) w fun t_40 w =>
    cd t_40 (
      K (.tuple #[(.slice none 0 0), (.int .i64 6)]) w) <|
    K (.tuple #[out_6, (.int .i64 0)]) w) [(.slice none 0 0), (.int .i64 0)] w
theorem B25_eq (parts_p0 : Value) (w : World) (K : Value → World → Prop) : denFn prog Tryd.f25 T25 [parts_p0] w K = B25 parts_p0 w K := by kernel_rfl
theorem c25 {parts_p0 : Value} {w : World} {K : Value → World → Prop} (h : B25 parts_p0 w K) : Calls prog 25 #[parts_p0] w (Ret K) :=
  denFn_calls Tryd.func25 T25_ok (Eq.mpr (B25_eq parts_p0 w K) h)

-- 28 holdfast/codec.ToNumber
def T28 : Ann := (.seq .none (.seq (.seq .none (.seq (.seq .none .none) .none)) (.seq .none (.seq (.seq .none (.seq (.seq .none .none) .none)) (.seq .none (.seq (.seq .none (.seq (.seq .none .none) .none)) (.seq .none .none)))))))
theorem T28_ok : chkFn prog Tryd.f28 T28 = true := by kernel_rfl
def B28 (s_p0 : Value) (w : World) (K : Value → World → Prop) : Prop :=
  pvv prog (oEq .eql 9 (.tmp 7) (.const (.string ⟨#[]⟩)) s_p0 (.string ⟨#[]⟩)) w fun t_0 w =>
  gate (some (t_0, false)) (fun K => K s_p0 w) w fun t_1 w =>
  gate (some (t_0, false)) (fun K => pvv prog (Instr.index 9 t_1 (.int .i64 0)) w K) w fun t_2 w =>
  gate (some (t_0, false)) (fun K => pvv prog (convert 5 3 t_2) w K) w fun t_3 w =>
  gate (some (t_0, false)) (fun K => K s_p0 w) w fun t_4 w =>
  gate (some (t_0, false)) (fun K => pv prog (oBi .len #[9] 3 #[false] #[t_4]) w K) w fun t_5 w =>
  gate (some (t_0, false)) (fun K => pvv prog (binOp .add 3 (.int .i64 97) t_5) w K) w fun t_6 w =>
  gate (some (t_0, false)) (fun K => pvv prog (binOp .sub 3 t_6 (.int .i64 1)) w K) w fun t_7 w =>
  gate (some (t_0, false)) (fun K => pvv prog (oEq .neq 3 (.tmp 12) (.tmp 16) t_3 t_7) w K) w fun t_8 w =>
  pv prog (oPick t_0 (.bool true) t_8) w fun t_9 w =>
  gate (some (t_9, false)) (fun K => K s_p0 w) w fun t_10 w =>
  gate (some (t_9, false)) (fun K => pv prog (oBi .len #[9] 3 #[false] #[t_10]) w K) w fun t_11 w =>
  gate (some (t_9, false)) (fun K => pvv prog (binOp .gtr 3 t_11 (.int .i64 17)) w K) w fun t_12 w =>
  pv prog (oPick t_9 (.bool true) t_12) w fun t_13 w =>
  cd t_13 (
    K (.tuple #[(.int .i64 0), (.int .i64 3)]) w) <|
  pvv prog (Instr.sliceAt 9 s_p0 (some (.int .i64 1)) none none) w fun t_14 w =>
  Calls prog 34 #[t_14, (.string ⟨#[48]⟩)] w (Ret fun t_15 w =>
  gate (some (t_15, false)) (fun K => K t_14 w) w fun t_16 w =>
  gate (some (t_15, false)) (fun K => Calls prog 35 #[t_16, (.string ⟨#[48, 49, 50, 51, 52, 53, 54, 55, 56, 57, 97, 98, 99, 100, 101, 102]⟩)] w (Ret K)) w fun t_17 w =>
  gate (some (t_15, false)) (fun K => pvv prog (oEq .neq 9 (.tmp 30) (.const (.string ⟨#[]⟩)) t_17 (.string ⟨#[]⟩)) w K) w fun t_18 w =>
  pv prog (oPick t_15 (.bool true) t_18) w fun t_19 w =>
  cd t_19 (
    K (.tuple #[(.int .i64 0), (.int .i64 3)]) w) <|
  pvv prog (binOp .add 9 (.string ⟨#[48]⟩) t_14) w fun t_20 w =>
  Calls prog 36 #[t_20, (.int .i64 16), (.int .i64 64)] w (Ret fun t_21 w =>
  pvv prog (Instr.extract t_21 0) w fun t_22 w =>
  pvv prog (Instr.extract t_21 1) w fun t_23 w =>
  pvv prog (oEq .neq 51 (.tmp 39) (.const .nilIface) t_23 .nilIface) w fun t_24 w =>
  gate (some (t_24, false)) (fun K => K t_22 w) w fun t_25 w =>
  gate (some (t_24, false)) (fun K => pvv prog (binOp .gtr 49 t_25 (.int .u64 4611686018427387904)) w K) w fun t_26 w =>
  pv prog (oPick t_24 (.bool true) t_26) w fun t_27 w =>
  cd t_27 (
    K (.tuple #[(.int .i64 0), (.int .i64 2)]) w) <|
  pvv prog (convert 49 3 t_22) w fun t_28 w =>
  K (.tuple #[t_28, (.int .i64 0)]) w))
theorem B28_eq (s_p0 : Value) (w : World) (K : Value → World → Prop) : denFn prog Tryd.f28 T28 [s_p0] w K = B28 s_p0 w K := by kernel_rfl
theorem c28 {s_p0 : Value} {w : World} {K : Value → World → Prop} (h : B28 s_p0 w K) : Calls prog 28 #[s_p0] w (Ret K) :=
  denFn_calls Tryd.func28 T28_ok (Eq.mpr (B28_eq s_p0 w K) h)

-- 39 internal/strconv.FormatInt
def T39 : Ann := (.seq .none (.seq (.seq .none (.seq (.seq (.seq .none (.seq (.seq .none .none) .none)) (.seq .none (.seq .none (.meet 62914624 [6] (.seq .none (.seq .none .none)) (.seq .none (.seq .none (.seq (.seq .none (.seq (.seq .none (.seq .none .none)) .none)) (.seq .none .none)))))))) .none)) (.seq .none (.seq .none .none))))
theorem T39_ok : chkFn prog Tryd.f39 T39 = true := by kernel_rfl
def B39 (i_p0 base_p1 : Value) (w : World) (K : Value → World → Prop) : Prop :=
  pvv prog (oEq .eql 3 (.tmp 10) (.const (.int .i64 10)) base_p1 (.int .i64 10)) w fun t_0 w =>
  cd t_0 (
    pvv prog (binOp .leq 2 (.int .i64 0) i_p0) w fun t_1 w =>
    gate (some (t_1, true)) (fun K => K i_p0 w) w fun t_2 w =>
    gate (some (t_1, true)) (fun K => pvv prog (binOp .lss 2 t_2 (.int .i64 100)) w K) w fun t_3 w =>
    pv prog (oPick t_1 t_3 (.bool false)) w fun t_4 w =>
    cd t_4 (
      Calls prog 58 #[i_p0] w (Ret fun t_5 w =>
      K t_5 w)) <|
    efv prog (Instr.alloc 76 true (.tuple #[])) w fun a_6 w =>
    pvv prog (convert 2 49 i_p0) w fun t_7 w =>
    jn (fun σ w => pop σ fun u_8 σ => fin σ <|
      Calls prog 59 #[u_8] w (Ret fun t_9 w =>
      pvv prog (binOp .add 3 (.int .i64 1) t_9) w fun t_10 w =>
      pvv prog (Instr.sliceAt 76 a_6 (some (.int .i64 1)) (some t_10) none) w fun t_11 w =>
      Calls prog 60 #[t_11, u_8] w (Ret fun t_12 w =>
      pvv prog (binOp .lss 2 i_p0 (.int .i64 0)) w fun t_13 w =>
      cd t_13 (
        pvv prog (Instr.indexAt 76 a_6 (.int .i64 0)) w fun t_14 w =>
        efu prog (Instr.storeAt 5 t_14 (.int .u8 45)) w fun u_15 w =>
        pvv prog (binOp .add 3 (.int .i64 1) t_9) w fun t_16 w =>
        pvv prog (Instr.sliceAt 76 a_6 none (some t_16) none) w fun t_17 w =>
        efv prog (convert 23 9 t_17) w fun t_18 w =>
        K t_18 w) <|
      pvv prog (binOp .add 3 (.int .i64 1) t_9) w fun t_19 w =>
      pvv prog (Instr.sliceAt 76 a_6 (some (.int .i64 1)) (some t_19) none) w fun t_20 w =>
      efv prog (convert 23 9 t_20) w fun t_21 w =>
      K t_21 w))) fun k_22 =>
    pvv prog (binOp .lss 2 i_p0 (.int .i64 0)) w fun t_23 w =>
    cd t_23 (
      pvv prog (Op.unary .neg t_7) w fun t_24 w =>
      k_22 [t_24] w) <|
    k_22 [t_7] w) <|
  pvv prog (convert 2 49 i_p0) w fun t_25 w =>
  pvv prog (binOp .lss 2 i_p0 (.int .i64 0)) w fun t_26 w =>
  Calls prog 61 #[(.slice none 0 0), t_25, base_p1, t_26, (.bool false)] w (Ret fun t_27 w =>
  pvv prog (Instr.extract t_27 0) w fun t_28 w =>
  pvv prog (Instr.extract t_27 1) w fun t_29 w =>
  K t_29 w)
theorem B39_eq (i_p0 base_p1 : Value) (w : World) (K : Value → World → Prop) : denFn prog Tryd.f39 T39 [i_p0, base_p1] w K = B39 i_p0 base_p1 w K := by kernel_rfl
theorem c39 {i_p0 base_p1 : Value} {w : World} {K : Value → World → Prop} (h : B39 i_p0 base_p1 w K) : Calls prog 39 #[i_p0, base_p1] w (Ret K) :=
  denFn_calls Tryd.func39 T39_ok (Eq.mpr (B39_eq i_p0 base_p1 w K) h)

-- 65 unicode/utf8.DecodeLastRuneInString
def T65 : Ann := (.seq .none (.seq .none (.seq (.seq .none (.seq (.seq .none .none) .none)) (.seq .none (.seq .none (.seq (.seq .none (.seq (.seq .none .none) .none)) (.seq .none (.meet 17171480608 [5] (.seq .none (.block (.loop 17146314784 [5] (.seq (.seq .none (.seq .none .none)) (.seq (.block (.seq .none (.seq .none .none))) .none))))) (.meet 51539607584 [5] (.seq .none (.seq .none .none)) (.seq .none (.seq (.seq .none (.seq (.seq .none .none) .none)) (.seq .none .none))))))))))))
theorem T65_ok : chkFn prog Tryd.f65 T65 = true := by kernel_rfl
def B65 (s_p0 : Value) (w : World) (K : Value → World → Prop) : Prop :=
  pv prog (oBi .len #[9] 3 #[false] #[s_p0]) w fun t_0 w =>
  pvv prog (oEq .eql 3 (.tmp 9) (.const (.int .i64 0)) t_0 (.int .i64 0)) w fun t_1 w =>
  cd t_1 (
    K (.tuple #[(.int .i32 65533), (.int .i64 0)]) w) <|
  pvv prog (binOp .sub 3 t_0 (.int .i64 1)) w fun t_2 w =>
  pvv prog (Instr.index 9 s_p0 t_2) w fun t_3 w =>
  pvv prog (convert 5 21 t_3) w fun t_4 w =>
  pvv prog (binOp .lss 21 t_4 (.int .i32 128)) w fun t_5 w =>
  cd t_5 (
    K (.tuple #[t_4, (.int .i64 1)]) w) <|
  pvv prog (binOp .sub 3 t_0 (.int .i64 4)) w fun t_6 w =>
  pv prog (oBi .max #[3, 3] 3 #[false, true] #[t_6, (.int .i64 0)]) w fun t_7 w =>
  jn (fun σ w => pop σ fun start_8 σ => fin σ <|
    jn (fun σ w => pop σ fun start_9 σ => fin σ <|
      pvv prog (Instr.sliceAt 9 s_p0 (some start_9) (some t_0) none) w fun t_10 w =>
      Calls prog 56 #[t_10] w (Ret fun t_11 w =>
      pvv prog (Instr.extract t_11 0) w fun t_12 w =>
      pvv prog (Instr.extract t_11 1) w fun t_13 w =>
      pvv prog (binOp .add 3 start_9 t_13) w fun t_14 w =>
      pvv prog (oEq .neq 3 (.tmp 46) (.tmp 47) t_14 t_0) w fun t_15 w =>
      cd t_15 (
        K (.tuple #[(.int .i32 65533), (.int .i64 1)]) w) <|
      K (.tuple #[t_12, t_13]) w)) fun k_16 =>
    pvv prog (binOp .lss 3 start_8 (.int .i64 0)) w fun t_17 w =>
    cd t_17 (
      k_16 [(.int .i64 0)] w) <|
    k_16 [start_8] w) fun k_18 =>
  pvv prog (binOp .sub 3 t_2 (.int .i64 1)) w fun t_19 w =>
  lp (fun σ w again_21 => pop σ fun start_20 σ => fin σ <|
    pvv prog (binOp .geq 3 start_20 t_7) w fun t_22 w =>
    cd t_22 (
      pvv prog (Instr.index 9 s_p0 start_20) w fun t_23 w =>
      Calls prog 84 #[t_23] w (Ret fun t_24 w =>
      cd t_24 (
        k_18 [start_20] w) <|
      pvv prog (binOp .sub 3 start_20 (.int .i64 1)) w fun t_25 w =>
      again_21 [t_25] w)) <|
    k_18 [start_20] w) [t_19] w
theorem B65_eq (s_p0 : Value) (w : World) (K : Value → World → Prop) : denFn prog Tryd.f65 T65 [s_p0] w K = B65 s_p0 w K := by kernel_rfl
theorem c65 {s_p0 : Value} {w : World} {K : Value → World → Prop} (h : B65 s_p0 w K) : Calls prog 65 #[s_p0] w (Ret K) :=
  denFn_calls Tryd.func65 T65_ok (Eq.mpr (B65_eq s_p0 w K) h)

-- 13 holdfast/holdfastref02.Less
def T13 : Ann := (.seq .none (.seq (.seq .none (.block (.loop 68719476720 [5] (.seq (.seq .none (.seq .none .none)) (.seq (.block (.seq (.draw [.op 0 .pure, .op 1 .pure, .op 2 .pure, .op 4 .pure, .op 5 .pure, .op 6 .pure, .op 3 .load, .op 7 .load, .op 8 .pure]) (.seq (.seq (.draw [.op 0 .pure, .op 1 .pure, .op 2 .pure, .op 4 .pure, .op 5 .pure, .op 6 .pure, .op 3 .load, .op 7 .load, .op 8 .pure, .op 9 .pure]) .none) .none))) .none))))) (.seq .none .none)))
theorem T13_ok : chkFn prog Tryd.f13 T13 = true := by kernel_rfl
def B13 (a_p0 b_p1 : Value) (w : World) (K : Value → World → Prop) : Prop :=
  lp (fun σ w again_1 => pop σ fun i_0 σ => fin σ <|
    pv prog (oBi .len #[23] 3 #[false] #[a_p0]) w fun t_2 w =>
    pvv prog (binOp .lss 3 i_0 t_2) w fun t_3 w =>
    gate (some (t_3, true)) (fun K => K i_0 w) w fun t_4 w =>
    gate (some (t_3, true)) (fun K => K b_p1 w) w fun t_5 w =>
    gate (some (t_3, true)) (fun K => pv prog (oBi .len #[23] 3 #[false] #[t_5]) w K) w fun t_6 w =>
    gate (some (t_3, true)) (fun K => pvv prog (binOp .lss 3 t_4 t_6) w K) w fun t_7 w =>
    pv prog (oPick t_3 t_7 (.bool false)) w fun t_8 w =>
    cd t_8 (
      dr w fun w =>
      pvv prog (Instr.indexAt 23 a_p0 i_0) w fun t_9 w =>
      pvv prog (Instr.indexAt 23 b_p1 i_0) w fun t_10 w =>
      bindS (vN (Instr.loadAt 5 t_9)) fun m_12 => ldv prog (Instr.loadAt 5 t_9) w fun t_11 w =>
      bindS (vN (Instr.loadAt 5 t_10)) fun m_14 => ldv prog (Instr.loadAt 5 t_10) w fun t_13 w =>
      pvv prog (oEq .neq 5 (.tmp 21) (.tmp 25) t_11 t_13) w fun t_15 w =>
      cd t_15 (
        dr w fun w =>
        pvv prog (Instr.indexAt 23 a_p0 i_0) w fun t_16 w =>
        pvv prog (Instr.indexAt 23 b_p1 i_0) w fun t_17 w =>
        bindS (vN (Instr.loadAt 5 t_16)) fun m_19 => ldv prog (Instr.loadAt 5 t_16) w fun t_18 w =>
        bindS (vN (Instr.loadAt 5 t_17)) fun m_21 => ldv prog (Instr.loadAt 5 t_17) w fun t_20 w =>
        pvv prog (binOp .lss 5 t_18 t_20) w fun t_22 w =>
        K t_22 w) <|
      pvv prog (binOp .add 3 i_0 (.int .i64 1)) w fun t_23 w =>
      again_1 [t_23] w) <|
    pv prog (oBi .len #[23] 3 #[false] #[a_p0]) w fun t_24 w =>
    pv prog (oBi .len #[23] 3 #[false] #[b_p1]) w fun t_25 w =>
    pvv prog (binOp .lss 3 t_24 t_25) w fun t_26 w =>
    K t_26 w) [(.int .i64 0)] w
theorem B13_eq (a_p0 b_p1 : Value) (w : World) (K : Value → World → Prop) : denFn prog Tryd.f13 T13 [a_p0, b_p1] w K = B13 a_p0 b_p1 w K := by kernel_rfl
theorem c13 {a_p0 b_p1 : Value} {w : World} {K : Value → World → Prop} (h : B13 a_p0 b_p1 w K) : Calls prog 13 #[a_p0, b_p1] w (Ret K) :=
  denFn_calls Tryd.func13 T13_ok (Eq.mpr (B13_eq a_p0 b_p1 w K) h)

-- 100 internal/bytealg.hashStr[string]
def T100 : Ann := (.seq .none (.seq .none (.seq (.seq .none (.block (.loop 4193840 [4, 5] (.seq (.seq .none (.seq .none .none)) (.seq (.block .none) .none))))) (.seq .none (.seq (.seq .none (.block (.loop 137422176704 [6, 7, 8] (.seq (.seq .none (.seq .none .none)) (.seq (.block (.meet 16911433792 [6] (.seq .none (.seq .none .none)) .none)) .none))))) (.seq .none .none))))))
theorem T100_ok : chkFn prog Tryd.f100 T100 = true := by kernel_rfl
def B100 (sep_p0 : Value) (w : World) (K : Value → World → Prop) : Prop :=
  lp (fun σ w again_2 => pop σ fun hash_0 σ => pop σ fun i_1 σ => fin σ <|
    pv prog (oBi .len #[9] 3 #[false] #[sep_p0]) w fun t_3 w =>
    pvv prog (binOp .lss 3 i_1 t_3) w fun t_4 w =>
    cd t_4 (
      pvv prog (binOp .mul 96 hash_0 (.int .u32 16777619)) w fun t_5 w =>
      pvv prog (Instr.index 9 sep_p0 i_1) w fun t_6 w =>
      pvv prog (convert 5 96 t_6) w fun t_7 w =>
      pvv prog (binOp .add 96 t_5 t_7) w fun t_8 w =>
      pvv prog (binOp .add 3 i_1 (.int .i64 1)) w fun t_9 w =>
      again_2 [t_8, t_9] w) <|
    pv prog (oBi .len #[9] 3 #[false] #[sep_p0]) w fun t_10 w =>
    lp (fun σ w again_14 => pop σ fun pow_11 σ => pop σ fun sq_12 σ => pop σ fun i_13 σ => fin σ <|
      pvv prog (binOp .gtr 3 i_13 (.int .i64 0)) w fun t_15 w =>
      cd t_15 (
        jn (fun σ w => pop σ fun pow_16 σ => fin σ <|
          pvv prog (binOp .mul 96 sq_12 sq_12) w fun t_17 w =>
          pvv prog (binOp .shr 3 i_13 (.int .u64 1)) w fun t_18 w =>
          again_14 [pow_16, t_17, t_18] w) fun k_19 =>
        pvv prog (binOp .and 3 i_13 (.int .i64 1)) w fun t_20 w =>
        pvv prog (oEq .neq 3 (.tmp 29) (.const (.int .i64 0)) t_20 (.int .i64 0)) w fun t_21 w =>
        cd t_21 (
          pvv prog (binOp .mul 96 pow_11 sq_12) w fun t_22 w =>
          k_19 [t_22] w) <|
        k_19 [pow_11] w) <|
      K (.tuple #[hash_0, pow_11]) w) [(.int .u32 1), (.int .u32 16777619), t_10] w) [(.int .u32 0), (.int .i64 0)] w
theorem B100_eq (sep_p0 : Value) (w : World) (K : Value → World → Prop) : denFn prog Tryd.f100 T100 [sep_p0] w K = B100 sep_p0 w K := by kernel_rfl
theorem c100 {sep_p0 : Value} {w : World} {K : Value → World → Prop} (h : B100 sep_p0 w K) : Calls prog 100 #[sep_p0] w (Ret K) :=
  denFn_calls Tryd.func100 T100_ok (Eq.mpr (B100_eq sep_p0 w K) h)

-- 83 strings.IndexRune
def T83 : Ann := (.seq .none (.block (.seq .none (.seq (.seq .none .none) (.seq .none (.seq (.seq (.seq .none (.block (.loop 12164183355622992813219379528005579144973741782332342384 [] (.seq .none (.seq (.seq .none .none) (.block (.seq .none (.seq .none (.seq (.seq .none .none) .none))))))))) (.seq .none .none)) (.seq .none (.seq (.seq .none .none) .none))))))))
theorem T83_ok : chkFn prog Tryd.f83 T83 = true := by kernel_rfl
def B83 (s_p0 r_p1 : Value) (w : World) (K : Value → World → Prop) : Prop :=
  pvv prog (binOp .leq 21 (.int .i32 0) r_p1) w fun t_0 w =>
  gate (some (t_0, true)) (fun K => K r_p1 w) w fun t_1 w =>
  gate (some (t_0, true)) (fun K => pvv prog (binOp .lss 21 t_1 (.int .i32 128)) w K) w fun t_2 w =>
  pv prog (oPick t_0 t_2 (.bool false)) w fun t_3 w =>
  cd t_3 (
    pvv prog (convert 21 5 r_p1) w fun t_4 w =>
    Calls prog 96 #[s_p0, t_4] w (Ret fun t_5 w =>
    K t_5 w)) <|
  pvv prog (oEq .eql 21 (.tmp 172) (.const (.int .i32 65533)) r_p1 (.int .i32 65533)) w fun t_6 w =>
  cd t_6 (
    efv prog (Instr.range 9 s_p0) w fun t_7 w =>
    lp (fun σ w again_8 => fin σ <|
      efv prog (Instr.next t_7 true 0) w fun t_9 w =>
      pvv prog (Instr.extract t_9 0) w fun t_10 w =>
      cd t_10 (
        pvv prog (Instr.extract t_9 1) w fun t_11 w =>
        pvv prog (Instr.extract t_9 2) w fun t_12 w =>
        pvv prog (oEq .eql 21 (.tmp 180) (.const (.int .i32 65533)) t_12 (.int .i32 65533)) w fun t_13 w =>
        cd t_13 (
          K t_11 w) <|
        again_8 [] w) <|
      K (.int .i64 (-1)) w) [] w) <|
  Calls prog 97 #[r_p1] w (Ret fun t_14 w =>
  pvv prog (Op.unary .not t_14) w fun t_15 w =>
  cd t_15 (
    K (.int .i64 (-1)) w) <|
  False)
theorem B83_eq (s_p0 r_p1 : Value) (w : World) (K : Value → World → Prop) : denFn prog Tryd.f83 T83 [s_p0, r_p1] w K = B83 s_p0 r_p1 w K := by kernel_rfl
theorem c83 {s_p0 r_p1 : Value} {w : World} {K : Value → World → Prop} (h : B83 s_p0 r_p1 w K) : Calls prog 83 #[s_p0, r_p1] w (Ret K) :=
  denFn_calls Tryd.func83 T83_ok (Eq.mpr (B83_eq s_p0 r_p1 w K) h)

-- 52 strings.Count
def T52 : Ann := (.seq .none (.seq (.seq .none (.seq (.seq .none .none) .none)) (.seq (.seq .none (.seq (.seq .none .none) .none)) (.seq .none (.block (.loop 17178820721 [0, 5] (.block (.seq .none (.seq (.seq .none (.seq (.seq .none .none) .none)) (.seq .none .none))))))))))
theorem T52_ok : chkFn prog Tryd.f52 T52 = true := by kernel_rfl
def B52 (s_p0 substr_p1 : Value) (w : World) (K : Value → World → Prop) : Prop :=
  pv prog (oBi .len #[9] 3 #[false] #[substr_p1]) w fun t_0 w =>
  pvv prog (oEq .eql 3 (.tmp 8) (.const (.int .i64 0)) t_0 (.int .i64 0)) w fun t_1 w =>
  cd t_1 (
    Calls prog 72 #[s_p0] w (Ret fun t_2 w =>
    pvv prog (binOp .add 3 t_2 (.int .i64 1)) w fun t_3 w =>
    K t_3 w)) <|
  pv prog (oBi .len #[9] 3 #[false] #[substr_p1]) w fun t_4 w =>
  pvv prog (oEq .eql 3 (.tmp 14) (.const (.int .i64 1)) t_4 (.int .i64 1)) w fun t_5 w =>
  cd t_5 (
    pvv prog (Instr.index 9 substr_p1 (.int .i64 0)) w fun t_6 w =>
    ef prog (oCall (.func (.func 73) #[] #[]) #[s_p0, t_6]) w fun t_7 w =>
    K t_7 w) <|
  lp (fun σ w again_10 => pop σ fun s_8 σ => pop σ fun n_9 σ => fin σ <|
    Calls prog 54 #[s_8, substr_p1] w (Ret fun t_11 w =>
    pvv prog (oEq .eql 3 (.tmp 23) (.const (.int .i64 (-1))) t_11 (.int .i64 (-1))) w fun t_12 w =>
    cd t_12 (
      K n_9 w) <|
    pvv prog (binOp .add 3 n_9 (.int .i64 1)) w fun t_13 w =>
    pv prog (oBi .len #[9] 3 #[false] #[substr_p1]) w fun t_14 w =>
    pvv prog (binOp .add 3 t_11 t_14) w fun t_15 w =>
    pvv prog (Instr.sliceAt 9 s_8 (some t_15) none none) w fun t_16 w =>
    again_10 [t_16, t_13] w)) [s_p0, (.int .i64 0)] w
theorem B52_eq (s_p0 substr_p1 : Value) (w : World) (K : Value → World → Prop) : denFn prog Tryd.f52 T52 [s_p0, substr_p1] w K = B52 s_p0 substr_p1 w K := by kernel_rfl
theorem c52 {s_p0 substr_p1 : Value} {w : World} {K : Value → World → Prop} (h : B52 s_p0 substr_p1 w K) : Calls prog 52 #[s_p0, substr_p1] w (Ret K) :=
  denFn_calls Tryd.func52 T52_ok (Eq.mpr (B52_eq s_p0 substr_p1 w K) h)

-- 16 holdfast/holdfastref01.SameBytes
def T16 : Ann := (.seq .none (.seq (.seq .none (.seq (.seq .none .none) .none)) (.seq (.seq .none (.block (.loop 67106864 [5] (.seq (.seq .none (.seq .none .none)) (.seq (.block (.seq (.draw [.op 0 .pure, .op 1 .pure, .op 2 .pure, .op 4 .pure, .op 5 .pure, .op 6 .pure, .op 3 .load, .op 7 .load, .op 8 .pure]) (.seq (.seq .none .none) .none))) .none))))) (.seq .none .none))))
theorem T16_ok : chkFn prog Tryd.f16 T16 = true := by kernel_rfl
def B16 (a_p0 b_p1 : Value) (w : World) (K : Value → World → Prop) : Prop :=
  pv prog (oBi .len #[23] 3 #[false] #[a_p0]) w fun t_0 w =>
  pv prog (oBi .len #[23] 3 #[false] #[b_p1]) w fun t_1 w =>
  pvv prog (oEq .neq 3 (.tmp 7) (.tmp 9) t_0 t_1) w fun t_2 w =>
  cd t_2 (
    K (.bool false) w) <|
  lp (fun σ w again_4 => pop σ fun i_3 σ => fin σ <|
    pv prog (oBi .len #[23] 3 #[false] #[a_p0]) w fun t_5 w =>
    pvv prog (binOp .lss 3 i_3 t_5) w fun t_6 w =>
    cd t_6 (
      dr w fun w =>
      pvv prog (Instr.indexAt 23 a_p0 i_3) w fun t_7 w =>
      pvv prog (Instr.indexAt 23 b_p1 i_3) w fun t_8 w =>
      bindS (vN (Instr.loadAt 5 t_7)) fun m_10 => ldv prog (Instr.loadAt 5 t_7) w fun t_9 w =>
      bindS (vN (Instr.loadAt 5 t_8)) fun m_12 => ldv prog (Instr.loadAt 5 t_8) w fun t_11 w =>
      pvv prog (oEq .neq 5 (.tmp 20) (.tmp 24) t_9 t_11) w fun t_13 w =>
      cd t_13 (
        K (.bool false) w) <|
      pvv prog (binOp .add 3 i_3 (.int .i64 1)) w fun t_14 w =>
      again_4 [t_14] w) <|
    K (.bool true) w) [(.int .i64 0)] w
theorem B16_eq (a_p0 b_p1 : Value) (w : World) (K : Value → World → Prop) : denFn prog Tryd.f16 T16 [a_p0, b_p1] w K = B16 a_p0 b_p1 w K := by kernel_rfl
theorem c16 {a_p0 b_p1 : Value} {w : World} {K : Value → World → Prop} (h : B16 a_p0 b_p1 w K) : Calls prog 16 #[a_p0, b_p1] w (Ret K) :=
  denFn_calls Tryd.func16 T16_ok (Eq.mpr (B16_eq a_p0 b_p1 w K) h)

-- 44 strings.trimRightByte
def T44 : Ann := (.seq .none (.seq (.block (.loop 4194273 [0] (.seq (.seq .none (.seq .none .none)) (.block .none)))) (.seq .none .none)))
theorem T44_ok : chkFn prog Tryd.f44 T44 = true := by kernel_rfl
def B44 (s_p0 c_p1 : Value) (w : World) (K : Value → World → Prop) : Prop :=
  lp (fun σ w again_1 => pop σ fun s_0 σ => fin σ <|
    pv prog (oBi .len #[9] 3 #[false] #[s_0]) w fun t_2 w =>
    pvv prog (binOp .gtr 3 t_2 (.int .i64 0)) w fun t_3 w =>
    gate (some (t_3, true)) (fun K => K s_0 w) w fun t_4 w =>
    gate (some (t_3, true)) (fun K => K s_0 w) w fun t_5 w =>
    gate (some (t_3, true)) (fun K => pv prog (oBi .len #[9] 3 #[false] #[t_5]) w K) w fun t_6 w =>
    gate (some (t_3, true)) (fun K => pvv prog (binOp .sub 3 t_6 (.int .i64 1)) w K) w fun t_7 w =>
    gate (some (t_3, true)) (fun K => pvv prog (Instr.index 9 t_4 t_7) w K) w fun t_8 w =>
    gate (some (t_3, true)) (fun K => K c_p1 w) w fun t_9 w =>
    gate (some (t_3, true)) (fun K => pvv prog (oEq .eql 5 (.tmp 13) (.tmp 14) t_8 t_9) w K) w fun t_10 w =>
    pv prog (oPick t_3 t_10 (.bool false)) w fun t_11 w =>
    cd t_11 (
      pv prog (oBi .len #[9] 3 #[false] #[s_0]) w fun t_12 w =>
      pvv prog (binOp .sub 3 t_12 (.int .i64 1)) w fun t_13 w =>
      pvv prog (Instr.sliceAt 9 s_0 none (some t_13) none) w fun t_14 w =>
      again_1 [t_14] w) <|
    K s_0 w) [s_p0] w
theorem B44_eq (s_p0 c_p1 : Value) (w : World) (K : Value → World → Prop) : denFn prog Tryd.f44 T44 [s_p0, c_p1] w K = B44 s_p0 c_p1 w K := by kernel_rfl
theorem c44 {s_p0 c_p1 : Value} {w : World} {K : Value → World → Prop} (h : B44 s_p0 c_p1 w K) : Calls prog 44 #[s_p0, c_p1] w (Ret K) :=
  denFn_calls Tryd.func44 T44_ok (Eq.mpr (B44_eq s_p0 c_p1 w K) h)

-- 42 internal/stringslite.HasPrefix
def T42 : Ann := (.seq .none (.seq .none .none))
theorem T42_ok : chkFn prog Tryd.f42 T42 = true := by kernel_rfl
def B42 (s_p0 prefix_p1 : Value) (w : World) (K : Value → World → Prop) : Prop :=
  pv prog (oBi .len #[9] 3 #[false] #[s_p0]) w fun t_0 w =>
  pv prog (oBi .len #[9] 3 #[false] #[prefix_p1]) w fun t_1 w =>
  pvv prog (binOp .geq 3 t_0 t_1) w fun t_2 w =>
  gate (some (t_2, true)) (fun K => K s_p0 w) w fun t_3 w =>
  gate (some (t_2, true)) (fun K => K prefix_p1 w) w fun t_4 w =>
  gate (some (t_2, true)) (fun K => pv prog (oBi .len #[9] 3 #[false] #[t_4]) w K) w fun t_5 w =>
  gate (some (t_2, true)) (fun K => pvv prog (Instr.sliceAt 9 t_3 none (some t_5) none) w K) w fun t_6 w =>
  gate (some (t_2, true)) (fun K => K prefix_p1 w) w fun t_7 w =>
  gate (some (t_2, true)) (fun K => pvv prog (oEq .eql 9 (.tmp 14) (.tmp 15) t_6 t_7) w K) w fun t_8 w =>
  pv prog (oPick t_2 t_8 (.bool false)) w fun t_9 w =>
  K t_9 w
theorem B42_eq (s_p0 prefix_p1 : Value) (w : World) (K : Value → World → Prop) : denFn prog Tryd.f42 T42 [s_p0, prefix_p1] w K = B42 s_p0 prefix_p1 w K := by kernel_rfl
theorem c42 {s_p0 prefix_p1 : Value} {w : World} {K : Value → World → Prop} (h : B42 s_p0 prefix_p1 w K) : Calls prog 42 #[s_p0, prefix_p1] w (Ret K) :=
  denFn_calls Tryd.func42 T42_ok (Eq.mpr (B42_eq s_p0 prefix_p1 w K) h)

-- 85 internal/stringslite.Clone
def T85 : Ann := (.seq .none (.seq (.seq .none (.seq (.seq .none .none) .none)) (.seq .none (.seq .none (.seq .none .none)))))
theorem T85_ok : chkFn prog Tryd.f85 T85 = true := by kernel_rfl
def B85 (s_p0 : Value) (w : World) (K : Value → World → Prop) : Prop :=
  pv prog (oBi .len #[9] 3 #[false] #[s_p0]) w fun t_0 w =>
  pvv prog (oEq .eql 3 (.tmp 5) (.const (.int .i64 0)) t_0 (.int .i64 0)) w fun t_1 w =>
  cd t_1 (
    K (.string ⟨#[]⟩) w) <|
  pv prog (oBi .len #[9] 3 #[false] #[s_p0]) w fun t_2 w =>
  efv prog (Instr.makeSlice 23 t_2 t_2) w fun t_3 w =>
  ef prog (oBi .copy #[23, 9] 3 #[false, false] #[t_3, s_p0]) w fun t_4 w =>
  pvv prog (Instr.indexAt 23 t_3 (.int .i64 0)) w fun t_5 w =>
  pv prog (oBi .len #[23] 3 #[false] #[t_3]) w fun t_6 w =>
  ef prog (oBi .unsafeString #[92, 3] 9 #[false, false] #[t_5, t_6]) w fun t_7 w =>
  K t_7 w
theorem B85_eq (s_p0 : Value) (w : World) (K : Value → World → Prop) : denFn prog Tryd.f85 T85 [s_p0] w K = B85 s_p0 w K := by kernel_rfl
theorem c85 {s_p0 : Value} {w : World} {K : Value → World → Prop} (h : B85 s_p0 w K) : Calls prog 85 #[s_p0] w (Ret K) :=
  denFn_calls Tryd.func85 T85_ok (Eq.mpr (B85_eq s_p0 w K) h)

-- 94 math/bits.TrailingZeros32
def T94 : Ann := (.seq .none (.seq (.seq .none (.seq (.seq .none .none) .none)) (.seq .none .none)))
theorem T94_ok : chkFn prog Tryd.f94 T94 = true := by kernel_rfl
def B94 (x_p0 : Value) (w : World) (K : Value → World → Prop) : Prop :=
  pvv prog (oEq .eql 96 (.tmp 3) (.const (.int .u32 0)) x_p0 (.int .u32 0)) w fun t_0 w =>
  cd t_0 (
    K (.int .i64 32) w) <|
  pvv prog (Op.unary .neg x_p0) w fun t_1 w =>
  pvv prog (binOp .and 96 x_p0 t_1) w fun t_2 w =>
  pvv prog (binOp .mul 96 t_2 (.int .u32 125613361)) w fun t_3 w =>
  pvv prog (binOp .shr 96 t_3 (.int .u64 27)) w fun t_4 w =>
  pvv prog (Instr.indexAt 118 (.pointer (some ⟨6, 0, none⟩)) t_4) w fun t_5 w =>
  ldv prog (Instr.loadAt 5 t_5) w fun t_6 w =>
  pvv prog (convert 5 3 t_6) w fun t_7 w =>
  K t_7 w
theorem B94_eq (x_p0 : Value) (w : World) (K : Value → World → Prop) : denFn prog Tryd.f94 T94 [x_p0] w K = B94 x_p0 w K := by kernel_rfl
theorem c94 {x_p0 : Value} {w : World} {K : Value → World → Prop} (h : B94 x_p0 w K) : Calls prog 94 #[x_p0] w (Ret K) :=
  denFn_calls Tryd.func94 T94_ok (Eq.mpr (B94_eq x_p0 w K) h)

-- 69 strconv.rangeError
def T69 : Ann := (.seq .none (.seq (.draw [.op 0 .pure, .op 1 .pure, .op 3 .load, .op 2 .eff, .op 4 .pure, .op 5 .eff, .op 6 .pure]) .none))
theorem T69_ok : chkFn prog Tryd.f69 T69 = true := by kernel_rfl
def B69 (fn_p0 str_p1 : Value) (w : World) (K : Value → World → Prop) : Prop :=
  dr w fun w =>
  bindS (vN (Instr.loadAt 51 (.pointer (some ⟨3, 0, none⟩)))) fun m_1 => ldv prog (Instr.loadAt 51 (.pointer (some ⟨3, 0, none⟩))) w fun t_0 w =>
  Calls prog 85 #[str_p1] w (Ret fun t_2 w => stay prog none m_1 t_0 w <| 
  pvv prog (Instr.build 102 #[(0, fn_p0), (1, t_2), (2, t_0)]) w fun t_3 w =>
  efv prog (Instr.box 102 t_3) w fun t_4 w => stay prog none m_1 t_0 w <| 
  K t_4 w)
theorem B69_eq (fn_p0 str_p1 : Value) (w : World) (K : Value → World → Prop) : denFn prog Tryd.f69 T69 [fn_p0, str_p1] w K = B69 fn_p0 str_p1 w K := by kernel_rfl
theorem c69 {fn_p0 str_p1 : Value} {w : World} {K : Value → World → Prop} (h : B69 fn_p0 str_p1 w K) : Calls prog 69 #[fn_p0, str_p1] w (Ret K) :=
  denFn_calls Tryd.func69 T69_ok (Eq.mpr (B69_eq fn_p0 str_p1 w K) h)

-- 32 slices.Clone[[]byte,byte]
def T32 : Ann := (.seq .none (.seq (.seq .none (.seq (.seq .none .none) .none)) (.seq .none .none)))
theorem T32_ok : chkFn prog Tryd.f32 T32 = true := by kernel_rfl
def B32 (s_p0 : Value) (w : World) (K : Value → World → Prop) : Prop :=
  pvv prog (oEq .eql 23 (.tmp 3) (.const (.slice none 0 0)) s_p0 (.slice none 0 0)) w fun t_0 w =>
  cd t_0 (
    K (.slice none 0 0) w) <|
  efv prog (Instr.buildSlice 23 0 #[]) w fun t_1 w =>
  ef prog (oBi .append #[23, 23] 23 #[false, false] #[t_1, s_p0]) w fun t_2 w =>
  K t_2 w
theorem B32_eq (s_p0 : Value) (w : World) (K : Value → World → Prop) : denFn prog Tryd.f32 T32 [s_p0] w K = B32 s_p0 w K := by kernel_rfl
theorem c32 {s_p0 : Value} {w : World} {K : Value → World → Prop} (h : B32 s_p0 w K) : Calls prog 32 #[s_p0] w (Ret K) :=
  denFn_calls Tryd.func32 T32_ok (Eq.mpr (B32_eq s_p0 w K) h)

-- 81 internal/strconv.isPowerOfTwo
def T81 : Ann := (.seq .none (.seq .none .none))
theorem T81_ok : chkFn prog Tryd.f81 T81 = true := by kernel_rfl
def B81 (x_p0 : Value) (w : World) (K : Value → World → Prop) : Prop :=
  pvv prog (binOp .sub 3 x_p0 (.int .i64 1)) w fun t_0 w =>
  pvv prog (binOp .and 3 x_p0 t_0) w fun t_1 w =>
  pvv prog (oEq .eql 3 (.tmp 6) (.const (.int .i64 0)) t_1 (.int .i64 0)) w fun t_2 w =>
  K t_2 w
theorem B81_eq (x_p0 : Value) (w : World) (K : Value → World → Prop) : denFn prog Tryd.f81 T81 [x_p0] w K = B81 x_p0 w K := by kernel_rfl
theorem c81 {x_p0 : Value} {w : World} {K : Value → World → Prop} (h : B81 x_p0 w K) : Calls prog 81 #[x_p0] w (Ret K) :=
  denFn_calls Tryd.func81 T81_ok (Eq.mpr (B81_eq x_p0 w K) h)

-- 84 unicode/utf8.RuneStart
def T84 : Ann := (.seq .none (.seq .none .none))
theorem T84_ok : chkFn prog Tryd.f84 T84 = true := by kernel_rfl
def B84 (b_p0 : Value) (w : World) (K : Value → World → Prop) : Prop :=
  pvv prog (binOp .and 5 b_p0 (.int .u8 192)) w fun t_0 w =>
  pvv prog (oEq .neq 5 (.tmp 4) (.const (.int .u8 128)) t_0 (.int .u8 128)) w fun t_1 w =>
  K t_1 w
theorem B84_eq (b_p0 : Value) (w : World) (K : Value → World → Prop) : denFn prog Tryd.f84 T84 [b_p0] w K = B84 b_p0 w K := by kernel_rfl
theorem c84 {b_p0 : Value} {w : World} {K : Value → World → Prop} (h : B84 b_p0 w K) : Calls prog 84 #[b_p0] w (Ret K) :=
  denFn_calls Tryd.func84 T84_ok (Eq.mpr (B84_eq b_p0 w K) h)

-- 33 holdfast/codec.split
def T33 : Ann := (.seq .none (.seq .none .none))
theorem T33_ok : chkFn prog Tryd.f33 T33 = true := by kernel_rfl
def B33 (key_p0 : Value) (w : World) (K : Value → World → Prop) : Prop :=
  efv prog (Instr.box 23 key_p0) w fun key_0 w =>
  pvv prog (Instr.makeFunc (.func 40) #[] #[key_0]) w fun t_1 w =>
  K t_1 w
theorem B33_eq (key_p0 : Value) (w : World) (K : Value → World → Prop) : denFn prog Tryd.f33 T33 [key_p0] w K = B33 key_p0 w K := by kernel_rfl
theorem c33 {key_p0 : Value} {w : World} {K : Value → World → Prop} (h : B33 key_p0 w K) : Calls prog 33 #[key_p0] w (Ret K) :=
  denFn_calls Tryd.func33 T33_ok (Eq.mpr (B33_eq key_p0 w K) h)

-- 90 internal/stringslite.IndexByte
def T90 : Ann := (.seq .none (.seq .none .none))
theorem T90_ok : chkFn prog Tryd.f90 T90 = true := by kernel_rfl
def B90 (s_p0 c_p1 : Value) (w : World) (K : Value → World → Prop) : Prop :=
  ef prog (oCall (.func (.func 99) #[] #[]) #[s_p0, c_p1]) w fun t_0 w =>
  K t_0 w
theorem B90_eq (s_p0 c_p1 : Value) (w : World) (K : Value → World → Prop) : denFn prog Tryd.f90 T90 [s_p0, c_p1] w K = B90 s_p0 c_p1 w K := by kernel_rfl
theorem c90 {s_p0 c_p1 : Value} {w : World} {K : Value → World → Prop} (h : B90 s_p0 c_p1 w K) : Calls prog 90 #[s_p0, c_p1] w (Ret K) :=
  denFn_calls Tryd.func90 T90_ok (Eq.mpr (B90_eq s_p0 c_p1 w K) h)

-- 98 internal/strconv.Itoa
def T98 : Ann := (.seq .none (.seq .none .none))
theorem T98_ok : chkFn prog Tryd.f98 T98 = true := by kernel_rfl
def B98 (i_p0 : Value) (w : World) (K : Value → World → Prop) : Prop :=
  Calls prog 39 #[i_p0, (.int .i64 10)] w (Ret fun t_0 w =>
  K t_0 w)
theorem B98_eq (i_p0 : Value) (w : World) (K : Value → World → Prop) : denFn prog Tryd.f98 T98 [i_p0] w K = B98 i_p0 w K := by kernel_rfl
theorem c98 {i_p0 : Value} {w : World} {K : Value → World → Prop} (h : B98 i_p0 w K) : Calls prog 98 #[i_p0] w (Ret K) :=
  denFn_calls Tryd.func98 T98_ok (Eq.mpr (B98_eq i_p0 w K) h)

-- 66 internal/strconv.lower
def T66 : Ann := (.seq .none (.seq .none .none))
theorem T66_ok : chkFn prog Tryd.f66 T66 = true := by kernel_rfl
def B66 (c_p0 : Value) (w : World) (K : Value → World → Prop) : Prop :=
  pvv prog (binOp .or 5 c_p0 (.int .u8 32)) w fun t_0 w =>
  K t_0 w
theorem B66_eq (c_p0 : Value) (w : World) (K : Value → World → Prop) : denFn prog Tryd.f66 T66 [c_p0] w K = B66 c_p0 w K := by kernel_rfl
theorem c66 {c_p0 : Value} {w : World} {K : Value → World → Prop} (h : B66 c_p0 w K) : Calls prog 66 #[c_p0] w (Ret K) :=
  denFn_calls Tryd.func66 T66_ok (Eq.mpr (B66_eq c_p0 w K) h)


end Go.Proofs.YtnkmgkilfkgfhaaDoor
