import Derived.Test.YtnkmgkilfkgfhaaDoorPI
set_option linter.all false
set_option maxRecDepth 100000
namespace Go.Proofs.YtnkmgkilfkgfhaaDoor
open Go Hold
-- 76 internal/stringslite.Index
def T76 : Ann := (.seq .none (.seq .none (.seq (.block (.seq .none (.seq (.seq .none .none) (.seq .none (.seq (.seq .none .none) (.seq .none (.seq (.seq .none .none) (.seq .none (.seq (.seq .none .none) .none))))))))) (.seq .none (.seq .none (.seq .none (.seq .none (.seq .none (.seq (.block (.loop 11150372599265311570767858992208992677149968 [8, 10] (.seq (.seq .none (.seq .none .none)) (.block (.meet 302230301982152686831888 [8] (.seq .none (.seq (.seq .none (.seq (.seq .none (.seq (.seq .none .none) .none)) .none)) .none)) (.seq (.seq .none (.seq (.seq .none .none) .none)) (.seq .none (.seq .none (.seq .none (.seq (.seq .none (.seq (.seq .none (.seq (.seq .none .none) .none)) (.seq .none .none))) (.seq .none (.seq (.seq .none (.seq (.seq .none (.seq (.seq .none .none) .none)) (.seq .none .none))) .none)))))))))))) (.seq .none .none))))))))))
theorem T76_ok : chkFn prog Tryd.f76 T76 = true := by kernel_rfl
def B76 (s_p0 substr_p1 : Value) (w : World) (K : Value → World → Prop) : Prop :=
  pv prog (oBi .len #[9] 3 #[false] #[substr_p1]) w fun t_0 w =>
  pvv prog (oEq .eql 3 (.tmp 17) (.const (.int .i64 0)) t_0 (.int .i64 0)) w fun t_1 w =>
  gate (some (t_1, false)) (fun K => K substr_p1 w) w fun t_2 w =>
  gate (some (t_1, false)) (fun K => K s_p0 w) w fun t_3 w =>
  gate (some (t_1, false)) (fun K => pvv prog (oEq .eql 9 (.tmp 20) (.tmp 21) t_2 t_3) w K) w fun t_4 w =>
  pv prog (oPick t_1 (.bool true) t_4) w fun t_5 w =>
  cd t_5 (
    K (.int .i64 0) w) <|
  pvv prog (oEq .eql 3 (.tmp 25) (.const (.int .i64 1)) t_0 (.int .i64 1)) w fun t_6 w =>
  cd t_6 (
    pvv prog (Instr.index 9 substr_p1 (.int .i64 0)) w fun t_7 w =>
    Calls prog 90 #[s_p0, t_7] w (Ret fun t_8 w =>
    K t_8 w)) <|
  pv prog (oBi .len #[9] 3 #[false] #[s_p0]) w fun t_9 w =>
  pvv prog (binOp .geq 3 t_0 t_9) w fun t_10 w =>
  cd t_10 (
    K (.int .i64 (-1)) w) <|
  ldv prog (Instr.loadAt 3 (.pointer (some ⟨1, 0, none⟩))) w fun t_11 w =>
  pvv prog (binOp .leq 3 t_0 t_11) w fun t_12 w =>
  gate (some (t_12, true)) (fun K => K s_p0 w) w fun t_13 w =>
  gate (some (t_12, true)) (fun K => pv prog (oBi .len #[9] 3 #[false] #[t_13]) w K) w fun t_14 w =>
  gate (some (t_12, true)) (fun K => pvv prog (binOp .leq 3 t_14 (.int .i64 64)) w K) w fun t_15 w =>
  pv prog (oPick t_12 t_15 (.bool false)) w fun t_16 w =>
  cd t_16 (
    ef prog (oCall (.func (.func 91) #[] #[]) #[s_p0, substr_p1]) w fun t_17 w =>
    K t_17 w) <|
  pvv prog (Instr.index 9 substr_p1 (.int .i64 0)) w fun t_18 w =>
  pvv prog (Instr.index 9 substr_p1 (.int .i64 1)) w fun t_19 w =>
  pv prog (oBi .len #[9] 3 #[false] #[s_p0]) w fun t_20 w =>
  pvv prog (binOp .sub 3 t_20 t_0) w fun t_21 w =>
  pvv prog (binOp .add 3 t_21 (.int .i64 1)) w fun t_22 w =>
  lp (fun σ w again_25 => pop σ fun i_23 σ => pop σ fun fails_24 σ => fin σ <|
    pvv prog (binOp .lss 3 i_23 t_22) w fun t_26 w =>
    cd t_26 (
      jn (fun σ w => pop σ fun i_27 σ => fin σ <|
        pvv prog (binOp .add 3 i_27 (.int .i64 1)) w fun t_28 w =>
        pvv prog (Instr.index 9 s_p0 t_28) w fun t_29 w =>
        pvv prog (oEq .eql 5 (.tmp 81) (.tmp 82) t_29 t_19) w fun t_30 w =>
        gate (some (t_30, true)) (fun K => K s_p0 w) w fun t_31 w =>
        gate (some (t_30, true)) (fun K => K i_27 w) w fun t_32 w =>
        gate (some (t_30, true)) (fun K => K i_27 w) w fun t_33 w =>
        gate (some (t_30, true)) (fun K => K t_0 w) w fun t_34 w =>
        gate (some (t_30, true)) (fun K => pvv prog (binOp .add 3 t_33 t_34) w K) w fun t_35 w =>
        gate (some (t_30, true)) (fun K => pvv prog (Instr.sliceAt 9 t_31 (some t_32) (some t_35) none) w K) w fun t_36 w =>
        gate (some (t_30, true)) (fun K => K substr_p1 w) w fun t_37 w =>
        gate (some (t_30, true)) (fun K => pvv prog (oEq .eql 9 (.tmp 90) (.tmp 91) t_36 t_37) w K) w fun t_38 w =>
        pv prog (oPick t_30 t_38 (.bool false)) w fun t_39 w =>
        cd t_39 (
          K i_27 w) <|
        pvv prog (binOp .add 3 i_27 (.int .i64 1)) w fun t_40 w =>
        pvv prog (binOp .add 3 fails_24 (.int .i64 1)) w fun t_41 w =>
        ldv prog (Instr.loadAt 3 (.pointer (some ⟨1, 0, none⟩))) w fun t_42 w =>
        pvv prog (binOp .leq 3 t_0 t_42) w fun t_43 w =>
        gate (some (t_43, true)) (fun K => K t_41 w) w fun t_44 w =>
        gate (some (t_43, true)) (fun K => K t_40 w) w fun t_45 w =>
        gate (some (t_43, true)) (fun K => Calls prog 92 #[t_45] w (Ret K)) w fun t_46 w =>
        gate (some (t_43, true)) (fun K => pvv prog (binOp .gtr 3 t_44 t_46) w K) w fun t_47 w =>
        pv prog (oPick t_43 t_47 (.bool false)) w fun t_48 w =>
        cd t_48 (
          pvv prog (Instr.sliceAt 9 s_p0 (some t_40) none none) w fun t_49 w =>
          ef prog (oCall (.func (.func 91) #[] #[]) #[t_49, substr_p1]) w fun t_50 w =>
          pvv prog (binOp .geq 3 t_50 (.int .i64 0)) w fun t_51 w =>
          cd t_51 (
            pvv prog (binOp .add 3 t_50 t_40) w fun t_52 w =>
            K t_52 w) <|
          K (.int .i64 (-1)) w) <|
        ldv prog (Instr.loadAt 3 (.pointer (some ⟨1, 0, none⟩))) w fun t_53 w =>
        pvv prog (binOp .gtr 3 t_0 t_53) w fun t_54 w =>
        gate (some (t_54, true)) (fun K => K t_41 w) w fun t_55 w =>
        gate (some (t_54, true)) (fun K => K t_40 w) w fun t_56 w =>
        gate (some (t_54, true)) (fun K => pvv prog (binOp .shr 3 t_56 (.int .u64 4)) w K) w fun t_57 w =>
        gate (some (t_54, true)) (fun K => pvv prog (binOp .add 3 (.int .i64 4) t_57) w K) w fun t_58 w =>
        gate (some (t_54, true)) (fun K => pvv prog (binOp .geq 3 t_55 t_58) w K) w fun t_59 w =>
        pv prog (oPick t_54 t_59 (.bool false)) w fun t_60 w =>
        gate (some (t_60, true)) (fun K => K t_40 w) w fun t_61 w =>
        gate (some (t_60, true)) (fun K => K t_22 w) w fun t_62 w =>
        gate (some (t_60, true)) (fun K => pvv prog (binOp .lss 3 t_61 t_62) w K) w fun t_63 w =>
        pv prog (oPick t_60 t_63 (.bool false)) w fun t_64 w =>
        cd t_64 (
          pvv prog (Instr.sliceAt 9 s_p0 (some t_40) none none) w fun t_65 w =>
          Calls prog 93 #[t_65, substr_p1] w (Ret fun t_66 w =>
          pvv prog (binOp .lss 3 t_66 (.int .i64 0)) w fun t_67 w =>
          cd t_67 (
            K (.int .i64 (-1)) w) <|
          pvv prog (binOp .add 3 t_40 t_66) w fun t_68 w =>
          K t_68 w)) <|
        again_25 [t_40, t_41] w) fun k_69 =>
      pvv prog (Instr.index 9 s_p0 i_23) w fun t_70 w =>
      pvv prog (oEq .neq 5 (.tmp 62) (.tmp 63) t_70 t_18) w fun t_71 w =>
      cd t_71 (
        pvv prog (binOp .add 3 i_23 (.int .i64 1)) w fun t_72 w =>
        pvv prog (Instr.sliceAt 9 s_p0 (some t_72) (some t_22) none) w fun t_73 w =>
        Calls prog 90 #[t_73, t_18] w (Ret fun t_74 w =>
        pvv prog (binOp .lss 3 t_74 (.int .i64 0)) w fun t_75 w =>
        cd t_75 (
          K (.int .i64 (-1)) w) <|
        pvv prog (binOp .add 3 t_74 (.int .i64 1)) w fun t_76 w =>
        pvv prog (binOp .add 3 i_23 t_76) w fun t_77 w =>
        k_69 [t_77] w)) <|
      k_69 [i_23] w) <|
    K (.int .i64 (-1)) w) [(.int .i64 0), (.int .i64 0)] w
theorem B76_eq (s_p0 substr_p1 : Value) (w : World) (K : Value → World → Prop) : denFn prog Tryd.f76 T76 [s_p0, substr_p1] w K = B76 s_p0 substr_p1 w K := by kernel_rfl
theorem c76 {s_p0 substr_p1 : Value} {w : World} {K : Value → World → Prop} (h : B76 s_p0 substr_p1 w K) : Calls prog 76 #[s_p0, substr_p1] w (Ret K) :=
  denFn_calls Tryd.func76 T76_ok (Eq.mpr (B76_eq s_p0 substr_p1 w K) h)

-- 61 internal/strconv.formatBits
def T61 : Ann := (.seq .none (.meet 1073217536 [] (.seq .none (.seq .none .none)) (.seq .none (.seq .none (.meet 7516192770 [1] (.seq .none (.seq .none .none)) (.meet 618970019642690128860143618 [13] (.seq .none (.seq (.seq .none (.seq .none (.seq .none (.seq (.block (.loop 288212783965675522 [1, 13] (.seq (.seq .none (.seq .none .none)) (.block (.seq .none (.seq .none .none)))))) (.seq .none .none))))) (.seq .none (.seq (.block (.loop 9671332769940738559713282 [1, 13] (.seq (.seq .none (.seq .none .none)) (.block (.seq .none (.seq .none (.seq .none .none))))))) (.seq .none .none))))) (.meet 19188070608923394260936433664 [13] (.seq .none (.seq (.seq .none .none) .none)) (.seq (.seq .none (.seq (.seq .none .none) .none)) (.seq .none .none)))))))))
theorem T61_ok : chkFn prog Tryd.f61 T61 = true := by kernel_rfl
def B61 (dst_p0 u_p1 base_p2 neg_p3 append__p4 : Value) (w : World) (K : Value → World → Prop) : Prop :=
  jn (fun σ w => fin σ <|
    efv prog (Instr.alloc 97 true (.tuple #[])) w fun a_0 w =>
    jn (fun σ w => pop σ fun u_1 σ => fin σ <|
      jn (fun σ w => pop σ fun i_2 σ => fin σ <|
        jn (fun σ w => pop σ fun i_3 σ => fin σ <|
          cd append__p4 (
            pvv prog (Instr.sliceAt 97 a_0 (some i_3) none none) w fun t_4 w =>
            ef prog (oBi .append #[23, 23] 23 #[false, false] #[dst_p0, t_4]) w fun t_5 w =>
            K (.tuple #[t_5, (.string ⟨#[]⟩)]) w) <|
          pvv prog (Instr.sliceAt 97 a_0 (some i_3) none none) w fun t_6 w =>
          efv prog (convert 23 9 t_6) w fun t_7 w =>
          K (.tuple #[(.slice none 0 0), t_7]) w) fun k_8 =>
        cd neg_p3 (
          pvv prog (binOp .sub 3 i_2 (.int .i64 1)) w fun t_9 w =>
          pvv prog (Instr.indexAt 97 a_0 t_9) w fun t_10 w =>
          efu prog (Instr.storeAt 5 t_10 (.int .u8 45)) w fun u_11 w =>
          k_8 [t_9] w) <|
        k_8 [i_2] w) fun k_12 =>
      Calls prog 81 #[base_p2] w (Ret fun t_13 w =>
      cd t_13 (
        pvv prog (convert 3 85 base_p2) w fun t_14 w =>
        Calls prog 82 #[t_14] w (Ret fun t_15 w =>
        pvv prog (convert 3 85 t_15) w fun t_16 w =>
        pvv prog (convert 3 49 base_p2) w fun t_17 w =>
        pvv prog (convert 3 85 base_p2) w fun t_18 w =>
        pvv prog (binOp .sub 85 t_18 (.int .u64 1)) w fun t_19 w =>
        lp (fun σ w again_22 => pop σ fun u_20 σ => pop σ fun i_21 σ => fin σ <|
          pvv prog (binOp .geq 49 u_20 t_17) w fun t_23 w =>
          cd t_23 (
            pvv prog (binOp .sub 3 i_21 (.int .i64 1)) w fun t_24 w =>
            pvv prog (binOp .and 85 u_20 t_19) w fun t_25 w =>
            pvv prog (Instr.index 9 (.string ⟨#[48, 49, 50, 51, 52, 53, 54, 55, 56, 57, 97, 98, 99, 100, 101, 102, 103, 104, 105, 106, 107, 108, 109, 110, 111, 112, 113, 114, 115, 116, 117, 118, 119, 120, 121, 122]⟩) t_25) w fun t_26 w =>
            pvv prog (Instr.indexAt 97 a_0 t_24) w fun t_27 w =>
            efu prog (Instr.storeAt 5 t_27 t_26) w fun u_28 w =>
            pvv prog (binOp .shr 49 u_20 t_16) w fun t_29 w =>
            again_22 [t_29, t_24] w) <|
          pvv prog (binOp .sub 3 i_21 (.int .i64 1)) w fun t_30 w =>
          pvv prog (Instr.index 9 (.string ⟨#[48, 49, 50, 51, 52, 53, 54, 55, 56, 57, 97, 98, 99, 100, 101, 102, 103, 104, 105, 106, 107, 108, 109, 110, 111, 112, 113, 114, 115, 116, 117, 118, 119, 120, 121, 122]⟩) u_20) w fun t_31 w =>
          pvv prog (Instr.indexAt 97 a_0 t_30) w fun t_32 w =>
          efu prog (Instr.storeAt 5 t_32 t_31) w fun u_33 w =>
          k_12 [t_30] w) [u_1, (.int .i64 65)] w)) <|
      pvv prog (convert 3 49 base_p2) w fun t_34 w =>
      lp (fun σ w again_37 => pop σ fun u_35 σ => pop σ fun i_36 σ => fin σ <|
        pvv prog (binOp .geq 49 u_35 t_34) w fun t_38 w =>
        cd t_38 (
          pvv prog (binOp .sub 3 i_36 (.int .i64 1)) w fun t_39 w =>
          pvv prog (binOp .quo 49 u_35 t_34) w fun t_40 w =>
          pvv prog (binOp .mul 49 t_40 t_34) w fun t_41 w =>
          pvv prog (binOp .sub 49 u_35 t_41) w fun t_42 w =>
          pvv prog (Instr.index 9 (.string ⟨#[48, 49, 50, 51, 52, 53, 54, 55, 56, 57, 97, 98, 99, 100, 101, 102, 103, 104, 105, 106, 107, 108, 109, 110, 111, 112, 113, 114, 115, 116, 117, 118, 119, 120, 121, 122]⟩) t_42) w fun t_43 w =>
          pvv prog (Instr.indexAt 97 a_0 t_39) w fun t_44 w =>
          efu prog (Instr.storeAt 5 t_44 t_43) w fun u_45 w =>
          again_37 [t_40, t_39] w) <|
        pvv prog (binOp .sub 3 i_36 (.int .i64 1)) w fun t_46 w =>
        pvv prog (Instr.index 9 (.string ⟨#[48, 49, 50, 51, 52, 53, 54, 55, 56, 57, 97, 98, 99, 100, 101, 102, 103, 104, 105, 106, 107, 108, 109, 110, 111, 112, 113, 114, 115, 116, 117, 118, 119, 120, 121, 122]⟩) u_35) w fun t_47 w =>
        pvv prog (Instr.indexAt 97 a_0 t_46) w fun t_48 w =>
        efu prog (Instr.storeAt 5 t_48 t_47) w fun u_49 w =>
        k_12 [t_46] w) [u_1, (.int .i64 65)] w)) fun k_50 =>
    cd neg_p3 (
      pvv prog (Op.unary .neg u_p1) w fun t_51 w =>
      k_50 [t_51] w) <|
    k_50 [u_p1] w) fun k_52 =>
  pvv prog (binOp .lss 3 base_p2 (.int .i64 2)) w fun t_53 w =>
  gate (some (t_53, false)) (fun K => K base_p2 w) w fun t_54 w =>
  gate (some (t_53, false)) (fun K => pvv prog (oEq .eql 3 (.tmp 22) (.const (.int .i64 10)) t_54 (.int .i64 10)) w K) w fun t_55 w =>
  pv prog (oPick t_53 (.bool true) t_55) w fun t_56 w =>
  gate (some (t_56, false)) (fun K => K base_p2 w) w fun t_57 w =>
  gate (some (t_56, false)) (fun K => pvv prog (binOp .gtr 3 t_57 (.int .i64 36)) w K) w fun t_58 w =>
  pv prog (oPick t_56 (.bool true) t_58) w fun t_59 w =>
  cd t_59 (
    pvv prog (Instr.makeInterface 9 (.string ⟨#[115, 116, 114, 99, 111, 110, 118, 58, 32, 105, 108, 108, 101, 103, 97, 108, 32, 65, 112, 112, 101, 110, 100, 73, 110, 116, 47, 70, 111, 114, 109, 97, 116, 73, 110, 116, 32, 98, 97, 115, 101]⟩)) w fun t_60 w =>
    efv prog (Instr.panic t_60) w fun u_61 w =>
    k_52 [] w) <|
  k_52 [] w
theorem B61_eq (dst_p0 u_p1 base_p2 neg_p3 append__p4 : Value) (w : World) (K : Value → World → Prop) : denFn prog Tryd.f61 T61 [dst_p0, u_p1, base_p2, neg_p3, append__p4] w K = B61 dst_p0 u_p1 base_p2 neg_p3 append__p4 w K := by kernel_rfl
theorem c61 {dst_p0 u_p1 base_p2 neg_p3 append__p4 : Value} {w : World} {K : Value → World → Prop} (h : B61 dst_p0 u_p1 base_p2 neg_p3 append__p4 w K) : Calls prog 61 #[dst_p0, u_p1, base_p2, neg_p3, append__p4] w (Ret K) :=
  denFn_calls Tryd.func61 T61_ok (Eq.mpr (B61_eq dst_p0 u_p1 base_p2 neg_p3 append__p4 w K) h)

-- 27 holdfast/holdfastref02.Parts
def T27 : Ann := (.seq .none (.seq (.seq .none (.seq (.seq .none .none) .none)) (.seq .none (.seq .none (.seq .none (.seq (.seq .none (.block (.loop 9223372036854774012 [4, 5, 6, 7] (.seq (.seq .none (.seq .none .none)) (.meet 9223372036854644988 [4, 5, 6, 7] (.block (.seq (.seq .none (.seq (.seq .none (.seq .none .none)) .none)) (.seq .none (.block (.seq .none (.seq (.seq .none .none) (.seq .none (.seq (.seq .none (.seq .none .none)) (.seq .none .none))))))))) .none))))) (.seq (.seq .none (.seq (.seq .none .none) .none)) (.seq .none .none))))))))
theorem T27_ok : chkFn prog Tryd.f27 T27 = true := by kernel_rfl
def B27 (key_p0 : Value) (w : World) (K : Value → World → Prop) : Prop :=
  pv prog (oBi .len #[23] 3 #[false] #[key_p0]) w fun t_0 w =>
  pvv prog (binOp .gtr 3 t_0 (.int .i64 64)) w fun t_1 w =>
  cd t_1 (
    K (.tuple #[(.slice none 0 0), (.int .i64 6)]) w) <|
  lp (fun σ w again_6 => pop σ fun out_2 σ => pop σ fun part_3 σ => pop σ fun open_4 σ => pop σ fun i_5 σ => fin σ <|
    pv prog (oBi .len #[23] 3 #[false] #[key_p0]) w fun t_7 w =>
    pvv prog (binOp .lss 3 i_5 t_7) w fun t_8 w =>
    cd t_8 (
      jn (fun σ w => pop σ fun out_9 σ => pop σ fun part_10 σ => pop σ fun open_11 σ => pop σ fun i_12 σ => fin σ <|
        pvv prog (binOp .add 3 i_12 (.int .i64 1)) w fun t_13 w =>
        again_6 [out_9, part_10, open_11, t_13] w) fun k_14 =>
      pvv prog (Instr.indexAt 23 key_p0 i_5) w fun t_15 w =>
      ldv prog (Instr.loadAt 5 t_15) w fun t_16 w =>
      pvv prog (oEq .neq 5 (.tmp 20) (.const (.int .u8 0)) t_16 (.int .u8 0)) w fun t_17 w =>
      cd t_17 (
        pvv prog (Instr.indexAt 23 key_p0 i_5) w fun t_18 w =>
        ldv prog (Instr.loadAt 5 t_18) w fun t_19 w =>
        efv prog (Instr.buildSlice 23 1 #[(0, t_19)]) w fun t_20 w =>
        ef prog (oBi .append #[23, 23] 23 #[false, false] #[part_3, t_20]) w fun t_21 w =>
        k_14 [out_2, t_21, (.bool true), i_5] w) <|
      pvv prog (binOp .add 3 i_5 (.int .i64 1)) w fun t_22 w =>
      pv prog (oBi .len #[23] 3 #[false] #[key_p0]) w fun t_23 w =>
      pvv prog (binOp .lss 3 t_22 t_23) w fun t_24 w =>
      gate (some (t_24, true)) (fun K => K key_p0 w) w fun t_25 w =>
      gate (some (t_24, true)) (fun K => K t_22 w) w fun t_26 w =>
      gate (some (t_24, true)) (fun K => pvv prog (Instr.indexAt 23 t_25 t_26) w K) w fun t_27 w =>
      gate (some (t_24, true)) (fun K => ldv prog (Instr.loadAt 5 t_27) w K) w fun t_28 w =>
      gate (some (t_24, true)) (fun K => pvv prog (oEq .eql 5 (.tmp 40) (.const (.int .u8 255)) t_28 (.int .u8 255)) w K) w fun t_29 w =>
      pv prog (oPick t_24 t_29 (.bool false)) w fun t_30 w =>
      cd t_30 (
        efv prog (Instr.buildSlice 23 1 #[(0, (.int .u8 0))]) w fun t_31 w =>
        ef prog (oBi .append #[23, 23] 23 #[false, false] #[part_3, t_31]) w fun t_32 w =>
        k_14 [out_2, t_32, (.bool true), t_22] w) <|
      pv prog (oBi .len #[23] 3 #[false] #[key_p0]) w fun t_33 w =>
      pvv prog (binOp .lss 3 t_22 t_33) w fun t_34 w =>
      gate (some (t_34, true)) (fun K => K key_p0 w) w fun t_35 w =>
      gate (some (t_34, true)) (fun K => K t_22 w) w fun t_36 w =>
      gate (some (t_34, true)) (fun K => pvv prog (Instr.indexAt 23 t_35 t_36) w K) w fun t_37 w =>
      gate (some (t_34, true)) (fun K => ldv prog (Instr.loadAt 5 t_37) w K) w fun t_38 w =>
      gate (some (t_34, true)) (fun K => pvv prog (oEq .eql 5 (.tmp 55) (.const (.int .u8 1)) t_38 (.int .u8 1)) w K) w fun t_39 w =>
      pv prog (oPick t_34 t_39 (.bool false)) w fun t_40 w =>
      cd t_40 (
        efv prog (convert 23 9 part_3) w fun t_41 w =>
        efv prog (Instr.buildSlice 22 1 #[(0, t_41)]) w fun t_42 w =>
        ef prog (oBi .append #[22, 22] 22 #[false, false] #[out_2, t_42]) w fun t_43 w =>
        k_14 [t_43, (.slice none 0 0), (.bool false), t_22] w) <|
      K (.tuple #[(.slice none 0 0), (.int .i64 3)]) w) <|
    gate (some (open_4, false)) (fun K => K out_2 w) w fun t_44 w =>
    gate (some (open_4, false)) (fun K => pv prog (oBi .len #[22] 3 #[false] #[t_44]) w K) w fun t_45 w =>
    gate (some (open_4, false)) (fun K => pvv prog (binOp .lss 3 t_45 (.int .i64 1)) w K) w fun t_46 w =>
    pv prog (oPick open_4 (.bool true) t_46) w fun t_47 w =>
    gate (some (t_47, false)) (fun K => K out_2 w) w fun t_48 w =>
    gate (some (t_47, false)) (fun K => pv prog (oBi .len #[22] 3 #[false] #[t_48]) w K) w fun t_49 w =>
    gate (some (t_47, false)) (fun K => pvv prog (binOp .gtr 3 t_49 (.int .i64 8)) w K) w fun t_50 w =>
    pv prog (oPick t_47 (.bool true) t_50) w fun t_51 w =>
    cd t_51 (
      K (.tuple #[(.slice none 0 0), (.int .i64 3)]) w) <|
    K (.tuple #[out_2, (.int .i64 0)]) w) [(.slice none 0 0), (.slice none 0 0), (.bool false), (.int .i64 0)] w
theorem B27_eq (key_p0 : Value) (w : World) (K : Value → World → Prop) : denFn prog Tryd.f27 T27 [key_p0] w K = B27 key_p0 w K := by kernel_rfl
theorem c27 {key_p0 : Value} {w : World} {K : Value → World → Prop} (h : B27 key_p0 w K) : Calls prog 27 #[key_p0] w (Ret K) :=
  denFn_calls Tryd.func27 T27_ok (Eq.mpr (B27_eq key_p0 w K) h)

-- 23 holdfast/holdfastref02.Columns
def T23 : Ann := (.seq .none (.seq (.seq .none (.seq (.seq .none .none) .none)) (.seq (.seq .none (.seq (.seq .none .none) .none)) (.seq .none (.seq .none (.seq (.seq .none (.block (.loop 9444732965739289379068 [4, 5, 6] (.seq (.seq .none (.seq .none .none)) (.seq (.block (.seq (.seq .none (.seq (.seq .none .none) .none)) (.seq .none (.seq .none .none)))) .none))))) (.seq (.seq .none (.seq (.seq .none .none) .none)) (.seq .none .none))))))))
theorem T23_ok : chkFn prog Tryd.f23 T23 = true := by kernel_rfl
def B23 (b_p0 : Value) (w : World) (K : Value → World → Prop) : Prop :=
  pv prog (oBi .len #[23] 3 #[false] #[b_p0]) w fun t_0 w =>
  pvv prog (binOp .gtr 3 t_0 (.int .i64 72)) w fun t_1 w =>
  cd t_1 (
    K (.tuple #[(.slice none 0 0), (.int .i64 6)]) w) <|
  pv prog (oBi .len #[23] 3 #[false] #[b_p0]) w fun t_2 w =>
  pvv prog (binOp .lss 3 t_2 (.int .i64 1)) w fun t_3 w =>
  gate (some (t_3, false)) (fun K => K b_p0 w) w fun t_4 w =>
  gate (some (t_3, false)) (fun K => pvv prog (Instr.indexAt 23 t_4 (.int .i64 0)) w K) w fun t_5 w =>
  gate (some (t_3, false)) (fun K => ldv prog (Instr.loadAt 5 t_5) w K) w fun t_6 w =>
  gate (some (t_3, false)) (fun K => pvv prog (binOp .gtr 5 t_6 (.int .u8 8)) w K) w fun t_7 w =>
  pv prog (oPick t_3 (.bool true) t_7) w fun t_8 w =>
  cd t_8 (
    K (.tuple #[(.slice none 0 0), (.int .i64 3)]) w) <|
  lp (fun σ w again_12 => pop σ fun out_9 σ => pop σ fun at_10 σ => pop σ fun i_11 σ => fin σ <|
    pvv prog (Instr.indexAt 23 b_p0 (.int .i64 0)) w fun t_13 w =>
    ldv prog (Instr.loadAt 5 t_13) w fun t_14 w =>
    pvv prog (convert 5 3 t_14) w fun t_15 w =>
    pvv prog (binOp .lss 3 i_11 t_15) w fun t_16 w =>
    cd t_16 (
      pv prog (oBi .len #[23] 3 #[false] #[b_p0]) w fun t_17 w =>
      pvv prog (binOp .geq 3 at_10 t_17) w fun t_18 w =>
      gate (some (t_18, false)) (fun K => K b_p0 w) w fun t_19 w =>
      gate (some (t_18, false)) (fun K => K at_10 w) w fun t_20 w =>
      gate (some (t_18, false)) (fun K => pvv prog (Instr.indexAt 23 t_19 t_20) w K) w fun t_21 w =>
      gate (some (t_18, false)) (fun K => ldv prog (Instr.loadAt 5 t_21) w K) w fun t_22 w =>
      gate (some (t_18, false)) (fun K => pvv prog (binOp .gtr 5 t_22 (.int .u8 70)) w K) w fun t_23 w =>
      pv prog (oPick t_18 (.bool true) t_23) w fun t_24 w =>
      gate (some (t_24, false)) (fun K => K at_10 w) w fun t_25 w =>
      gate (some (t_24, false)) (fun K => pvv prog (binOp .add 3 t_25 (.int .i64 1)) w K) w fun t_26 w =>
      gate (some (t_24, false)) (fun K => K b_p0 w) w fun t_27 w =>
      gate (some (t_24, false)) (fun K => K at_10 w) w fun t_28 w =>
      gate (some (t_24, false)) (fun K => pvv prog (Instr.indexAt 23 t_27 t_28) w K) w fun t_29 w =>
      gate (some (t_24, false)) (fun K => ldv prog (Instr.loadAt 5 t_29) w K) w fun t_30 w =>
      gate (some (t_24, false)) (fun K => pvv prog (convert 5 3 t_30) w K) w fun t_31 w =>
      gate (some (t_24, false)) (fun K => pvv prog (binOp .add 3 t_26 t_31) w K) w fun t_32 w =>
      gate (some (t_24, false)) (fun K => K b_p0 w) w fun t_33 w =>
      gate (some (t_24, false)) (fun K => pv prog (oBi .len #[23] 3 #[false] #[t_33]) w K) w fun t_34 w =>
      gate (some (t_24, false)) (fun K => pvv prog (binOp .gtr 3 t_32 t_34) w K) w fun t_35 w =>
      pv prog (oPick t_24 (.bool true) t_35) w fun t_36 w =>
      cd t_36 (
        K (.tuple #[(.slice none 0 0), (.int .i64 3)]) w) <|
      pvv prog (Instr.indexAt 23 b_p0 at_10) w fun t_37 w =>
      ldv prog (Instr.loadAt 5 t_37) w fun t_38 w =>
      pvv prog (convert 5 3 t_38) w fun t_39 w =>
      pvv prog (binOp .add 3 at_10 (.int .i64 1)) w fun t_40 w =>
      pvv prog (binOp .add 3 at_10 (.int .i64 1)) w fun t_41 w =>
      pvv prog (binOp .add 3 t_41 t_39) w fun t_42 w =>
      pvv prog (Instr.sliceAt 23 b_p0 (some t_40) (some t_42) none) w fun t_43 w =>
      efv prog (convert 23 9 t_43) w fun t_44 w =>
      efv prog (Instr.buildSlice 22 1 #[(0, t_44)]) w fun t_45 w =>
      ef prog (oBi .append #[22, 22] 22 #[false, false] #[out_9, t_45]) w fun t_46 w =>
      pvv prog (binOp .add 3 (.int .i64 1) t_39) w fun t_47 w =>
      pvv prog (binOp .add 3 at_10 t_47) w fun t_48 w =>
      pvv prog (binOp .add 3 i_11 (.int .i64 1)) w fun t_49 w =>
      again_12 [t_46, t_48, t_49] w) <|
    pv prog (oBi .len #[23] 3 #[false] #[b_p0]) w fun t_50 w =>
    pvv prog (oEq .neq 3 (.tmp 73) (.tmp 75) at_10 t_50) w fun t_51 w =>
    cd t_51 (
      K (.tuple #[(.slice none 0 0), (.int .i64 3)]) w) <|
    K (.tuple #[out_9, (.int .i64 0)]) w) [(.slice none 0 0), (.int .i64 1), (.int .i64 0)] w
theorem B23_eq (b_p0 : Value) (w : World) (K : Value → World → Prop) : denFn prog Tryd.f23 T23 [b_p0] w K = B23 b_p0 w K := by kernel_rfl
theorem c23 {b_p0 : Value} {w : World} {K : Value → World → Prop} (h : B23 b_p0 w K) : Calls prog 23 #[b_p0] w (Ret K) :=
  denFn_calls Tryd.func23 T23_ok (Eq.mpr (B23_eq b_p0 w K) h)

-- 93 internal/bytealg.IndexRabinKarp[string]
def T93 : Ann := (.seq .none (.seq .none (.seq .none (.seq .none (.seq (.seq .none (.block (.loop 1073480448 [8, 9] (.seq (.seq .none (.seq .none .none)) (.seq (.block .none) .none))))) (.seq (.seq .none (.seq (.seq .none .none) .none)) (.seq (.seq .none (.block (.loop 2417851639227059326158096 [8, 10] (.seq (.seq .none (.seq .none .none)) (.block (.seq .none (.seq .none (.seq .none (.seq .none (.seq .none (.seq (.seq .none .none) .none))))))))))) (.seq .none .none))))))))
theorem T93_ok : chkFn prog Tryd.f93 T93 = true := by kernel_rfl
def B93 (s_p0 sep_p1 : Value) (w : World) (K : Value → World → Prop) : Prop :=
  Calls prog 100 #[sep_p1] w (Ret fun t_0 w =>
  pvv prog (Instr.extract t_0 0) w fun t_1 w =>
  pvv prog (Instr.extract t_0 1) w fun t_2 w =>
  pv prog (oBi .len #[9] 3 #[false] #[sep_p1]) w fun t_3 w =>
  lp (fun σ w again_6 => pop σ fun h_4 σ => pop σ fun i_5 σ => fin σ <|
    pvv prog (binOp .lss 3 i_5 t_3) w fun t_7 w =>
    cd t_7 (
      pvv prog (binOp .mul 96 h_4 (.int .u32 16777619)) w fun t_8 w =>
      pvv prog (Instr.index 9 s_p0 i_5) w fun t_9 w =>
      pvv prog (convert 5 96 t_9) w fun t_10 w =>
      pvv prog (binOp .add 96 t_8 t_10) w fun t_11 w =>
      pvv prog (binOp .add 3 i_5 (.int .i64 1)) w fun t_12 w =>
      again_6 [t_11, t_12] w) <|
    pvv prog (oEq .eql 96 (.tmp 30) (.tmp 31) h_4 t_1) w fun t_13 w =>
    gate (some (t_13, true)) (fun K => K s_p0 w) w fun t_14 w =>
    gate (some (t_13, true)) (fun K => K t_3 w) w fun t_15 w =>
    gate (some (t_13, true)) (fun K => pvv prog (Instr.sliceAt 9 t_14 none (some t_15) none) w K) w fun t_16 w =>
    gate (some (t_13, true)) (fun K => K sep_p1 w) w fun t_17 w =>
    gate (some (t_13, true)) (fun K => pvv prog (oEq .eql 9 (.tmp 36) (.tmp 37) t_16 t_17) w K) w fun t_18 w =>
    pv prog (oPick t_13 t_18 (.bool false)) w fun t_19 w =>
    cd t_19 (
      K (.int .i64 0) w) <|
    lp (fun σ w again_22 => pop σ fun h_20 σ => pop σ fun i_21 σ => fin σ <|
      pv prog (oBi .len #[9] 3 #[false] #[s_p0]) w fun t_23 w =>
      pvv prog (binOp .lss 3 i_21 t_23) w fun t_24 w =>
      cd t_24 (
        pvv prog (binOp .mul 96 h_20 (.int .u32 16777619)) w fun t_25 w =>
        pvv prog (Instr.index 9 s_p0 i_21) w fun t_26 w =>
        pvv prog (convert 5 96 t_26) w fun t_27 w =>
        pvv prog (binOp .add 96 t_25 t_27) w fun t_28 w =>
        pvv prog (binOp .sub 3 i_21 t_3) w fun t_29 w =>
        pvv prog (Instr.index 9 s_p0 t_29) w fun t_30 w =>
        pvv prog (convert 5 96 t_30) w fun t_31 w =>
        pvv prog (binOp .mul 96 t_2 t_31) w fun t_32 w =>
        pvv prog (binOp .sub 96 t_28 t_32) w fun t_33 w =>
        pvv prog (binOp .add 3 i_21 (.int .i64 1)) w fun t_34 w =>
        pvv prog (oEq .eql 96 (.tmp 65) (.tmp 66) t_33 t_1) w fun t_35 w =>
        gate (some (t_35, true)) (fun K => K s_p0 w) w fun t_36 w =>
        gate (some (t_35, true)) (fun K => K t_34 w) w fun t_37 w =>
        gate (some (t_35, true)) (fun K => K t_3 w) w fun t_38 w =>
        gate (some (t_35, true)) (fun K => pvv prog (binOp .sub 3 t_37 t_38) w K) w fun t_39 w =>
        gate (some (t_35, true)) (fun K => K t_34 w) w fun t_40 w =>
        gate (some (t_35, true)) (fun K => pvv prog (Instr.sliceAt 9 t_36 (some t_39) (some t_40) none) w K) w fun t_41 w =>
        gate (some (t_35, true)) (fun K => K sep_p1 w) w fun t_42 w =>
        gate (some (t_35, true)) (fun K => pvv prog (oEq .eql 9 (.tmp 74) (.tmp 75) t_41 t_42) w K) w fun t_43 w =>
        pv prog (oPick t_35 t_43 (.bool false)) w fun t_44 w =>
        cd t_44 (
          pvv prog (binOp .sub 3 t_34 t_3) w fun t_45 w =>
          K t_45 w) <|
        again_22 [t_33, t_34] w) <|
      K (.int .i64 (-1)) w) [h_4, t_3] w) [(.int .u32 0), (.int .i64 0)] w)
theorem B93_eq (s_p0 sep_p1 : Value) (w : World) (K : Value → World → Prop) : denFn prog Tryd.f93 T93 [s_p0, sep_p1] w K = B93 s_p0 sep_p1 w K := by kernel_rfl
theorem c93 {s_p0 sep_p1 : Value} {w : World} {K : Value → World → Prop} (h : B93 s_p0 sep_p1 w K) : Calls prog 93 #[s_p0, sep_p1] w (Ret K) :=
  denFn_calls Tryd.func93 T93_ok (Eq.mpr (B93_eq s_p0 sep_p1 w K) h)

-- 25 holdfast/holdfastref02.Key
def T25 : Ann := (.seq .none (.seq (.seq .none (.seq (.seq .none .none) .none)) (.seq .none (.seq (.seq .none (.block (.loop 288230376151679100 [4, 5] (.seq (.seq .none (.seq .none .none)) (.seq (.block (.seq (.seq .none (.seq (.seq .none .none) .none)) (.seq (.seq .none (.block (.loop 36028796884746320 [4, 6] (.seq (.seq .none (.seq .none .none)) (.meet 36028728299487248 [4] (.block (.seq .none (.seq .none (.seq .none .none)))) .none))))) .none))) .none))))) (.seq (.seq .none (.seq (.seq .none .none) .none)) (.seq .none .none))))))
theorem T25_ok : chkFn prog Tryd.f25 T25 = true := by kernel_rfl
def B25 (parts_p0 : Value) (w : World) (K : Value → World → Prop) : Prop :=
  pv prog (oBi .len #[22] 3 #[false] #[parts_p0]) w fun t_0 w =>
  pvv prog (binOp .lss 3 t_0 (.int .i64 1)) w fun t_1 w =>
  gate (some (t_1, false)) (fun K => K parts_p0 w) w fun t_2 w =>
  gate (some (t_1, false)) (fun K => pv prog (oBi .len #[22] 3 #[false] #[t_2]) w K) w fun t_3 w =>
  gate (some (t_1, false)) (fun K => pvv prog (binOp .gtr 3 t_3 (.int .i64 8)) w K) w fun t_4 w =>
  pv prog (oPick t_1 (.bool true) t_4) w fun t_5 w =>
  cd t_5 (
    K (.tuple #[(.slice none 0 0), (.int .i64 2)]) w) <|
  lp (fun σ w again_8 => pop σ fun out_6 σ => pop σ fun i_7 σ => fin σ <|
    pv prog (oBi .len #[22] 3 #[false] #[parts_p0]) w fun t_9 w =>
    pvv prog (binOp .lss 3 i_7 t_9) w fun t_10 w =>
    cd t_10 (
      pvv prog (Instr.indexAt 22 parts_p0 i_7) w fun t_11 w =>
      ldv prog (Instr.loadAt 9 t_11) w fun t_12 w =>
      pv prog (oBi .len #[9] 3 #[false] #[t_12]) w fun t_13 w =>
      pvv prog (binOp .gtr 3 t_13 (.int .i64 64)) w fun t_14 w =>
      cd t_14 (
        K (.tuple #[(.slice none 0 0), (.int .i64 6)]) w) <|
      lp (fun σ w again_17 => pop σ fun out_15 σ => pop σ fun k_16 σ => fin σ <|
        pvv prog (Instr.indexAt 22 parts_p0 i_7) w fun t_18 w =>
        ldv prog (Instr.loadAt 9 t_18) w fun t_19 w =>
        pv prog (oBi .len #[9] 3 #[false] #[t_19]) w fun t_20 w =>
        pvv prog (binOp .lss 3 k_16 t_20) w fun t_21 w =>
        cd t_21 (
          jn (fun σ w => pop σ fun out_22 σ => fin σ <|
            pvv prog (binOp .add 3 k_16 (.int .i64 1)) w fun t_23 w =>
            again_17 [out_22, t_23] w) fun k_24 =>
          pvv prog (Instr.indexAt 22 parts_p0 i_7) w fun t_25 w =>
          ldv prog (Instr.loadAt 9 t_25) w fun t_26 w =>
          pvv prog (Instr.index 9 t_26 k_16) w fun t_27 w =>
          efv prog (Instr.buildSlice 23 1 #[(0, t_27)]) w fun t_28 w =>
          ef prog (oBi .append #[23, 23] 23 #[false, false] #[out_15, t_28]) w fun t_29 w =>
          pvv prog (Instr.indexAt 22 parts_p0 i_7) w fun t_30 w =>
          ldv prog (Instr.loadAt 9 t_30) w fun t_31 w =>
          pvv prog (Instr.index 9 t_31 k_16) w fun t_32 w =>
          pvv prog (oEq .eql 5 (.tmp 50) (.const (.int .u8 0)) t_32 (.int .u8 0)) w fun t_33 w =>
          cd t_33 (
            efv prog (Instr.buildSlice 23 1 #[(0, (.int .u8 255))]) w fun t_34 w =>
            ef prog (oBi .append #[23, 23] 23 #[false, false] #[t_29, t_34]) w fun t_35 w =>
            k_24 [t_35] w) <|
          k_24 [t_29] w) <|
        efv prog (Instr.buildSlice 23 2 #[(0, (.int .u8 0)), (1, (.int .u8 1))]) w fun t_36 w =>
        ef prog (oBi .append #[23, 23] 23 #[false, false] #[out_15, t_36]) w fun t_37 w =>
        pvv prog (binOp .add 3 i_7 (.int .i64 1)) w fun t_38 w =>
        again_8 [t_37, t_38] w) [out_6, (.int .i64 0)] w) <|
    pv prog (oBi .len #[23] 3 #[false] #[out_6]) w fun t_39 w =>
    pvv prog (binOp .gtr 3 t_39 (.int .i64 64)) w fun t_40 w =>
    cd t_40 (
      K (.tuple #[(.slice none 0 0), (.int .i64 6)]) w) <|
    K (.tuple #[out_6, (.int .i64 0)]) w) [(.slice none 0 0), (.int .i64 0)] w
theorem B25_eq (parts_p0 : Value) (w : World) (K : Value → World → Prop) : denFn prog Tryd.f25 T25 [parts_p0] w K = B25 parts_p0 w K := by kernel_rfl
theorem c25 {parts_p0 : Value} {w : World} {K : Value → World → Prop} (h : B25 parts_p0 w K) : Calls prog 25 #[parts_p0] w (Ret K) :=
  denFn_calls Tryd.func25 T25_ok (Eq.mpr (B25_eq parts_p0 w K) h)

-- 28 holdfast/codec.ToNumber
def T28 : Ann := (.seq .none (.seq (.seq .none (.seq (.seq .none .none) .none)) (.seq .none (.seq (.seq .none (.seq (.seq .none .none) .none)) (.seq .none (.seq (.seq .none (.seq (.seq .none .none) .none)) (.seq .none .none)))))))
theorem T28_ok : chkFn prog Tryd.f28 T28 = true := by kernel_rfl
def B28 (s_p0 : Value) (w : World) (K : Value → World → Prop) : Prop :=
  pvv prog (oEq .eql 9 (.tmp 7) (.const (.string ⟨#[]⟩)) s_p0 (.string ⟨#[]⟩)) w fun t_0 w =>
  gate (some (t_0, false)) (fun K => K s_p0 w) w fun t_1 w =>
  gate (some (t_0, false)) (fun K => pvv prog (Instr.index 9 t_1 (.int .i64 0)) w K) w fun t_2 w =>
  gate (some (t_0, false)) (fun K => pvv prog (convert 5 3 t_2) w K) w fun t_3 w =>
  gate (some (t_0, false)) (fun K => K s_p0 w) w fun t_4 w =>
  gate (some (t_0, false)) (fun K => pv prog (oBi .len #[9] 3 #[false] #[t_4]) w K) w fun t_5 w =>
  gate (some (t_0, false)) (fun K => pvv prog (binOp .add 3 (.int .i64 97) t_5) w K) w fun t_6 w =>
  gate (some (t_0, false)) (fun K => pvv prog (binOp .sub 3 t_6 (.int .i64 1)) w K) w fun t_7 w =>
  gate (some (t_0, false)) (fun K => pvv prog (oEq .neq 3 (.tmp 12) (.tmp 16) t_3 t_7) w K) w fun t_8 w =>
  pv prog (oPick t_0 (.bool true) t_8) w fun t_9 w =>
  gate (some (t_9, false)) (fun K => K s_p0 w) w fun t_10 w =>
  gate (some (t_9, false)) (fun K => pv prog (oBi .len #[9] 3 #[false] #[t_10]) w K) w fun t_11 w =>
  gate (some (t_9, false)) (fun K => pvv prog (binOp .gtr 3 t_11 (.int .i64 17)) w K) w fun t_12 w =>
  pv prog (oPick t_9 (.bool true) t_12) w fun t_13 w =>
  cd t_13 (
    K (.tuple #[(.int .i64 0), (.int .i64 3)]) w) <|
  pvv prog (Instr.sliceAt 9 s_p0 (some (.int .i64 1)) none none) w fun t_14 w =>
  Calls prog 34 #[t_14, (.string ⟨#[48]⟩)] w (Ret fun t_15 w =>
  gate (some (t_15, false)) (fun K => K t_14 w) w fun t_16 w =>
  gate (some (t_15, false)) (fun K => Calls prog 35 #[t_16, (.string ⟨#[48, 49, 50, 51, 52, 53, 54, 55, 56, 57, 97, 98, 99, 100, 101, 102]⟩)] w (Ret K)) w fun t_17 w =>
  gate (some (t_15, false)) (fun K => pvv prog (oEq .neq 9 (.tmp 30) (.const (.string ⟨#[]⟩)) t_17 (.string ⟨#[]⟩)) w K) w fun t_18 w =>
  pv prog (oPick t_15 (.bool true) t_18) w fun t_19 w =>
  cd t_19 (
    K (.tuple #[(.int .i64 0), (.int .i64 3)]) w) <|
  pvv prog (binOp .add 9 (.string ⟨#[48]⟩) t_14) w fun t_20 w =>
  Calls prog 36 #[t_20, (.int .i64 16), (.int .i64 64)] w (Ret fun t_21 w =>
  pvv prog (Instr.extract t_21 0) w fun t_22 w =>
  pvv prog (Instr.extract t_21 1) w fun t_23 w =>
  pvv prog (oEq .neq 51 (.tmp 39) (.const .nilIface) t_23 .nilIface) w fun t_24 w =>
  gate (some (t_24, false)) (fun K => K t_22 w) w fun t_25 w =>
  gate (some (t_24, false)) (fun K => pvv prog (binOp .gtr 49 t_25 (.int .u64 4611686018427387904)) w K) w fun t_26 w =>
  pv prog (oPick t_24 (.bool true) t_26) w fun t_27 w =>
  cd t_27 (
    K (.tuple #[(.int .i64 0), (.int .i64 2)]) w) <|
  pvv prog (convert 49 3 t_22) w fun t_28 w =>
  K (.tuple #[t_28, (.int .i64 0)]) w))
theorem B28_eq (s_p0 : Value) (w : World) (K : Value → World → Prop) : denFn prog Tryd.f28 T28 [s_p0] w K = B28 s_p0 w K := by kernel_rfl
theorem c28 {s_p0 : Value} {w : World} {K : Value → World → Prop} (h : B28 s_p0 w K) : Calls prog 28 #[s_p0] w (Ret K) :=
  denFn_calls Tryd.func28 T28_ok (Eq.mpr (B28_eq s_p0 w K) h)

-- 39 internal/strconv.FormatInt
def T39 : Ann := (.seq .none (.seq (.seq .none (.seq (.seq (.seq .none (.seq (.seq .none .none) .none)) (.seq .none (.seq .none (.meet 62914624 [6] (.seq .none (.seq .none .none)) (.seq .none (.seq .none (.seq (.seq .none (.seq (.seq .none (.seq .none .none)) .none)) (.seq .none .none)))))))) .none)) (.seq .none (.seq .none .none))))
theorem T39_ok : chkFn prog Tryd.f39 T39 = true := by kernel_rfl
def B39 (i_p0 base_p1 : Value) (w : World) (K : Value → World → Prop) : Prop :=
  pvv prog (oEq .eql 3 (.tmp 10) (.const (.int .i64 10)) base_p1 (.int .i64 10)) w fun t_0 w =>
  cd t_0 (
    pvv prog (binOp .leq 2 (.int .i64 0) i_p0) w fun t_1 w =>
    gate (some (t_1, true)) (fun K => K i_p0 w) w fun t_2 w =>
    gate (some (t_1, true)) (fun K => pvv prog (binOp .lss 2 t_2 (.int .i64 100)) w K) w fun t_3 w =>
    pv prog (oPick t_1 t_3 (.bool false)) w fun t_4 w =>
    cd t_4 (
      Calls prog 58 #[i_p0] w (Ret fun t_5 w =>
      K t_5 w)) <|
    efv prog (Instr.alloc 76 true (.tuple #[])) w fun a_6 w =>
    pvv prog (convert 2 49 i_p0) w fun t_7 w =>
    jn (fun σ w => pop σ fun u_8 σ => fin σ <|
      Calls prog 59 #[u_8] w (Ret fun t_9 w =>
      pvv prog (binOp .add 3 (.int .i64 1) t_9) w fun t_10 w =>
      pvv prog (Instr.sliceAt 76 a_6 (some (.int .i64 1)) (some t_10) none) w fun t_11 w =>
      Calls prog 60 #[t_11, u_8] w (Ret fun t_12 w =>
      pvv prog (binOp .lss 2 i_p0 (.int .i64 0)) w fun t_13 w =>
      cd t_13 (
        pvv prog (Instr.indexAt 76 a_6 (.int .i64 0)) w fun t_14 w =>
        efu prog (Instr.storeAt 5 t_14 (.int .u8 45)) w fun u_15 w =>
        pvv prog (binOp .add 3 (.int .i64 1) t_9) w fun t_16 w =>
        pvv prog (Instr.sliceAt 76 a_6 none (some t_16) none) w fun t_17 w =>
        efv prog (convert 23 9 t_17) w fun t_18 w =>
        K t_18 w) <|
      pvv prog (binOp .add 3 (.int .i64 1) t_9) w fun t_19 w =>
      pvv prog (Instr.sliceAt 76 a_6 (some (.int .i64 1)) (some t_19) none) w fun t_20 w =>
      efv prog (convert 23 9 t_20) w fun t_21 w =>
      K t_21 w))) fun k_22 =>
    pvv prog (binOp .lss 2 i_p0 (.int .i64 0)) w fun t_23 w =>
    cd t_23 (
      pvv prog (Op.unary .neg t_7) w fun t_24 w =>
      k_22 [t_24] w) <|
    k_22 [t_7] w) <|
  pvv prog (convert 2 49 i_p0) w fun t_25 w =>
  pvv prog (binOp .lss 2 i_p0 (.int .i64 0)) w fun t_26 w =>
  Calls prog 61 #[(.slice none 0 0), t_25, base_p1, t_26, (.bool false)] w (Ret fun t_27 w =>
  pvv prog (Instr.extract t_27 0) w fun t_28 w =>
  pvv prog (Instr.extract t_27 1) w fun t_29 w =>
  K t_29 w)
theorem B39_eq (i_p0 base_p1 : Value) (w : World) (K : Value → World → Prop) : denFn prog Tryd.f39 T39 [i_p0, base_p1] w K = B39 i_p0 base_p1 w K := by kernel_rfl
theorem c39 {i_p0 base_p1 : Value} {w : World} {K : Value → World → Prop} (h : B39 i_p0 base_p1 w K) : Calls prog 39 #[i_p0, base_p1] w (Ret K) :=
  denFn_calls Tryd.func39 T39_ok (Eq.mpr (B39_eq i_p0 base_p1 w K) h)

-- 65 unicode/utf8.DecodeLastRuneInString
def T65 : Ann := (.seq .none (.seq .none (.seq (.seq .none (.seq (.seq .none .none) .none)) (.seq .none (.seq .none (.seq (.seq .none (.seq (.seq .none .none) .none)) (.seq .none (.meet 17171480608 [5] (.seq .none (.block (.loop 17146314784 [5] (.seq (.seq .none (.seq .none .none)) (.seq (.block (.seq .none (.seq .none .none))) .none))))) (.meet 51539607584 [5] (.seq .none (.seq .none .none)) (.seq .none (.seq (.seq .none (.seq (.seq .none .none) .none)) (.seq .none .none))))))))))))
theorem T65_ok : chkFn prog Tryd.f65 T65 = true := by kernel_rfl
def B65 (s_p0 : Value) (w : World) (K : Value → World → Prop) : Prop :=
  pv prog (oBi .len #[9] 3 #[false] #[s_p0]) w fun t_0 w =>
  pvv prog (oEq .eql 3 (.tmp 9) (.const (.int .i64 0)) t_0 (.int .i64 0)) w fun t_1 w =>
  cd t_1 (
    K (.tuple #[(.int .i32 65533), (.int .i64 0)]) w) <|
  pvv prog (binOp .sub 3 t_0 (.int .i64 1)) w fun t_2 w =>
  pvv prog (Instr.index 9 s_p0 t_2) w fun t_3 w =>
  pvv prog (convert 5 21 t_3) w fun t_4 w =>
  pvv prog (binOp .lss 21 t_4 (.int .i32 128)) w fun t_5 w =>
  cd t_5 (
    K (.tuple #[t_4, (.int .i64 1)]) w) <|
  pvv prog (binOp .sub 3 t_0 (.int .i64 4)) w fun t_6 w =>
  pv prog (oBi .max #[3, 3] 3 #[false, true] #[t_6, (.int .i64 0)]) w fun t_7 w =>
  jn (fun σ w => pop σ fun start_8 σ => fin σ <|
    jn (fun σ w => pop σ fun start_9 σ => fin σ <|
      pvv prog (Instr.sliceAt 9 s_p0 (some start_9) (some t_0) none) w fun t_10 w =>
      Calls prog 56 #[t_10] w (Ret fun t_11 w =>
      pvv prog (Instr.extract t_11 0) w fun t_12 w =>
      pvv prog (Instr.extract t_11 1) w fun t_13 w =>
      pvv prog (binOp .add 3 start_9 t_13) w fun t_14 w =>
      pvv prog (oEq .neq 3 (.tmp 46) (.tmp 47) t_14 t_0) w fun t_15 w =>
      cd t_15 (
        K (.tuple #[(.int .i32 65533), (.int .i64 1)]) w) <|
      K (.tuple #[t_12, t_13]) w)) fun k_16 =>
    pvv prog (binOp .lss 3 start_8 (.int .i64 0)) w fun t_17 w =>
    cd t_17 (
      k_16 [(.int .i64 0)] w) <|
    k_16 [start_8] w) fun k_18 =>
  pvv prog (binOp .sub 3 t_2 (.int .i64 1)) w fun t_19 w =>
  lp (fun σ w again_21 => pop σ fun start_20 σ => fin σ <|
    pvv prog (binOp .geq 3 start_20 t_7) w fun t_22 w =>
    cd t_22 (
      pvv prog (Instr.index 9 s_p0 start_20) w fun t_23 w =>
      Calls prog 84 #[t_23] w (Ret fun t_24 w =>
      cd t_24 (
        k_18 [start_20] w) <|
      pvv prog (binOp .sub 3 start_20 (.int .i64 1)) w fun t_25 w =>
      again_21 [t_25] w)) <|
    k_18 [start_20] w) [t_19] w
theorem B65_eq (s_p0 : Value) (w : World) (K : Value → World → Prop) : denFn prog Tryd.f65 T65 [s_p0] w K = B65 s_p0 w K := by kernel_rfl
theorem c65 {s_p0 : Value} {w : World} {K : Value → World → Prop} (h : B65 s_p0 w K) : Calls prog 65 #[s_p0] w (Ret K) :=
  denFn_calls Tryd.func65 T65_ok (Eq.mpr (B65_eq s_p0 w K) h)

-- 13 holdfast/holdfastref02.Less
def T13 : Ann := (.seq .none (.seq (.seq .none (.block (.loop 68719476720 [5] (.seq (.seq .none (.seq .none .none)) (.seq (.block (.seq (.draw [(0, .pure), (1, .pure), (2, .pure), (4, .pure), (5, .pure), (6, .pure), (3, .load), (7, .load), (8, .pure)]) (.seq (.seq (.draw [(0, .pure), (1, .pure), (2, .pure), (4, .pure), (5, .pure), (6, .pure), (3, .load), (7, .load), (8, .pure), (9, .pure)]) .none) .none))) .none))))) (.seq .none .none)))
theorem T13_ok : chkFn prog Tryd.f13 T13 = true := by kernel_rfl
def B13 (a_p0 b_p1 : Value) (w : World) (K : Value → World → Prop) : Prop :=
  lp (fun σ w again_1 => pop σ fun i_0 σ => fin σ <|
    pv prog (oBi .len #[23] 3 #[false] #[a_p0]) w fun t_2 w =>
    pvv prog (binOp .lss 3 i_0 t_2) w fun t_3 w =>
    gate (some (t_3, true)) (fun K => K i_0 w) w fun t_4 w =>
    gate (some (t_3, true)) (fun K => K b_p1 w) w fun t_5 w =>
    gate (some (t_3, true)) (fun K => pv prog (oBi .len #[23] 3 #[false] #[t_5]) w K) w fun t_6 w =>
    gate (some (t_3, true)) (fun K => pvv prog (binOp .lss 3 t_4 t_6) w K) w fun t_7 w =>
    pv prog (oPick t_3 t_7 (.bool false)) w fun t_8 w =>
    cd t_8 (
      dr w fun w =>
      pvv prog (Instr.indexAt 23 a_p0 i_0) w fun t_9 w =>
      pvv prog (Instr.indexAt 23 b_p1 i_0) w fun t_10 w =>
      bindS (vN (Instr.loadAt 5 t_9)) fun m_12 => ldv prog (Instr.loadAt 5 t_9) w fun t_11 w =>
      bindS (vN (Instr.loadAt 5 t_10)) fun m_14 => ldv prog (Instr.loadAt 5 t_10) w fun t_13 w =>
      pvv prog (oEq .neq 5 (.tmp 21) (.tmp 25) t_11 t_13) w fun t_15 w =>
      cd t_15 (
        dr w fun w =>
        pvv prog (Instr.indexAt 23 a_p0 i_0) w fun t_16 w =>
        pvv prog (Instr.indexAt 23 b_p1 i_0) w fun t_17 w =>
        bindS (vN (Instr.loadAt 5 t_16)) fun m_19 => ldv prog (Instr.loadAt 5 t_16) w fun t_18 w =>
        bindS (vN (Instr.loadAt 5 t_17)) fun m_21 => ldv prog (Instr.loadAt 5 t_17) w fun t_20 w =>
        pvv prog (binOp .lss 5 t_18 t_20) w fun t_22 w =>
        K t_22 w) <|
      pvv prog (binOp .add 3 i_0 (.int .i64 1)) w fun t_23 w =>
      again_1 [t_23] w) <|
    pv prog (oBi .len #[23] 3 #[false] #[a_p0]) w fun t_24 w =>
    pv prog (oBi .len #[23] 3 #[false] #[b_p1]) w fun t_25 w =>
    pvv prog (binOp .lss 3 t_24 t_25) w fun t_26 w =>
    K t_26 w) [(.int .i64 0)] w
theorem B13_eq (a_p0 b_p1 : Value) (w : World) (K : Value → World → Prop) : denFn prog Tryd.f13 T13 [a_p0, b_p1] w K = B13 a_p0 b_p1 w K := by kernel_rfl
theorem c13 {a_p0 b_p1 : Value} {w : World} {K : Value → World → Prop} (h : B13 a_p0 b_p1 w K) : Calls prog 13 #[a_p0, b_p1] w (Ret K) :=
  denFn_calls Tryd.func13 T13_ok (Eq.mpr (B13_eq a_p0 b_p1 w K) h)

-- 100 internal/bytealg.hashStr[string]
def T100 : Ann := (.seq .none (.seq .none (.seq (.seq .none (.block (.loop 4193840 [4, 5] (.seq (.seq .none (.seq .none .none)) (.seq (.block .none) .none))))) (.seq .none (.seq (.seq .none (.block (.loop 137422176704 [6, 7, 8] (.seq (.seq .none (.seq .none .none)) (.seq (.block (.meet 16911433792 [6] (.seq .none (.seq .none .none)) .none)) .none))))) (.seq .none .none))))))
theorem T100_ok : chkFn prog Tryd.f100 T100 = true := by kernel_rfl
def B100 (sep_p0 : Value) (w : World) (K : Value → World → Prop) : Prop :=
  lp (fun σ w again_2 => pop σ fun hash_0 σ => pop σ fun i_1 σ => fin σ <|
    pv prog (oBi .len #[9] 3 #[false] #[sep_p0]) w fun t_3 w =>
    pvv prog (binOp .lss 3 i_1 t_3) w fun t_4 w =>
    cd t_4 (
      pvv prog (binOp .mul 96 hash_0 (.int .u32 16777619)) w fun t_5 w =>
      pvv prog (Instr.index 9 sep_p0 i_1) w fun t_6 w =>
      pvv prog (convert 5 96 t_6) w fun t_7 w =>
      pvv prog (binOp .add 96 t_5 t_7) w fun t_8 w =>
      pvv prog (binOp .add 3 i_1 (.int .i64 1)) w fun t_9 w =>
      again_2 [t_8, t_9] w) <|
    pv prog (oBi .len #[9] 3 #[false] #[sep_p0]) w fun t_10 w =>
    lp (fun σ w again_14 => pop σ fun pow_11 σ => pop σ fun sq_12 σ => pop σ fun i_13 σ => fin σ <|
      pvv prog (binOp .gtr 3 i_13 (.int .i64 0)) w fun t_15 w =>
      cd t_15 (
        jn (fun σ w => pop σ fun pow_16 σ => fin σ <|
          pvv prog (binOp .mul 96 sq_12 sq_12) w fun t_17 w =>
          pvv prog (binOp .shr 3 i_13 (.int .u64 1)) w fun t_18 w =>
          again_14 [pow_16, t_17, t_18] w) fun k_19 =>
        pvv prog (binOp .and 3 i_13 (.int .i64 1)) w fun t_20 w =>
        pvv prog (oEq .neq 3 (.tmp 29) (.const (.int .i64 0)) t_20 (.int .i64 0)) w fun t_21 w =>
        cd t_21 (
          pvv prog (binOp .mul 96 pow_11 sq_12) w fun t_22 w =>
          k_19 [t_22] w) <|
        k_19 [pow_11] w) <|
      K (.tuple #[hash_0, pow_11]) w) [(.int .u32 1), (.int .u32 16777619), t_10] w) [(.int .u32 0), (.int .i64 0)] w
theorem B100_eq (sep_p0 : Value) (w : World) (K : Value → World → Prop) : denFn prog Tryd.f100 T100 [sep_p0] w K = B100 sep_p0 w K := by kernel_rfl
theorem c100 {sep_p0 : Value} {w : World} {K : Value → World → Prop} (h : B100 sep_p0 w K) : Calls prog 100 #[sep_p0] w (Ret K) :=
  denFn_calls Tryd.func100 T100_ok (Eq.mpr (B100_eq sep_p0 w K) h)

-- 51 strconv.toError
def T51 : Ann := (.seq .none (.seq (.seq .none (.block (.seq .none (.seq (.seq .none .none) (.seq .none (.seq (.seq .none .none) (.seq .none (.seq (.seq .none .none) (.seq .none (.seq (.seq .none .none) .none)))))))))) (.seq .none .none)))
theorem T51_ok : chkFn prog Tryd.f51 T51 = true := by kernel_rfl
def B51 (fn_p0 s_p1 base_p2 bitSize_p3 err_p4 : Value) (w : World) (K : Value → World → Prop) : Prop :=
  pvv prog (Instr.makeInterface 83 (.int .i64 2)) w fun t_0 w =>
  pvv prog (oEq .eql 51 (.tmp 11) (.tmp 13) err_p4 t_0) w fun t_1 w =>
  cd t_1 (
    Calls prog 68 #[fn_p0, s_p1] w (Ret fun t_2 w =>
    pvv prog (Instr.makeInterface 87 t_2) w fun t_3 w =>
    K t_3 w)) <|
  pvv prog (Instr.makeInterface 83 (.int .i64 1)) w fun t_4 w =>
  pvv prog (oEq .eql 51 (.tmp 11) (.tmp 20) err_p4 t_4) w fun t_5 w =>
  cd t_5 (
    Calls prog 69 #[fn_p0, s_p1] w (Ret fun t_6 w =>
    pvv prog (Instr.makeInterface 87 t_6) w fun t_7 w =>
    K t_7 w)) <|
  pvv prog (Instr.makeInterface 83 (.int .i64 3)) w fun t_8 w =>
  pvv prog (oEq .eql 51 (.tmp 11) (.tmp 27) err_p4 t_8) w fun t_9 w =>
  cd t_9 (
    Calls prog 70 #[fn_p0, s_p1, base_p2] w (Ret fun t_10 w =>
    pvv prog (Instr.makeInterface 87 t_10) w fun t_11 w =>
    K t_11 w)) <|
  pvv prog (Instr.makeInterface 83 (.int .i64 4)) w fun t_12 w =>
  pvv prog (oEq .eql 51 (.tmp 11) (.tmp 35) err_p4 t_12) w fun t_13 w =>
  cd t_13 (
    Calls prog 71 #[fn_p0, s_p1, bitSize_p3] w (Ret fun t_14 w =>
    pvv prog (Instr.makeInterface 87 t_14) w fun t_15 w =>
    K t_15 w)) <|
  K err_p4 w
theorem B51_eq (fn_p0 s_p1 base_p2 bitSize_p3 err_p4 : Value) (w : World) (K : Value → World → Prop) : denFn prog Tryd.f51 T51 [fn_p0, s_p1, base_p2, bitSize_p3, err_p4] w K = B51 fn_p0 s_p1 base_p2 bitSize_p3 err_p4 w K := by kernel_rfl
theorem c51 {fn_p0 s_p1 base_p2 bitSize_p3 err_p4 : Value} {w : World} {K : Value → World → Prop} (h : B51 fn_p0 s_p1 base_p2 bitSize_p3 err_p4 w K) : Calls prog 51 #[fn_p0, s_p1, base_p2, bitSize_p3, err_p4] w (Ret K) :=
  denFn_calls Tryd.func51 T51_ok (Eq.mpr (B51_eq fn_p0 s_p1 base_p2 bitSize_p3 err_p4 w K) h)

-- 3 holdfast/holdfastlaw02.CodecOrders
def T3 : Ann := (.seq .none (.seq .none (.seq .none (.seq (.seq .none (.seq (.seq .none .none) .none)) (.seq .none .none)))))
theorem T3_ok : chkFn prog Tryd.f3 T3 = true := by kernel_rfl
def B3 (a_p0 b_p1 : Value) (w : World) (K : Value → World → Prop) : Prop :=
  Calls prog 11 #[a_p0] w (Ret fun t_0 w =>
  pvv prog (Instr.extract t_0 0) w fun t_1 w =>
  pvv prog (Instr.extract t_0 1) w fun t_2 w =>
  Calls prog 11 #[b_p1] w (Ret fun t_3 w =>
  pvv prog (Instr.extract t_3 0) w fun t_4 w =>
  pvv prog (Instr.extract t_3 1) w fun t_5 w =>
  pvv prog (oEq .neq 24 (.tmp 19) (.const (.int .i64 0)) t_2 (.int .i64 0)) w fun t_6 w =>
  gate (some (t_6, false)) (fun K => K t_5 w) w fun t_7 w =>
  gate (some (t_6, false)) (fun K => pvv prog (oEq .neq 24 (.tmp 22) (.const (.int .i64 0)) t_7 (.int .i64 0)) w K) w fun t_8 w =>
  pv prog (oPick t_6 (.bool true) t_8) w fun t_9 w =>
  cd t_9 (
    Calls prog 12 #[] w (Ret fun t_10 w =>
    K t_10 w)) <|
  Calls prog 12 #[] w (Ret fun t_11 w =>
  gate (some (t_11, true)) (fun K => K t_1 w) w fun t_12 w =>
  gate (some (t_11, true)) (fun K => K t_4 w) w fun t_13 w =>
  gate (some (t_11, true)) (fun K => Calls prog 13 #[t_12, t_13] w (Ret K)) w fun t_14 w =>
  gate (some (t_11, true)) (fun K => K a_p0 w) w fun t_15 w =>
  gate (some (t_11, true)) (fun K => K b_p1 w) w fun t_16 w =>
  gate (some (t_11, true)) (fun K => Calls prog 14 #[t_15, t_16] w (Ret K)) w fun t_17 w =>
  gate (some (t_11, true)) (fun K => pvv prog (oEq .eql 4 (.tmp 30) (.tmp 33) t_14 t_17) w K) w fun t_18 w =>
  pv prog (oPick t_11 t_18 (.bool false)) w fun t_19 w =>
  K t_19 w)))
theorem B3_eq (a_p0 b_p1 : Value) (w : World) (K : Value → World → Prop) : denFn prog Tryd.f3 T3 [a_p0, b_p1] w K = B3 a_p0 b_p1 w K := by kernel_rfl
theorem c3 {a_p0 b_p1 : Value} {w : World} {K : Value → World → Prop} (h : B3 a_p0 b_p1 w K) : Calls prog 3 #[a_p0, b_p1] w (Ret K) :=
  denFn_calls Tryd.func3 T3_ok (Eq.mpr (B3_eq a_p0 b_p1 w K) h)

-- 16 holdfast/holdfastref01.SameBytes
def T16 : Ann := (.seq .none (.seq (.seq .none (.seq (.seq .none .none) .none)) (.seq (.seq .none (.block (.loop 67106864 [5] (.seq (.seq .none (.seq .none .none)) (.seq (.block (.seq (.draw [(0, .pure), (1, .pure), (2, .pure), (4, .pure), (5, .pure), (6, .pure), (3, .load), (7, .load), (8, .pure)]) (.seq (.seq .none .none) .none))) .none))))) (.seq .none .none))))
theorem T16_ok : chkFn prog Tryd.f16 T16 = true := by kernel_rfl
def B16 (a_p0 b_p1 : Value) (w : World) (K : Value → World → Prop) : Prop :=
  pv prog (oBi .len #[23] 3 #[false] #[a_p0]) w fun t_0 w =>
  pv prog (oBi .len #[23] 3 #[false] #[b_p1]) w fun t_1 w =>
  pvv prog (oEq .neq 3 (.tmp 7) (.tmp 9) t_0 t_1) w fun t_2 w =>
  cd t_2 (
    K (.bool false) w) <|
  lp (fun σ w again_4 => pop σ fun i_3 σ => fin σ <|
    pv prog (oBi .len #[23] 3 #[false] #[a_p0]) w fun t_5 w =>
    pvv prog (binOp .lss 3 i_3 t_5) w fun t_6 w =>
    cd t_6 (
      dr w fun w =>
      pvv prog (Instr.indexAt 23 a_p0 i_3) w fun t_7 w =>
      pvv prog (Instr.indexAt 23 b_p1 i_3) w fun t_8 w =>
      bindS (vN (Instr.loadAt 5 t_7)) fun m_10 => ldv prog (Instr.loadAt 5 t_7) w fun t_9 w =>
      bindS (vN (Instr.loadAt 5 t_8)) fun m_12 => ldv prog (Instr.loadAt 5 t_8) w fun t_11 w =>
      pvv prog (oEq .neq 5 (.tmp 20) (.tmp 24) t_9 t_11) w fun t_13 w =>
      cd t_13 (
        K (.bool false) w) <|
      pvv prog (binOp .add 3 i_3 (.int .i64 1)) w fun t_14 w =>
      again_4 [t_14] w) <|
    K (.bool true) w) [(.int .i64 0)] w
theorem B16_eq (a_p0 b_p1 : Value) (w : World) (K : Value → World → Prop) : denFn prog Tryd.f16 T16 [a_p0, b_p1] w K = B16 a_p0 b_p1 w K := by kernel_rfl
theorem c16 {a_p0 b_p1 : Value} {w : World} {K : Value → World → Prop} (h : B16 a_p0 b_p1 w K) : Calls prog 16 #[a_p0, b_p1] w (Ret K) :=
  denFn_calls Tryd.func16 T16_ok (Eq.mpr (B16_eq a_p0 b_p1 w K) h)

-- 48 strings.trimLeftUnicode
def T48 : Ann := (.seq .none (.meet 4194273 [0] (.block (.loop 4194273 [0] (.seq (.seq .none (.seq .none .none)) (.block (.seq .none (.seq (.seq .none (.seq .none .none)) .none)))))) (.seq .none .none)))
theorem T48_ok : chkFn prog Tryd.f48 T48 = true := by kernel_rfl
def B48 (s_p0 cutset_p1 : Value) (w : World) (K : Value → World → Prop) : Prop :=
  jn (fun σ w => pop σ fun s_0 σ => fin σ <|
    K s_0 w) fun k_1 =>
  lp (fun σ w again_3 => pop σ fun s_2 σ => fin σ <|
    pv prog (oBi .len #[9] 3 #[false] #[s_2]) w fun t_4 w =>
    pvv prog (binOp .gtr 3 t_4 (.int .i64 0)) w fun t_5 w =>
    cd t_5 (
      Calls prog 56 #[s_2] w (Ret fun t_6 w =>
      pvv prog (Instr.extract t_6 0) w fun t_7 w =>
      pvv prog (Instr.extract t_6 1) w fun t_8 w =>
      Calls prog 64 #[cutset_p1, t_7] w (Ret fun t_9 w =>
      pvv prog (Op.unary .not t_9) w fun t_10 w =>
      cd t_10 (
        k_1 [s_2] w) <|
      pvv prog (Instr.sliceAt 9 s_2 (some t_8) none none) w fun t_11 w =>
      again_3 [t_11] w))) <|
    k_1 [s_2] w) [s_p0] w
theorem B48_eq (s_p0 cutset_p1 : Value) (w : World) (K : Value → World → Prop) : denFn prog Tryd.f48 T48 [s_p0, cutset_p1] w K = B48 s_p0 cutset_p1 w K := by kernel_rfl
theorem c48 {s_p0 cutset_p1 : Value} {w : World} {K : Value → World → Prop} (h : B48 s_p0 cutset_p1 w K) : Calls prog 48 #[s_p0, cutset_p1] w (Ret K) :=
  denFn_calls Tryd.func48 T48_ok (Eq.mpr (B48_eq s_p0 cutset_p1 w K) h)

-- 57 (*strings.Builder).String
def T57 : Ann := (.seq .none (.seq (.draw [(0, .pure), (1, .pure), (2, .pure), (5, .pure), (6, .pure), (7, .pure), (3, .load), (8, .load), (9, .pure), (4, .eff), (10, .eff), (11, .pure)]) .none))
theorem T57_ok : chkFn prog Tryd.f57 T57 = true := by kernel_rfl
def B57 (b_p0 : Value) (w : World) (K : Value → World → Prop) : Prop :=
  dr w fun w =>
  pv prog (oNil b_p0) w fun t_0 w =>
  pvv prog (Instr.fieldAt 68 t_0 1) w fun t_1 w =>
  pv prog (oNil b_p0) w fun t_2 w =>
  pvv prog (Instr.fieldAt 68 t_2 1) w fun t_3 w =>
  bindS (vN (Instr.loadAt 23 t_1)) fun m_5 => ldv prog (Instr.loadAt 23 t_1) w fun t_4 w =>
  bindS (vN (Instr.loadAt 23 t_3)) fun m_7 => ldv prog (Instr.loadAt 23 t_3) w fun t_6 w =>
  pv prog (oBi .len #[23] 3 #[false] #[t_6]) w fun t_8 w =>
  ef prog (oBi .unsafeSliceData #[23] 92 #[false] #[t_4]) w fun t_9 w => stay prog none m_7 t_6 w <| 
  ef prog (oBi .unsafeString #[92, 3] 9 #[false, false] #[t_9, t_8]) w fun t_10 w => stay prog none m_7 t_6 w <| stay prog none m_5 t_4 w <| 
  K t_10 w
theorem B57_eq (b_p0 : Value) (w : World) (K : Value → World → Prop) : denFn prog Tryd.f57 T57 [b_p0] w K = B57 b_p0 w K := by kernel_rfl
theorem c57 {b_p0 : Value} {w : World} {K : Value → World → Prop} (h : B57 b_p0 w K) : Calls prog 57 #[b_p0] w (Ret K) :=
  denFn_calls Tryd.func57 T57_ok (Eq.mpr (B57_eq b_p0 w K) h)

-- 46 strings.trimLeftASCII
def T46 : Ann := (.seq .none (.meet 32737 [0] (.block (.loop 32737 [0] (.seq (.seq .none (.seq .none .none)) (.block (.seq (.seq .none (.seq .none .none)) .none))))) (.seq .none .none)))
theorem T46_ok : chkFn prog Tryd.f46 T46 = true := by kernel_rfl
def B46 (s_p0 as_p1 : Value) (w : World) (K : Value → World → Prop) : Prop :=
  jn (fun σ w => pop σ fun s_0 σ => fin σ <|
    K s_0 w) fun k_1 =>
  lp (fun σ w again_3 => pop σ fun s_2 σ => fin σ <|
    pv prog (oBi .len #[9] 3 #[false] #[s_2]) w fun t_4 w =>
    pvv prog (binOp .gtr 3 t_4 (.int .i64 0)) w fun t_5 w =>
    cd t_5 (
      pvv prog (Instr.index 9 s_2 (.int .i64 0)) w fun t_6 w =>
      Calls prog 63 #[as_p1, t_6] w (Ret fun t_7 w =>
      pvv prog (Op.unary .not t_7) w fun t_8 w =>
      cd t_8 (
        k_1 [s_2] w) <|
      pvv prog (Instr.sliceAt 9 s_2 (some (.int .i64 1)) none none) w fun t_9 w =>
      again_3 [t_9] w)) <|
    k_1 [s_2] w) [s_p0] w
theorem B46_eq (s_p0 as_p1 : Value) (w : World) (K : Value → World → Prop) : denFn prog Tryd.f46 T46 [s_p0, as_p1] w K = B46 s_p0 as_p1 w K := by kernel_rfl
theorem c46 {s_p0 as_p1 : Value} {w : World} {K : Value → World → Prop} (h : B46 s_p0 as_p1 w K) : Calls prog 46 #[s_p0, as_p1] w (Ret K) :=
  denFn_calls Tryd.func46 T46_ok (Eq.mpr (B46_eq s_p0 as_p1 w K) h)

-- 95 math/bits.TrailingZeros64
def T95 : Ann := (.seq .none (.seq (.seq .none (.seq (.seq .none .none) .none)) (.seq .none .none)))
theorem T95_ok : chkFn prog Tryd.f95 T95 = true := by kernel_rfl
def B95 (x_p0 : Value) (w : World) (K : Value → World → Prop) : Prop :=
  pvv prog (oEq .eql 49 (.tmp 3) (.const (.int .u64 0)) x_p0 (.int .u64 0)) w fun t_0 w =>
  cd t_0 (
    K (.int .i64 64) w) <|
  pvv prog (Op.unary .neg x_p0) w fun t_1 w =>
  pvv prog (binOp .and 49 x_p0 t_1) w fun t_2 w =>
  pvv prog (binOp .mul 49 t_2 (.int .u64 285870213051353865)) w fun t_3 w =>
  pvv prog (binOp .shr 49 t_3 (.int .u64 58)) w fun t_4 w =>
  pvv prog (Instr.indexAt 119 (.pointer (some ⟨7, 0, none⟩)) t_4) w fun t_5 w =>
  ldv prog (Instr.loadAt 5 t_5) w fun t_6 w =>
  pvv prog (convert 5 3 t_6) w fun t_7 w =>
  K t_7 w
theorem B95_eq (x_p0 : Value) (w : World) (K : Value → World → Prop) : denFn prog Tryd.f95 T95 [x_p0] w K = B95 x_p0 w K := by kernel_rfl
theorem c95 {x_p0 : Value} {w : World} {K : Value → World → Prop} (h : B95 x_p0 w K) : Calls prog 95 #[x_p0] w (Ret K) :=
  denFn_calls Tryd.func95 T95_ok (Eq.mpr (B95_eq x_p0 w K) h)

-- 71 strconv.bitSizeError
def T71 : Ann := (.seq .none (.seq .none .none))
theorem T71_ok : chkFn prog Tryd.f71 T71 = true := by kernel_rfl
def B71 (fn_p0 str_p1 bitSize_p2 : Value) (w : World) (K : Value → World → Prop) : Prop :=
  Calls prog 85 #[str_p1] w (Ret fun t_0 w =>
  Calls prog 87 #[bitSize_p2] w (Ret fun t_1 w =>
  pvv prog (binOp .add 9 (.string ⟨#[105, 110, 118, 97, 108, 105, 100, 32, 98, 105, 116, 32, 115, 105, 122, 101, 32]⟩) t_1) w fun t_2 w =>
  Calls prog 86 #[t_2] w (Ret fun t_3 w =>
  pvv prog (Instr.build 102 #[(0, fn_p0), (1, t_0), (2, t_3)]) w fun t_4 w =>
  efv prog (Instr.box 102 t_4) w fun t_5 w =>
  K t_5 w)))
theorem B71_eq (fn_p0 str_p1 bitSize_p2 : Value) (w : World) (K : Value → World → Prop) : denFn prog Tryd.f71 T71 [fn_p0, str_p1, bitSize_p2] w K = B71 fn_p0 str_p1 bitSize_p2 w K := by kernel_rfl
theorem c71 {fn_p0 str_p1 bitSize_p2 : Value} {w : World} {K : Value → World → Prop} (h : B71 fn_p0 str_p1 bitSize_p2 w K) : Calls prog 71 #[fn_p0, str_p1, bitSize_p2] w (Ret K) :=
  denFn_calls Tryd.func71 T71_ok (Eq.mpr (B71_eq fn_p0 str_p1 bitSize_p2 w K) h)

-- 72 unicode/utf8.RuneCountInString
def T72 : Ann := (.seq .none (.seq (.seq .none (.block (.loop 484 [2] (.seq .none (.seq (.seq .none .none) (.block .none)))))) (.seq .none .none)))
theorem T72_ok : chkFn prog Tryd.f72 T72 = true := by kernel_rfl
def B72 (s_p0 : Value) (w : World) (K : Value → World → Prop) : Prop :=
  efv prog (Instr.range 9 s_p0) w fun t_0 w =>
  lp (fun σ w again_2 => pop σ fun n_1 σ => fin σ <|
    efv prog (Instr.next t_0 true 0) w fun t_3 w =>
    pvv prog (Instr.extract t_3 0) w fun t_4 w =>
    cd t_4 (
      pvv prog (binOp .add 3 n_1 (.int .i64 1)) w fun t_5 w =>
      again_2 [t_5] w) <|
    K n_1 w) [(.int .i64 0)] w
theorem B72_eq (s_p0 : Value) (w : World) (K : Value → World → Prop) : denFn prog Tryd.f72 T72 [s_p0] w K = B72 s_p0 w K := by kernel_rfl
theorem c72 {s_p0 : Value} {w : World} {K : Value → World → Prop} (h : B72 s_p0 w K) : Calls prog 72 #[s_p0] w (Ret K) :=
  denFn_calls Tryd.func72 T72_ok (Eq.mpr (B72_eq s_p0 w K) h)

-- 29 strings.ReplaceAll
def T29 : Ann := (.seq .none (.seq .none .none))
theorem T29_ok : chkFn prog Tryd.f29 T29 = true := by kernel_rfl
def B29 (s_p0 old_p1 new_p2 : Value) (w : World) (K : Value → World → Prop) : Prop :=
  Calls prog 37 #[s_p0, old_p1, new_p2, (.int .i64 (-1))] w (Ret fun t_0 w =>
  K t_0 w)
theorem B29_eq (s_p0 old_p1 new_p2 : Value) (w : World) (K : Value → World → Prop) : denFn prog Tryd.f29 T29 [s_p0, old_p1, new_p2] w K = B29 s_p0 old_p1 new_p2 w K := by kernel_rfl
theorem c29 {s_p0 old_p1 new_p2 : Value} {w : World} {K : Value → World → Prop} (h : B29 s_p0 old_p1 new_p2 w K) : Calls prog 29 #[s_p0, old_p1, new_p2] w (Ret K) :=
  denFn_calls Tryd.func29 T29_ok (Eq.mpr (B29_eq s_p0 old_p1 new_p2 w K) h)

-- 30 strings.TrimPrefix
def T30 : Ann := (.seq .none (.seq .none .none))
theorem T30_ok : chkFn prog Tryd.f30 T30 = true := by kernel_rfl
def B30 (s_p0 prefix_p1 : Value) (w : World) (K : Value → World → Prop) : Prop :=
  Calls prog 38 #[s_p0, prefix_p1] w (Ret fun t_0 w =>
  K t_0 w)
theorem B30_eq (s_p0 prefix_p1 : Value) (w : World) (K : Value → World → Prop) : denFn prog Tryd.f30 T30 [s_p0, prefix_p1] w K = B30 s_p0 prefix_p1 w K := by kernel_rfl
theorem c30 {s_p0 prefix_p1 : Value} {w : World} {K : Value → World → Prop} (h : B30 s_p0 prefix_p1 w K) : Calls prog 30 #[s_p0, prefix_p1] w (Ret K) :=
  denFn_calls Tryd.func30 T30_ok (Eq.mpr (B30_eq s_p0 prefix_p1 w K) h)

-- 54 strings.Index
def T54 : Ann := (.seq .none (.seq .none .none))
theorem T54_ok : chkFn prog Tryd.f54 T54 = true := by kernel_rfl
def B54 (s_p0 substr_p1 : Value) (w : World) (K : Value → World → Prop) : Prop :=
  Calls prog 76 #[s_p0, substr_p1] w (Ret fun t_0 w =>
  K t_0 w)
theorem B54_eq (s_p0 substr_p1 : Value) (w : World) (K : Value → World → Prop) : denFn prog Tryd.f54 T54 [s_p0, substr_p1] w K = B54 s_p0 substr_p1 w K := by kernel_rfl
theorem c54 {s_p0 substr_p1 : Value} {w : World} {K : Value → World → Prop} (h : B54 s_p0 substr_p1 w K) : Calls prog 54 #[s_p0, substr_p1] w (Ret K) :=
  denFn_calls Tryd.func54 T54_ok (Eq.mpr (B54_eq s_p0 substr_p1 w K) h)

-- 31 strconv.FormatInt
def T31 : Ann := (.seq .none (.seq .none .none))
theorem T31_ok : chkFn prog Tryd.f31 T31 = true := by kernel_rfl
def B31 (i_p0 base_p1 : Value) (w : World) (K : Value → World → Prop) : Prop :=
  Calls prog 39 #[i_p0, base_p1] w (Ret fun t_0 w =>
  K t_0 w)
theorem B31_eq (i_p0 base_p1 : Value) (w : World) (K : Value → World → Prop) : denFn prog Tryd.f31 T31 [i_p0, base_p1] w K = B31 i_p0 base_p1 w K := by kernel_rfl
theorem c31 {i_p0 base_p1 : Value} {w : World} {K : Value → World → Prop} (h : B31 i_p0 base_p1 w K) : Calls prog 31 #[i_p0, base_p1] w (Ret K) :=
  denFn_calls Tryd.func31 T31_ok (Eq.mpr (B31_eq i_p0 base_p1 w K) h)

-- 41 bytes.IndexByte
def T41 : Ann := (.seq .none (.seq .none .none))
theorem T41_ok : chkFn prog Tryd.f41 T41 = true := by kernel_rfl
def B41 (b_p0 c_p1 : Value) (w : World) (K : Value → World → Prop) : Prop :=
  ef prog (oCall (.func (.func 62) #[] #[]) #[b_p0, c_p1]) w fun t_0 w =>
  K t_0 w
theorem B41_eq (b_p0 c_p1 : Value) (w : World) (K : Value → World → Prop) : denFn prog Tryd.f41 T41 [b_p0, c_p1] w K = B41 b_p0 c_p1 w K := by kernel_rfl
theorem c41 {b_p0 c_p1 : Value} {w : World} {K : Value → World → Prop} (h : B41 b_p0 c_p1 w K) : Calls prog 41 #[b_p0, c_p1] w (Ret K) :=
  denFn_calls Tryd.func41 T41_ok (Eq.mpr (B41_eq b_p0 c_p1 w K) h)


end Go.Proofs.YtnkmgkilfkgfhaaDoor
