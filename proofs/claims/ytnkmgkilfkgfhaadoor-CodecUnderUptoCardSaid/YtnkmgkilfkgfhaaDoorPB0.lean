import Derived.Test.YtnkmgkilfkgfhaaDoorPI
set_option linter.all false
set_option maxRecDepth 100000
namespace Go.Proofs.YtnkmgkilfkgfhaaDoor
open Go Hold
-- 60 internal/strconv.formatBase10
def T60 : Ann := (.seq .none (.seq (.block (.loop 79228162514264337593543430130 [1, 4] (.seq (.seq .none (.seq .none .none)) (.block (.seq .none (.seq .none (.seq .none (.seq .none (.seq .none (.seq (.draw [(0, .pure), (1, .pure), (2, .pure), (3, .pure), (4, .pure), (5, .pure), (6, .pure), (7, .pure), (8, .pure), (9, .pure), (10, .pure), (11, .pure), (12, .eff), (13, .pure), (14, .eff)]) (.seq (.draw [(0, .pure), (1, .pure), (2, .pure), (3, .pure), (4, .pure), (5, .pure), (6, .pure), (7, .pure), (8, .pure), (9, .pure), (10, .pure), (11, .pure), (12, .eff), (13, .pure), (14, .eff)]) (.seq (.draw [(0, .pure), (1, .pure), (2, .pure), (3, .pure), (4, .pure), (5, .pure), (6, .pure), (7, .pure), (8, .pure), (9, .pure), (10, .pure), (11, .pure), (12, .eff), (13, .pure), (14, .eff)]) (.seq (.draw [(0, .pure), (1, .pure), (2, .pure), (3, .pure), (4, .pure), (5, .pure), (6, .pure), (7, .pure), (8, .pure), (9, .pure), (10, .pure), (11, .pure), (12, .eff), (13, .pure), (14, .eff)]) .none))))))))))))) (.seq .none (.meet 348449143726724073936438540659756472791056 [4, 12] (.seq .none (.seq (.seq .none (.seq .none (.seq .none (.seq (.draw [(0, .pure), (1, .pure), (2, .pure), (3, .pure), (4, .pure), (5, .pure), (6, .pure), (7, .pure), (8, .pure), (9, .pure), (10, .pure), (11, .pure), (12, .eff), (13, .pure), (14, .eff)]) (.seq (.draw [(0, .pure), (1, .pure), (2, .pure), (3, .pure), (4, .pure), (5, .pure), (6, .pure), (7, .pure), (8, .pure), (9, .pure), (10, .pure), (11, .pure), (12, .eff), (13, .pure), (14, .eff)]) .none))))) .none)) (.meet 1461501288881759191162698246220685009525284081680 [4, 12] (.seq .none (.seq (.seq .none (.seq .none (.seq (.draw [(0, .pure), (1, .pure), (2, .pure), (3, .pure), (4, .pure), (5, .pure), (6, .pure), (7, .pure), (8, .pure), (9, .pure), (10, .pure), (11, .pure), (12, .eff), (13, .pure), (14, .eff)]) .none))) .none)) (.seq .none (.seq .none .none)))))))
theorem T60_ok : chkFn prog Tryd.f60 T60 = true := by kernel_rfl
def B60 (a_p0 u_p1 : Value) (w : World) (K : Value → World → Prop) : Prop :=
  pv prog (oBi .len #[23] 3 #[false] #[a_p0]) w fun t_0 w =>
  lp (fun σ w again_3 => pop σ fun u_1 σ => pop σ fun nd_2 σ => fin σ <|
    pvv prog (binOp .geq 3 nd_2 (.int .i64 8)) w fun t_4 w =>
    cd t_4 (
      pvv prog (binOp .rem 49 u_1 (.int .u64 100000000)) w fun t_5 w =>
      pvv prog (convert 49 96 t_5) w fun t_6 w =>
      pvv prog (binOp .quo 49 u_1 (.int .u64 100000000)) w fun t_7 w =>
      pvv prog (binOp .quo 96 t_6 (.int .u32 10000)) w fun t_8 w =>
      pvv prog (binOp .rem 96 t_6 (.int .u32 10000)) w fun t_9 w =>
      pvv prog (binOp .quo 96 t_9 (.int .u32 100)) w fun t_10 w =>
      pvv prog (binOp .mul 96 t_10 (.int .u32 2)) w fun t_11 w =>
      pvv prog (binOp .rem 96 t_9 (.int .u32 100)) w fun t_12 w =>
      pvv prog (binOp .mul 96 t_12 (.int .u32 2)) w fun t_13 w =>
      pvv prog (binOp .quo 96 t_8 (.int .u32 100)) w fun t_14 w =>
      pvv prog (binOp .mul 96 t_14 (.int .u32 2)) w fun t_15 w =>
      pvv prog (binOp .rem 96 t_8 (.int .u32 100)) w fun t_16 w =>
      pvv prog (binOp .mul 96 t_16 (.int .u32 2)) w fun t_17 w =>
      dr w fun w =>
      pvv prog (binOp .sub 3 nd_2 (.int .i64 1)) w fun t_18 w =>
      pvv prog (binOp .sub 3 nd_2 (.int .i64 2)) w fun t_19 w =>
      pvv prog (binOp .add 96 t_13 (.int .u32 1)) w fun t_20 w =>
      pvv prog (Instr.index 9 (.string ⟨#[48, 48, 48, 49, 48, 50, 48, 51, 48, 52, 48, 53, 48, 54, 48, 55, 48, 56, 48, 57, 49, 48, 49, 49, 49, 50, 49, 51, 49, 52, 49, 53, 49, 54, 49, 55, 49, 56, 49, 57, 50, 48, 50, 49, 50, 50, 50, 51, 50, 52, 50, 53, 50, 54, 50, 55, 50, 56, 50, 57, 51, 48, 51, 49, 51, 50, 51, 51, 51, 52, 51, 53, 51, 54, 51, 55, 51, 56, 51, 57, 52, 48, 52, 49, 52, 50, 52, 51, 52, 52, 52, 53, 52, 54, 52, 55, 52, 56, 52, 57, 53, 48, 53, 49, 53, 50, 53, 51, 53, 52, 53, 53, 53, 54, 53, 55, 53, 56, 53, 57, 54, 48, 54, 49, 54, 50, 54, 51, 54, 52, 54, 53, 54, 54, 54, 55, 54, 56, 54, 57, 55, 48, 55, 49, 55, 50, 55, 51, 55, 52, 55, 53, 55, 54, 55, 55, 55, 56, 55, 57, 56, 48, 56, 49, 56, 50, 56, 51, 56, 52, 56, 53, 56, 54, 56, 55, 56, 56, 56, 57, 57, 48, 57, 49, 57, 50, 57, 51, 57, 52, 57, 53, 57, 54, 57, 55, 57, 56, 57, 57]⟩) t_20) w fun t_21 w =>
      pvv prog (Instr.index 9 (.string ⟨#[48, 48, 48, 49, 48, 50, 48, 51, 48, 52, 48, 53, 48, 54, 48, 55, 48, 56, 48, 57, 49, 48, 49, 49, 49, 50, 49, 51, 49, 52, 49, 53, 49, 54, 49, 55, 49, 56, 49, 57, 50, 48, 50, 49, 50, 50, 50, 51, 50, 52, 50, 53, 50, 54, 50, 55, 50, 56, 50, 57, 51, 48, 51, 49, 51, 50, 51, 51, 51, 52, 51, 53, 51, 54, 51, 55, 51, 56, 51, 57, 52, 48, 52, 49, 52, 50, 52, 51, 52, 52, 52, 53, 52, 54, 52, 55, 52, 56, 52, 57, 53, 48, 53, 49, 53, 50, 53, 51, 53, 52, 53, 53, 53, 54, 53, 55, 53, 56, 53, 57, 54, 48, 54, 49, 54, 50, 54, 51, 54, 52, 54, 53, 54, 54, 54, 55, 54, 56, 54, 57, 55, 48, 55, 49, 55, 50, 55, 51, 55, 52, 55, 53, 55, 54, 55, 55, 55, 56, 55, 57, 56, 48, 56, 49, 56, 50, 56, 51, 56, 52, 56, 53, 56, 54, 56, 55, 56, 56, 56, 57, 57, 48, 57, 49, 57, 50, 57, 51, 57, 52, 57, 53, 57, 54, 57, 55, 57, 56, 57, 57]⟩) t_13) w fun t_22 w =>
      pvv prog (Instr.indexAt 23 a_p0 t_18) w fun t_23 w =>
      efu prog (Instr.storeAt 5 t_23 t_21) w fun u_24 w =>
      pvv prog (Instr.indexAt 23 a_p0 t_19) w fun t_25 w =>
      efu prog (Instr.storeAt 5 t_25 t_22) w fun u_26 w =>
      dr w fun w =>
      pvv prog (binOp .sub 3 nd_2 (.int .i64 3)) w fun t_27 w =>
      pvv prog (binOp .sub 3 nd_2 (.int .i64 4)) w fun t_28 w =>
      pvv prog (binOp .add 96 t_11 (.int .u32 1)) w fun t_29 w =>
      pvv prog (Instr.index 9 (.string ⟨#[48, 48, 48, 49, 48, 50, 48, 51, 48, 52, 48, 53, 48, 54, 48, 55, 48, 56, 48, 57, 49, 48, 49, 49, 49, 50, 49, 51, 49, 52, 49, 53, 49, 54, 49, 55, 49, 56, 49, 57, 50, 48, 50, 49, 50, 50, 50, 51, 50, 52, 50, 53, 50, 54, 50, 55, 50, 56, 50, 57, 51, 48, 51, 49, 51, 50, 51, 51, 51, 52, 51, 53, 51, 54, 51, 55, 51, 56, 51, 57, 52, 48, 52, 49, 52, 50, 52, 51, 52, 52, 52, 53, 52, 54, 52, 55, 52, 56, 52, 57, 53, 48, 53, 49, 53, 50, 53, 51, 53, 52, 53, 53, 53, 54, 53, 55, 53, 56, 53, 57, 54, 48, 54, 49, 54, 50, 54, 51, 54, 52, 54, 53, 54, 54, 54, 55, 54, 56, 54, 57, 55, 48, 55, 49, 55, 50, 55, 51, 55, 52, 55, 53, 55, 54, 55, 55, 55, 56, 55, 57, 56, 48, 56, 49, 56, 50, 56, 51, 56, 52, 56, 53, 56, 54, 56, 55, 56, 56, 56, 57, 57, 48, 57, 49, 57, 50, 57, 51, 57, 52, 57, 53, 57, 54, 57, 55, 57, 56, 57, 57]⟩) t_29) w fun t_30 w =>
      pvv prog (Instr.index 9 (.string ⟨#[48, 48, 48, 49, 48, 50, 48, 51, 48, 52, 48, 53, 48, 54, 48, 55, 48, 56, 48, 57, 49, 48, 49, 49, 49, 50, 49, 51, 49, 52, 49, 53, 49, 54, 49, 55, 49, 56, 49, 57, 50, 48, 50, 49, 50, 50, 50, 51, 50, 52, 50, 53, 50, 54, 50, 55, 50, 56, 50, 57, 51, 48, 51, 49, 51, 50, 51, 51, 51, 52, 51, 53, 51, 54, 51, 55, 51, 56, 51, 57, 52, 48, 52, 49, 52, 50, 52, 51, 52, 52, 52, 53, 52, 54, 52, 55, 52, 56, 52, 57, 53, 48, 53, 49, 53, 50, 53, 51, 53, 52, 53, 53, 53, 54, 53, 55, 53, 56, 53, 57, 54, 48, 54, 49, 54, 50, 54, 51, 54, 52, 54, 53, 54, 54, 54, 55, 54, 56, 54, 57, 55, 48, 55, 49, 55, 50, 55, 51, 55, 52, 55, 53, 55, 54, 55, 55, 55, 56, 55, 57, 56, 48, 56, 49, 56, 50, 56, 51, 56, 52, 56, 53, 56, 54, 56, 55, 56, 56, 56, 57, 57, 48, 57, 49, 57, 50, 57, 51, 57, 52, 57, 53, 57, 54, 57, 55, 57, 56, 57, 57]⟩) t_11) w fun t_31 w =>
      pvv prog (Instr.indexAt 23 a_p0 t_27) w fun t_32 w =>
      efu prog (Instr.storeAt 5 t_32 t_30) w fun u_33 w =>
      pvv prog (Instr.indexAt 23 a_p0 t_28) w fun t_34 w =>
      efu prog (Instr.storeAt 5 t_34 t_31) w fun u_35 w =>
      dr w fun w =>
      pvv prog (binOp .sub 3 nd_2 (.int .i64 5)) w fun t_36 w =>
      pvv prog (binOp .sub 3 nd_2 (.int .i64 6)) w fun t_37 w =>
      pvv prog (binOp .add 96 t_17 (.int .u32 1)) w fun t_38 w =>
      pvv prog (Instr.index 9 (.string ⟨#[48, 48, 48, 49, 48, 50, 48, 51, 48, 52, 48, 53, 48, 54, 48, 55, 48, 56, 48, 57, 49, 48, 49, 49, 49, 50, 49, 51, 49, 52, 49, 53, 49, 54, 49, 55, 49, 56, 49, 57, 50, 48, 50, 49, 50, 50, 50, 51, 50, 52, 50, 53, 50, 54, 50, 55, 50, 56, 50, 57, 51, 48, 51, 49, 51, 50, 51, 51, 51, 52, 51, 53, 51, 54, 51, 55, 51, 56, 51, 57, 52, 48, 52, 49, 52, 50, 52, 51, 52, 52, 52, 53, 52, 54, 52, 55, 52, 56, 52, 57, 53, 48, 53, 49, 53, 50, 53, 51, 53, 52, 53, 53, 53, 54, 53, 55, 53, 56, 53, 57, 54, 48, 54, 49, 54, 50, 54, 51, 54, 52, 54, 53, 54, 54, 54, 55, 54, 56, 54, 57, 55, 48, 55, 49, 55, 50, 55, 51, 55, 52, 55, 53, 55, 54, 55, 55, 55, 56, 55, 57, 56, 48, 56, 49, 56, 50, 56, 51, 56, 52, 56, 53, 56, 54, 56, 55, 56, 56, 56, 57, 57, 48, 57, 49, 57, 50, 57, 51, 57, 52, 57, 53, 57, 54, 57, 55, 57, 56, 57, 57]⟩) t_38) w fun t_39 w =>
      pvv prog (Instr.index 9 (.string ⟨#[48, 48, 48, 49, 48, 50, 48, 51, 48, 52, 48, 53, 48, 54, 48, 55, 48, 56, 48, 57, 49, 48, 49, 49, 49, 50, 49, 51, 49, 52, 49, 53, 49, 54, 49, 55, 49, 56, 49, 57, 50, 48, 50, 49, 50, 50, 50, 51, 50, 52, 50, 53, 50, 54, 50, 55, 50, 56, 50, 57, 51, 48, 51, 49, 51, 50, 51, 51, 51, 52, 51, 53, 51, 54, 51, 55, 51, 56, 51, 57, 52, 48, 52, 49, 52, 50, 52, 51, 52, 52, 52, 53, 52, 54, 52, 55, 52, 56, 52, 57, 53, 48, 53, 49, 53, 50, 53, 51, 53, 52, 53, 53, 53, 54, 53, 55, 53, 56, 53, 57, 54, 48, 54, 49, 54, 50, 54, 51, 54, 52, 54, 53, 54, 54, 54, 55, 54, 56, 54, 57, 55, 48, 55, 49, 55, 50, 55, 51, 55, 52, 55, 53, 55, 54, 55, 55, 55, 56, 55, 57, 56, 48, 56, 49, 56, 50, 56, 51, 56, 52, 56, 53, 56, 54, 56, 55, 56, 56, 56, 57, 57, 48, 57, 49, 57, 50, 57, 51, 57, 52, 57, 53, 57, 54, 57, 55, 57, 56, 57, 57]⟩) t_17) w fun t_40 w =>
      pvv prog (Instr.indexAt 23 a_p0 t_36) w fun t_41 w =>
      efu prog (Instr.storeAt 5 t_41 t_39) w fun u_42 w =>
      pvv prog (Instr.indexAt 23 a_p0 t_37) w fun t_43 w =>
      efu prog (Instr.storeAt 5 t_43 t_40) w fun u_44 w =>
      dr w fun w =>
      pvv prog (binOp .sub 3 nd_2 (.int .i64 7)) w fun t_45 w =>
      pvv prog (binOp .sub 3 nd_2 (.int .i64 8)) w fun t_46 w =>
      pvv prog (binOp .add 96 t_15 (.int .u32 1)) w fun t_47 w =>
      pvv prog (Instr.index 9 (.string ⟨#[48, 48, 48, 49, 48, 50, 48, 51, 48, 52, 48, 53, 48, 54, 48, 55, 48, 56, 48, 57, 49, 48, 49, 49, 49, 50, 49, 51, 49, 52, 49, 53, 49, 54, 49, 55, 49, 56, 49, 57, 50, 48, 50, 49, 50, 50, 50, 51, 50, 52, 50, 53, 50, 54, 50, 55, 50, 56, 50, 57, 51, 48, 51, 49, 51, 50, 51, 51, 51, 52, 51, 53, 51, 54, 51, 55, 51, 56, 51, 57, 52, 48, 52, 49, 52, 50, 52, 51, 52, 52, 52, 53, 52, 54, 52, 55, 52, 56, 52, 57, 53, 48, 53, 49, 53, 50, 53, 51, 53, 52, 53, 53, 53, 54, 53, 55, 53, 56, 53, 57, 54, 48, 54, 49, 54, 50, 54, 51, 54, 52, 54, 53, 54, 54, 54, 55, 54, 56, 54, 57, 55, 48, 55, 49, 55, 50, 55, 51, 55, 52, 55, 53, 55, 54, 55, 55, 55, 56, 55, 57, 56, 48, 56, 49, 56, 50, 56, 51, 56, 52, 56, 53, 56, 54, 56, 55, 56, 56, 56, 57, 57, 48, 57, 49, 57, 50, 57, 51, 57, 52, 57, 53, 57, 54, 57, 55, 57, 56, 57, 57]⟩) t_47) w fun t_48 w =>
      pvv prog (Instr.index 9 (.string ⟨#[48, 48, 48, 49, 48, 50, 48, 51, 48, 52, 48, 53, 48, 54, 48, 55, 48, 56, 48, 57, 49, 48, 49, 49, 49, 50, 49, 51, 49, 52, 49, 53, 49, 54, 49, 55, 49, 56, 49, 57, 50, 48, 50, 49, 50, 50, 50, 51, 50, 52, 50, 53, 50, 54, 50, 55, 50, 56, 50, 57, 51, 48, 51, 49, 51, 50, 51, 51, 51, 52, 51, 53, 51, 54, 51, 55, 51, 56, 51, 57, 52, 48, 52, 49, 52, 50, 52, 51, 52, 52, 52, 53, 52, 54, 52, 55, 52, 56, 52, 57, 53, 48, 53, 49, 53, 50, 53, 51, 53, 52, 53, 53, 53, 54, 53, 55, 53, 56, 53, 57, 54, 48, 54, 49, 54, 50, 54, 51, 54, 52, 54, 53, 54, 54, 54, 55, 54, 56, 54, 57, 55, 48, 55, 49, 55, 50, 55, 51, 55, 52, 55, 53, 55, 54, 55, 55, 55, 56, 55, 57, 56, 48, 56, 49, 56, 50, 56, 51, 56, 52, 56, 53, 56, 54, 56, 55, 56, 56, 56, 57, 57, 48, 57, 49, 57, 50, 57, 51, 57, 52, 57, 53, 57, 54, 57, 55, 57, 56, 57, 57]⟩) t_15) w fun t_49 w =>
      pvv prog (Instr.indexAt 23 a_p0 t_45) w fun t_50 w =>
      efu prog (Instr.storeAt 5 t_50 t_48) w fun u_51 w =>
      pvv prog (Instr.indexAt 23 a_p0 t_46) w fun t_52 w =>
      efu prog (Instr.storeAt 5 t_52 t_49) w fun u_53 w =>
      pvv prog (binOp .sub 3 nd_2 (.int .i64 8)) w fun t_54 w =>
      again_3 [t_7, t_54] w) <|
    pvv prog (convert 49 96 u_1) w fun t_63 w =>
    jn (fun σ w => pop σ fun nd_64 σ => pop σ fun x_65 σ => fin σ <|
      jn (fun σ w => pop σ fun nd_66 σ => pop σ fun x_67 σ => fin σ <|
        pvv prog (binOp .gtr 3 nd_66 (.int .i64 0)) w fun t_68 w =>
        cd t_68 (
          pvv prog (binOp .add 96 (.int .u32 48) x_67) w fun t_69 w =>
          pvv prog (convert 96 5 t_69) w fun t_70 w =>
          pvv prog (Instr.indexAt 23 a_p0 (.int .i64 0)) w fun t_71 w =>
          efu prog (Instr.storeAt 5 t_71 t_70) w fun u_72 w =>
          K (.tuple #[]) w) <|
        K (.tuple #[]) w) fun k_73 =>
      pvv prog (binOp .geq 3 nd_64 (.int .i64 2)) w fun t_74 w =>
      cd t_74 (
        pvv prog (binOp .rem 96 x_65 (.int .u32 100)) w fun t_75 w =>
        pvv prog (binOp .mul 96 t_75 (.int .u32 2)) w fun t_76 w =>
        pvv prog (binOp .quo 96 x_65 (.int .u32 100)) w fun t_77 w =>
        dr w fun w =>
        pvv prog (binOp .sub 3 nd_64 (.int .i64 1)) w fun t_78 w =>
        pvv prog (binOp .sub 3 nd_64 (.int .i64 2)) w fun t_79 w =>
        pvv prog (binOp .add 96 t_76 (.int .u32 1)) w fun t_80 w =>
        pvv prog (Instr.index 9 (.string ⟨#[48, 48, 48, 49, 48, 50, 48, 51, 48, 52, 48, 53, 48, 54, 48, 55, 48, 56, 48, 57, 49, 48, 49, 49, 49, 50, 49, 51, 49, 52, 49, 53, 49, 54, 49, 55, 49, 56, 49, 57, 50, 48, 50, 49, 50, 50, 50, 51, 50, 52, 50, 53, 50, 54, 50, 55, 50, 56, 50, 57, 51, 48, 51, 49, 51, 50, 51, 51, 51, 52, 51, 53, 51, 54, 51, 55, 51, 56, 51, 57, 52, 48, 52, 49, 52, 50, 52, 51, 52, 52, 52, 53, 52, 54, 52, 55, 52, 56, 52, 57, 53, 48, 53, 49, 53, 50, 53, 51, 53, 52, 53, 53, 53, 54, 53, 55, 53, 56, 53, 57, 54, 48, 54, 49, 54, 50, 54, 51, 54, 52, 54, 53, 54, 54, 54, 55, 54, 56, 54, 57, 55, 48, 55, 49, 55, 50, 55, 51, 55, 52, 55, 53, 55, 54, 55, 55, 55, 56, 55, 57, 56, 48, 56, 49, 56, 50, 56, 51, 56, 52, 56, 53, 56, 54, 56, 55, 56, 56, 56, 57, 57, 48, 57, 49, 57, 50, 57, 51, 57, 52, 57, 53, 57, 54, 57, 55, 57, 56, 57, 57]⟩) t_80) w fun t_81 w =>
        pvv prog (Instr.index 9 (.string ⟨#[48, 48, 48, 49, 48, 50, 48, 51, 48, 52, 48, 53, 48, 54, 48, 55, 48, 56, 48, 57, 49, 48, 49, 49, 49, 50, 49, 51, 49, 52, 49, 53, 49, 54, 49, 55, 49, 56, 49, 57, 50, 48, 50, 49, 50, 50, 50, 51, 50, 52, 50, 53, 50, 54, 50, 55, 50, 56, 50, 57, 51, 48, 51, 49, 51, 50, 51, 51, 51, 52, 51, 53, 51, 54, 51, 55, 51, 56, 51, 57, 52, 48, 52, 49, 52, 50, 52, 51, 52, 52, 52, 53, 52, 54, 52, 55, 52, 56, 52, 57, 53, 48, 53, 49, 53, 50, 53, 51, 53, 52, 53, 53, 53, 54, 53, 55, 53, 56, 53, 57, 54, 48, 54, 49, 54, 50, 54, 51, 54, 52, 54, 53, 54, 54, 54, 55, 54, 56, 54, 57, 55, 48, 55, 49, 55, 50, 55, 51, 55, 52, 55, 53, 55, 54, 55, 55, 55, 56, 55, 57, 56, 48, 56, 49, 56, 50, 56, 51, 56, 52, 56, 53, 56, 54, 56, 55, 56, 56, 56, 57, 57, 48, 57, 49, 57, 50, 57, 51, 57, 52, 57, 53, 57, 54, 57, 55, 57, 56, 57, 57]⟩) t_76) w fun t_82 w =>
        pvv prog (Instr.indexAt 23 a_p0 t_78) w fun t_83 w =>
        efu prog (Instr.storeAt 5 t_83 t_81) w fun u_84 w =>
        pvv prog (Instr.indexAt 23 a_p0 t_79) w fun t_85 w =>
        efu prog (Instr.storeAt 5 t_85 t_82) w fun u_86 w =>
        pvv prog (binOp .sub 3 nd_64 (.int .i64 2)) w fun t_87 w =>
        k_73 [t_87, t_77] w) <|
      k_73 [nd_64, x_65] w) fun k_90 =>
    pvv prog (binOp .geq 3 nd_2 (.int .i64 4)) w fun t_91 w =>
    cd t_91 (
      pvv prog (binOp .rem 96 t_63 (.int .u32 10000)) w fun t_92 w =>
      pvv prog (binOp .quo 96 t_63 (.int .u32 10000)) w fun t_93 w =>
      pvv prog (binOp .quo 96 t_92 (.int .u32 100)) w fun t_94 w =>
      pvv prog (binOp .mul 96 t_94 (.int .u32 2)) w fun t_95 w =>
      pvv prog (binOp .rem 96 t_92 (.int .u32 100)) w fun t_96 w =>
      pvv prog (binOp .mul 96 t_96 (.int .u32 2)) w fun t_97 w =>
      dr w fun w =>
      pvv prog (binOp .sub 3 nd_2 (.int .i64 1)) w fun t_98 w =>
      pvv prog (binOp .sub 3 nd_2 (.int .i64 2)) w fun t_99 w =>
      pvv prog (binOp .add 96 t_97 (.int .u32 1)) w fun t_100 w =>
      pvv prog (Instr.index 9 (.string ⟨#[48, 48, 48, 49, 48, 50, 48, 51, 48, 52, 48, 53, 48, 54, 48, 55, 48, 56, 48, 57, 49, 48, 49, 49, 49, 50, 49, 51, 49, 52, 49, 53, 49, 54, 49, 55, 49, 56, 49, 57, 50, 48, 50, 49, 50, 50, 50, 51, 50, 52, 50, 53, 50, 54, 50, 55, 50, 56, 50, 57, 51, 48, 51, 49, 51, 50, 51, 51, 51, 52, 51, 53, 51, 54, 51, 55, 51, 56, 51, 57, 52, 48, 52, 49, 52, 50, 52, 51, 52, 52, 52, 53, 52, 54, 52, 55, 52, 56, 52, 57, 53, 48, 53, 49, 53, 50, 53, 51, 53, 52, 53, 53, 53, 54, 53, 55, 53, 56, 53, 57, 54, 48, 54, 49, 54, 50, 54, 51, 54, 52, 54, 53, 54, 54, 54, 55, 54, 56, 54, 57, 55, 48, 55, 49, 55, 50, 55, 51, 55, 52, 55, 53, 55, 54, 55, 55, 55, 56, 55, 57, 56, 48, 56, 49, 56, 50, 56, 51, 56, 52, 56, 53, 56, 54, 56, 55, 56, 56, 56, 57, 57, 48, 57, 49, 57, 50, 57, 51, 57, 52, 57, 53, 57, 54, 57, 55, 57, 56, 57, 57]⟩) t_100) w fun t_101 w =>
      pvv prog (Instr.index 9 (.string ⟨#[48, 48, 48, 49, 48, 50, 48, 51, 48, 52, 48, 53, 48, 54, 48, 55, 48, 56, 48, 57, 49, 48, 49, 49, 49, 50, 49, 51, 49, 52, 49, 53, 49, 54, 49, 55, 49, 56, 49, 57, 50, 48, 50, 49, 50, 50, 50, 51, 50, 52, 50, 53, 50, 54, 50, 55, 50, 56, 50, 57, 51, 48, 51, 49, 51, 50, 51, 51, 51, 52, 51, 53, 51, 54, 51, 55, 51, 56, 51, 57, 52, 48, 52, 49, 52, 50, 52, 51, 52, 52, 52, 53, 52, 54, 52, 55, 52, 56, 52, 57, 53, 48, 53, 49, 53, 50, 53, 51, 53, 52, 53, 53, 53, 54, 53, 55, 53, 56, 53, 57, 54, 48, 54, 49, 54, 50, 54, 51, 54, 52, 54, 53, 54, 54, 54, 55, 54, 56, 54, 57, 55, 48, 55, 49, 55, 50, 55, 51, 55, 52, 55, 53, 55, 54, 55, 55, 55, 56, 55, 57, 56, 48, 56, 49, 56, 50, 56, 51, 56, 52, 56, 53, 56, 54, 56, 55, 56, 56, 56, 57, 57, 48, 57, 49, 57, 50, 57, 51, 57, 52, 57, 53, 57, 54, 57, 55, 57, 56, 57, 57]⟩) t_97) w fun t_102 w =>
      pvv prog (Instr.indexAt 23 a_p0 t_98) w fun t_103 w =>
      efu prog (Instr.storeAt 5 t_103 t_101) w fun u_104 w =>
      pvv prog (Instr.indexAt 23 a_p0 t_99) w fun t_105 w =>
      efu prog (Instr.storeAt 5 t_105 t_102) w fun u_106 w =>
      dr w fun w =>
      pvv prog (binOp .sub 3 nd_2 (.int .i64 3)) w fun t_107 w =>
      pvv prog (binOp .sub 3 nd_2 (.int .i64 4)) w fun t_108 w =>
      pvv prog (binOp .add 96 t_95 (.int .u32 1)) w fun t_109 w =>
      pvv prog (Instr.index 9 (.string ⟨#[48, 48, 48, 49, 48, 50, 48, 51, 48, 52, 48, 53, 48, 54, 48, 55, 48, 56, 48, 57, 49, 48, 49, 49, 49, 50, 49, 51, 49, 52, 49, 53, 49, 54, 49, 55, 49, 56, 49, 57, 50, 48, 50, 49, 50, 50, 50, 51, 50, 52, 50, 53, 50, 54, 50, 55, 50, 56, 50, 57, 51, 48, 51, 49, 51, 50, 51, 51, 51, 52, 51, 53, 51, 54, 51, 55, 51, 56, 51, 57, 52, 48, 52, 49, 52, 50, 52, 51, 52, 52, 52, 53, 52, 54, 52, 55, 52, 56, 52, 57, 53, 48, 53, 49, 53, 50, 53, 51, 53, 52, 53, 53, 53, 54, 53, 55, 53, 56, 53, 57, 54, 48, 54, 49, 54, 50, 54, 51, 54, 52, 54, 53, 54, 54, 54, 55, 54, 56, 54, 57, 55, 48, 55, 49, 55, 50, 55, 51, 55, 52, 55, 53, 55, 54, 55, 55, 55, 56, 55, 57, 56, 48, 56, 49, 56, 50, 56, 51, 56, 52, 56, 53, 56, 54, 56, 55, 56, 56, 56, 57, 57, 48, 57, 49, 57, 50, 57, 51, 57, 52, 57, 53, 57, 54, 57, 55, 57, 56, 57, 57]⟩) t_109) w fun t_110 w =>
      pvv prog (Instr.index 9 (.string ⟨#[48, 48, 48, 49, 48, 50, 48, 51, 48, 52, 48, 53, 48, 54, 48, 55, 48, 56, 48, 57, 49, 48, 49, 49, 49, 50, 49, 51, 49, 52, 49, 53, 49, 54, 49, 55, 49, 56, 49, 57, 50, 48, 50, 49, 50, 50, 50, 51, 50, 52, 50, 53, 50, 54, 50, 55, 50, 56, 50, 57, 51, 48, 51, 49, 51, 50, 51, 51, 51, 52, 51, 53, 51, 54, 51, 55, 51, 56, 51, 57, 52, 48, 52, 49, 52, 50, 52, 51, 52, 52, 52, 53, 52, 54, 52, 55, 52, 56, 52, 57, 53, 48, 53, 49, 53, 50, 53, 51, 53, 52, 53, 53, 53, 54, 53, 55, 53, 56, 53, 57, 54, 48, 54, 49, 54, 50, 54, 51, 54, 52, 54, 53, 54, 54, 54, 55, 54, 56, 54, 57, 55, 48, 55, 49, 55, 50, 55, 51, 55, 52, 55, 53, 55, 54, 55, 55, 55, 56, 55, 57, 56, 48, 56, 49, 56, 50, 56, 51, 56, 52, 56, 53, 56, 54, 56, 55, 56, 56, 56, 57, 57, 48, 57, 49, 57, 50, 57, 51, 57, 52, 57, 53, 57, 54, 57, 55, 57, 56, 57, 57]⟩) t_95) w fun t_111 w =>
      pvv prog (Instr.indexAt 23 a_p0 t_107) w fun t_112 w =>
      efu prog (Instr.storeAt 5 t_112 t_110) w fun u_113 w =>
      pvv prog (Instr.indexAt 23 a_p0 t_108) w fun t_114 w =>
      efu prog (Instr.storeAt 5 t_114 t_111) w fun u_115 w =>
      pvv prog (binOp .sub 3 nd_2 (.int .i64 4)) w fun t_116 w =>
      k_90 [t_116, t_93] w) <|
    k_90 [nd_2, t_63] w) [u_p1, t_0] w
theorem B60_eq (a_p0 u_p1 : Value) (w : World) (K : Value → World → Prop) : denFn prog Tryd.f60 T60 [a_p0, u_p1] w K = B60 a_p0 u_p1 w K := by kernel_rfl
theorem c60 {a_p0 u_p1 : Value} {w : World} {K : Value → World → Prop} (h : B60 a_p0 u_p1 w K) : Calls prog 60 #[a_p0, u_p1] w (Ret K) :=
  denFn_calls Tryd.func60 T60_ok (Eq.mpr (B60_eq a_p0 u_p1 w K) h)

-- 35 strings.Trim
def T35 : Ann := (.seq .none (.seq (.seq .none (.seq (.seq .none .none) .none)) (.seq (.seq .none (.seq (.seq (.draw [(0, .pure), (1, .pure), (2, .pure), (4, .pure), (5, .pure), (3, .eff), (6, .eff), (7, .pure)]) .none) .none)) (.seq (.seq .none (.seq .none (.seq (.seq .none .none) .none))) (.seq .none .none)))))
theorem T35_ok : chkFn prog Tryd.f35 T35 = true := by kernel_rfl
def B35 (s_p0 cutset_p1 : Value) (w : World) (K : Value → World → Prop) : Prop :=
  pvv prog (oEq .eql 9 (.tmp 7) (.const (.string ⟨#[]⟩)) s_p0 (.string ⟨#[]⟩)) w fun t_0 w =>
  gate (some (t_0, false)) (fun K => K cutset_p1 w) w fun t_1 w =>
  gate (some (t_0, false)) (fun K => pvv prog (oEq .eql 9 (.tmp 10) (.const (.string ⟨#[]⟩)) t_1 (.string ⟨#[]⟩)) w K) w fun t_2 w =>
  pv prog (oPick t_0 (.bool true) t_2) w fun t_3 w =>
  cd t_3 (
    K s_p0 w) <|
  pv prog (oBi .len #[9] 3 #[false] #[cutset_p1]) w fun t_4 w =>
  pvv prog (oEq .eql 3 (.tmp 15) (.const (.int .i64 1)) t_4 (.int .i64 1)) w fun t_5 w =>
  gate (some (t_5, true)) (fun K => K cutset_p1 w) w fun t_6 w =>
  gate (some (t_5, true)) (fun K => pvv prog (Instr.index 9 t_6 (.int .i64 0)) w K) w fun t_7 w =>
  gate (some (t_5, true)) (fun K => pvv prog (binOp .lss 5 t_7 (.int .u8 128)) w K) w fun t_8 w =>
  pv prog (oPick t_5 t_8 (.bool false)) w fun t_9 w =>
  cd t_9 (
    dr w fun w =>
    pvv prog (Instr.index 9 cutset_p1 (.int .i64 0)) w fun t_10 w =>
    pvv prog (Instr.index 9 cutset_p1 (.int .i64 0)) w fun t_11 w =>
    Calls prog 44 #[s_p0, t_10] w (Ret fun t_12 w =>
    Calls prog 43 #[t_12, t_11] w (Ret fun t_13 w =>
    K t_13 w))) <|
  Calls prog 45 #[cutset_p1] w (Ret fun t_16 w =>
  pvv prog (Instr.extract t_16 0) w fun t_17 w =>
  pvv prog (Instr.extract t_16 1) w fun t_18 w =>
  efv prog (Instr.alloc 59 true (.tuple #[])) w fun as_19 w =>
  efu prog (Instr.storeAt 59 as_19 t_17) w fun u_20 w =>
  cd t_18 (
    Calls prog 47 #[s_p0, as_19] w (Ret fun t_21 w =>
    Calls prog 46 #[t_21, as_19] w (Ret fun t_22 w =>
    K t_22 w))) <|
  Calls prog 49 #[s_p0, cutset_p1] w (Ret fun t_23 w =>
  Calls prog 48 #[t_23, cutset_p1] w (Ret fun t_24 w =>
  K t_24 w)))
theorem B35_eq (s_p0 cutset_p1 : Value) (w : World) (K : Value → World → Prop) : denFn prog Tryd.f35 T35 [s_p0, cutset_p1] w K = B35 s_p0 cutset_p1 w K := by kernel_rfl
theorem c35 {s_p0 cutset_p1 : Value} {w : World} {K : Value → World → Prop} (h : B35 s_p0 cutset_p1 w K) : Calls prog 35 #[s_p0, cutset_p1] w (Ret K) :=
  denFn_calls Tryd.func35 T35_ok (Eq.mpr (B35_eq s_p0 cutset_p1 w K) h)

-- 49 strings.trimRightUnicode
def T49 : Ann := (.seq .none (.meet 8589934561 [0] (.block (.loop 8589934561 [0] (.seq (.seq .none (.seq .none .none)) (.block (.seq .none (.meet 8323168 [5, 6] (.seq .none (.seq .none .none)) (.seq (.seq .none (.seq .none .none)) .none))))))) (.seq .none .none)))
theorem T49_ok : chkFn prog Tryd.f49 T49 = true := by kernel_rfl
def B49 (s_p0 cutset_p1 : Value) (w : World) (K : Value → World → Prop) : Prop :=
  jn (fun σ w => pop σ fun s_0 σ => fin σ <|
    K s_0 w) fun k_1 =>
  lp (fun σ w again_3 => pop σ fun s_2 σ => fin σ <|
    pv prog (oBi .len #[9] 3 #[false] #[s_2]) w fun t_4 w =>
    pvv prog (binOp .gtr 3 t_4 (.int .i64 0)) w fun t_5 w =>
    cd t_5 (
      pv prog (oBi .len #[9] 3 #[false] #[s_2]) w fun t_6 w =>
      pvv prog (binOp .sub 3 t_6 (.int .i64 1)) w fun t_7 w =>
      pvv prog (Instr.index 9 s_2 t_7) w fun t_8 w =>
      pvv prog (convert 5 21 t_8) w fun t_9 w =>
      jn (fun σ w => pop σ fun r_10 σ => pop σ fun n_11 σ => fin σ <|
        Calls prog 64 #[cutset_p1, r_10] w (Ret fun t_12 w =>
        pvv prog (Op.unary .not t_12) w fun t_13 w =>
        cd t_13 (
          k_1 [s_2] w) <|
        pv prog (oBi .len #[9] 3 #[false] #[s_2]) w fun t_14 w =>
        pvv prog (binOp .sub 3 t_14 n_11) w fun t_15 w =>
        pvv prog (Instr.sliceAt 9 s_2 none (some t_15) none) w fun t_16 w =>
        again_3 [t_16] w)) fun k_17 =>
      pvv prog (binOp .geq 21 t_9 (.int .i32 128)) w fun t_18 w =>
      cd t_18 (
        Calls prog 65 #[s_2] w (Ret fun t_19 w =>
        pvv prog (Instr.extract t_19 0) w fun t_20 w =>
        pvv prog (Instr.extract t_19 1) w fun t_21 w =>
        k_17 [t_20, t_21] w)) <|
      k_17 [t_9, (.int .i64 1)] w) <|
    k_1 [s_2] w) [s_p0] w
theorem B49_eq (s_p0 cutset_p1 : Value) (w : World) (K : Value → World → Prop) : denFn prog Tryd.f49 T49 [s_p0, cutset_p1] w K = B49 s_p0 cutset_p1 w K := by kernel_rfl
theorem c49 {s_p0 cutset_p1 : Value} {w : World} {K : Value → World → Prop} (h : B49 s_p0 cutset_p1 w K) : Calls prog 49 #[s_p0, cutset_p1] w (Ret K) :=
  denFn_calls Tryd.func49 T49_ok (Eq.mpr (B49_eq s_p0 cutset_p1 w K) h)

-- 52 strings.Count
def T52 : Ann := (.seq .none (.seq (.seq .none (.seq (.seq .none .none) .none)) (.seq (.seq .none (.seq (.seq .none .none) .none)) (.seq .none (.block (.loop 17178820721 [0, 5] (.block (.seq .none (.seq (.seq .none (.seq (.seq .none .none) .none)) (.seq .none .none))))))))))
theorem T52_ok : chkFn prog Tryd.f52 T52 = true := by kernel_rfl
def B52 (s_p0 substr_p1 : Value) (w : World) (K : Value → World → Prop) : Prop :=
  pv prog (oBi .len #[9] 3 #[false] #[substr_p1]) w fun t_0 w =>
  pvv prog (oEq .eql 3 (.tmp 8) (.const (.int .i64 0)) t_0 (.int .i64 0)) w fun t_1 w =>
  cd t_1 (
    Calls prog 72 #[s_p0] w (Ret fun t_2 w =>
    pvv prog (binOp .add 3 t_2 (.int .i64 1)) w fun t_3 w =>
    K t_3 w)) <|
  pv prog (oBi .len #[9] 3 #[false] #[substr_p1]) w fun t_4 w =>
  pvv prog (oEq .eql 3 (.tmp 14) (.const (.int .i64 1)) t_4 (.int .i64 1)) w fun t_5 w =>
  cd t_5 (
    pvv prog (Instr.index 9 substr_p1 (.int .i64 0)) w fun t_6 w =>
    ef prog (oCall (.func (.func 73) #[] #[]) #[s_p0, t_6]) w fun t_7 w =>
    K t_7 w) <|
  lp (fun σ w again_10 => pop σ fun s_8 σ => pop σ fun n_9 σ => fin σ <|
    Calls prog 54 #[s_8, substr_p1] w (Ret fun t_11 w =>
    pvv prog (oEq .eql 3 (.tmp 23) (.const (.int .i64 (-1))) t_11 (.int .i64 (-1))) w fun t_12 w =>
    cd t_12 (
      K n_9 w) <|
    pvv prog (binOp .add 3 n_9 (.int .i64 1)) w fun t_13 w =>
    pv prog (oBi .len #[9] 3 #[false] #[substr_p1]) w fun t_14 w =>
    pvv prog (binOp .add 3 t_11 t_14) w fun t_15 w =>
    pvv prog (Instr.sliceAt 9 s_8 (some t_15) none none) w fun t_16 w =>
    again_10 [t_16, t_13] w)) [s_p0, (.int .i64 0)] w
theorem B52_eq (s_p0 substr_p1 : Value) (w : World) (K : Value → World → Prop) : denFn prog Tryd.f52 T52 [s_p0, substr_p1] w K = B52 s_p0 substr_p1 w K := by kernel_rfl
theorem c52 {s_p0 substr_p1 : Value} {w : World} {K : Value → World → Prop} (h : B52 s_p0 substr_p1 w K) : Calls prog 52 #[s_p0, substr_p1] w (Ret K) :=
  denFn_calls Tryd.func52 T52_ok (Eq.mpr (B52_eq s_p0 substr_p1 w K) h)

-- 12 holdfast/holdfastlaw02.live
def T12 : Ann := (.seq .none (.seq .none (.seq .none (.seq .none .none))))
theorem T12_ok : chkFn prog Tryd.f12 T12 = true := by kernel_rfl
def B12 (w : World) (K : Value → World → Prop) : Prop :=
  efv prog (Instr.buildSlice 22 2 #[(0, (.string ⟨#[97]⟩)), (1, (.string ⟨#[98]⟩))]) w fun t_0 w =>
  Calls prog 11 #[t_0] w (Ret fun t_1 w =>
  pvv prog (Instr.extract t_1 0) w fun t_2 w =>
  pvv prog (Instr.extract t_1 1) w fun t_3 w =>
  Calls prog 15 #[(.int .i64 255)] w (Ret fun t_4 w =>
  pvv prog (Instr.extract t_4 0) w fun t_5 w =>
  pvv prog (Instr.extract t_4 1) w fun t_6 w =>
  pvv prog (oEq .eql 24 (.tmp 14) (.const (.int .i64 0)) t_3 (.int .i64 0)) w fun t_7 w =>
  gate (some (t_7, true)) (fun K => K t_2 w) w fun t_8 w =>
  gate (some (t_7, true)) (fun K => efv prog (convert 23 9 t_8) w K) w fun t_9 w =>
  gate (some (t_7, true)) (fun K => pvv prog (oEq .eql 9 (.tmp 18) (.const (.string ⟨#[97, 0, 1, 98, 0, 1]⟩)) t_9 (.string ⟨#[97, 0, 1, 98, 0, 1]⟩)) w K) w fun t_10 w =>
  pv prog (oPick t_7 t_10 (.bool false)) w fun t_11 w =>
  gate (some (t_11, true)) (fun K => K t_6 w) w fun t_12 w =>
  gate (some (t_11, true)) (fun K => pvv prog (oEq .eql 24 (.tmp 22) (.const (.int .i64 0)) t_12 (.int .i64 0)) w K) w fun t_13 w =>
  pv prog (oPick t_11 t_13 (.bool false)) w fun t_14 w =>
  gate (some (t_14, true)) (fun K => K t_5 w) w fun t_15 w =>
  gate (some (t_14, true)) (fun K => pvv prog (oEq .eql 9 (.tmp 26) (.const (.string ⟨#[99, 102, 102]⟩)) t_15 (.string ⟨#[99, 102, 102]⟩)) w K) w fun t_16 w =>
  pv prog (oPick t_14 t_16 (.bool false)) w fun t_17 w =>
  K t_17 w))
theorem B12_eq (w : World) (K : Value → World → Prop) : denFn prog Tryd.f12 T12 [] w K = B12  w K := by kernel_rfl
theorem c12 {w : World} {K : Value → World → Prop} (h : B12  w K) : Calls prog 12 #[] w (Ret K) :=
  denFn_calls Tryd.func12 T12_ok (Eq.mpr (B12_eq  w K) h)

-- 45 strings.makeASCIISet
def T45 : Ann := (.seq .none (.seq (.seq .none (.block (.loop 1048568 [4] (.seq (.seq .none (.seq .none .none)) (.seq (.block (.seq .none (.seq (.seq .none (.seq (.seq .none .none) .none)) .none))) .none))))) (.seq .none .none)))
theorem T45_ok : chkFn prog Tryd.f45 T45 = true := by kernel_rfl
def B45 (chars_p0 : Value) (w : World) (K : Value → World → Prop) : Prop :=
  efv prog (Instr.alloc 59 true (.tuple #[])) w fun as_0 w =>
  lp (fun σ w again_2 => pop σ fun i_1 σ => fin σ <|
    pv prog (oBi .len #[9] 3 #[false] #[chars_p0]) w fun t_3 w =>
    pvv prog (binOp .lss 3 i_1 t_3) w fun t_4 w =>
    cd t_4 (
      pvv prog (Instr.index 9 chars_p0 i_1) w fun t_5 w =>
      pvv prog (binOp .geq 5 t_5 (.int .u8 128)) w fun t_6 w =>
      cd t_6 (
        ldv prog (Instr.loadAt 59 as_0) w fun t_7 w =>
        efu prog (Instr.storeAt 59 as_0 t_7) w fun u_8 w =>
        ∃ r_9, (do loadVar 59 (← asAddr as_0)).run prog w = .ok r_9 w ∧ K (.tuple #[r_9, (.bool false)]) w) <|
      pvv prog (Instr.indexAt 59 as_0 t_5) w fun t_10 w =>
      efu prog (Instr.storeAt 4 t_10 (.bool true)) w fun u_11 w =>
      pvv prog (binOp .add 3 i_1 (.int .i64 1)) w fun t_12 w =>
      again_2 [t_12] w) <|
    ldv prog (Instr.loadAt 59 as_0) w fun t_13 w =>
    efu prog (Instr.storeAt 59 as_0 t_13) w fun u_14 w =>
    ∃ r_15, (do loadVar 59 (← asAddr as_0)).run prog w = .ok r_15 w ∧ K (.tuple #[r_15, (.bool true)]) w) [(.int .i64 0)] w
theorem B45_eq (chars_p0 : Value) (w : World) (K : Value → World → Prop) : denFn prog Tryd.f45 T45 [chars_p0] w K = B45 chars_p0 w K := by kernel_rfl
theorem c45 {chars_p0 : Value} {w : World} {K : Value → World → Prop} (h : B45 chars_p0 w K) : Calls prog 45 #[chars_p0] w (Ret K) :=
  denFn_calls Tryd.func45 T45_ok (Eq.mpr (B45_eq chars_p0 w K) h)

-- 44 strings.trimRightByte
def T44 : Ann := (.seq .none (.seq (.block (.loop 4194273 [0] (.seq (.seq .none (.seq .none .none)) (.block .none)))) (.seq .none .none)))
theorem T44_ok : chkFn prog Tryd.f44 T44 = true := by kernel_rfl
def B44 (s_p0 c_p1 : Value) (w : World) (K : Value → World → Prop) : Prop :=
  lp (fun σ w again_1 => pop σ fun s_0 σ => fin σ <|
    pv prog (oBi .len #[9] 3 #[false] #[s_0]) w fun t_2 w =>
    pvv prog (binOp .gtr 3 t_2 (.int .i64 0)) w fun t_3 w =>
    gate (some (t_3, true)) (fun K => K s_0 w) w fun t_4 w =>
    gate (some (t_3, true)) (fun K => K s_0 w) w fun t_5 w =>
    gate (some (t_3, true)) (fun K => pv prog (oBi .len #[9] 3 #[false] #[t_5]) w K) w fun t_6 w =>
    gate (some (t_3, true)) (fun K => pvv prog (binOp .sub 3 t_6 (.int .i64 1)) w K) w fun t_7 w =>
    gate (some (t_3, true)) (fun K => pvv prog (Instr.index 9 t_4 t_7) w K) w fun t_8 w =>
    gate (some (t_3, true)) (fun K => K c_p1 w) w fun t_9 w =>
    gate (some (t_3, true)) (fun K => pvv prog (oEq .eql 5 (.tmp 13) (.tmp 14) t_8 t_9) w K) w fun t_10 w =>
    pv prog (oPick t_3 t_10 (.bool false)) w fun t_11 w =>
    cd t_11 (
      pv prog (oBi .len #[9] 3 #[false] #[s_0]) w fun t_12 w =>
      pvv prog (binOp .sub 3 t_12 (.int .i64 1)) w fun t_13 w =>
      pvv prog (Instr.sliceAt 9 s_0 none (some t_13) none) w fun t_14 w =>
      again_1 [t_14] w) <|
    K s_0 w) [s_p0] w
theorem B44_eq (s_p0 c_p1 : Value) (w : World) (K : Value → World → Prop) : denFn prog Tryd.f44 T44 [s_p0, c_p1] w K = B44 s_p0 c_p1 w K := by kernel_rfl
theorem c44 {s_p0 c_p1 : Value} {w : World} {K : Value → World → Prop} (h : B44 s_p0 c_p1 w K) : Calls prog 44 #[s_p0, c_p1] w (Ret K) :=
  denFn_calls Tryd.func44 T44_ok (Eq.mpr (B44_eq s_p0 c_p1 w K) h)

-- 42 internal/stringslite.HasPrefix
def T42 : Ann := (.seq .none (.seq .none .none))
theorem T42_ok : chkFn prog Tryd.f42 T42 = true := by kernel_rfl
def B42 (s_p0 prefix_p1 : Value) (w : World) (K : Value → World → Prop) : Prop :=
  pv prog (oBi .len #[9] 3 #[false] #[s_p0]) w fun t_0 w =>
  pv prog (oBi .len #[9] 3 #[false] #[prefix_p1]) w fun t_1 w =>
  pvv prog (binOp .geq 3 t_0 t_1) w fun t_2 w =>
  gate (some (t_2, true)) (fun K => K s_p0 w) w fun t_3 w =>
  gate (some (t_2, true)) (fun K => K prefix_p1 w) w fun t_4 w =>
  gate (some (t_2, true)) (fun K => pv prog (oBi .len #[9] 3 #[false] #[t_4]) w K) w fun t_5 w =>
  gate (some (t_2, true)) (fun K => pvv prog (Instr.sliceAt 9 t_3 none (some t_5) none) w K) w fun t_6 w =>
  gate (some (t_2, true)) (fun K => K prefix_p1 w) w fun t_7 w =>
  gate (some (t_2, true)) (fun K => pvv prog (oEq .eql 9 (.tmp 14) (.tmp 15) t_6 t_7) w K) w fun t_8 w =>
  pv prog (oPick t_2 t_8 (.bool false)) w fun t_9 w =>
  K t_9 w
theorem B42_eq (s_p0 prefix_p1 : Value) (w : World) (K : Value → World → Prop) : denFn prog Tryd.f42 T42 [s_p0, prefix_p1] w K = B42 s_p0 prefix_p1 w K := by kernel_rfl
theorem c42 {s_p0 prefix_p1 : Value} {w : World} {K : Value → World → Prop} (h : B42 s_p0 prefix_p1 w K) : Calls prog 42 #[s_p0, prefix_p1] w (Ret K) :=
  denFn_calls Tryd.func42 T42_ok (Eq.mpr (B42_eq s_p0 prefix_p1 w K) h)

-- 85 internal/stringslite.Clone
def T85 : Ann := (.seq .none (.seq (.seq .none (.seq (.seq .none .none) .none)) (.seq .none (.seq .none (.seq .none .none)))))
theorem T85_ok : chkFn prog Tryd.f85 T85 = true := by kernel_rfl
def B85 (s_p0 : Value) (w : World) (K : Value → World → Prop) : Prop :=
  pv prog (oBi .len #[9] 3 #[false] #[s_p0]) w fun t_0 w =>
  pvv prog (oEq .eql 3 (.tmp 5) (.const (.int .i64 0)) t_0 (.int .i64 0)) w fun t_1 w =>
  cd t_1 (
    K (.string ⟨#[]⟩) w) <|
  pv prog (oBi .len #[9] 3 #[false] #[s_p0]) w fun t_2 w =>
  efv prog (Instr.makeSlice 23 t_2 t_2) w fun t_3 w =>
  ef prog (oBi .copy #[23, 9] 3 #[false, false] #[t_3, s_p0]) w fun t_4 w =>
  pvv prog (Instr.indexAt 23 t_3 (.int .i64 0)) w fun t_5 w =>
  pv prog (oBi .len #[23] 3 #[false] #[t_3]) w fun t_6 w =>
  ef prog (oBi .unsafeString #[92, 3] 9 #[false, false] #[t_5, t_6]) w fun t_7 w =>
  K t_7 w
theorem B85_eq (s_p0 : Value) (w : World) (K : Value → World → Prop) : denFn prog Tryd.f85 T85 [s_p0] w K = B85 s_p0 w K := by kernel_rfl
theorem c85 {s_p0 : Value} {w : World} {K : Value → World → Prop} (h : B85 s_p0 w K) : Calls prog 85 #[s_p0] w (Ret K) :=
  denFn_calls Tryd.func85 T85_ok (Eq.mpr (B85_eq s_p0 w K) h)

-- 55 (*strings.Builder).WriteString
def T55 : Ann := (.seq .none (.seq .none (.seq .none (.seq .none .none))))
theorem T55_ok : chkFn prog Tryd.f55 T55 = true := by kernel_rfl
def B55 (b_p0 s_p1 : Value) (w : World) (K : Value → World → Prop) : Prop :=
  Calls prog 74 #[b_p0] w (Ret fun t_0 w =>
  pv prog (oNil b_p0) w fun t_1 w =>
  pvv prog (Instr.fieldAt 68 t_1 1) w fun t_2 w =>
  ldv prog (Instr.loadAt 23 t_2) w fun t_3 w =>
  ef prog (oBi .append #[23, 9] 23 #[false, false] #[t_3, s_p1]) w fun t_4 w =>
  pv prog (oNil b_p0) w fun t_5 w =>
  pvv prog (Instr.fieldAt 68 t_5 1) w fun t_6 w =>
  efu prog (Instr.storeAt 23 t_6 t_4) w fun u_7 w =>
  pv prog (oBi .len #[9] 3 #[false] #[s_p1]) w fun t_8 w =>
  K (.tuple #[t_8, .nilIface]) w)
theorem B55_eq (b_p0 s_p1 : Value) (w : World) (K : Value → World → Prop) : denFn prog Tryd.f55 T55 [b_p0, s_p1] w K = B55 b_p0 s_p1 w K := by kernel_rfl
theorem c55 {b_p0 s_p1 : Value} {w : World} {K : Value → World → Prop} (h : B55 b_p0 s_p1 w K) : Calls prog 55 #[b_p0, s_p1] w (Ret K) :=
  denFn_calls Tryd.func55 T55_ok (Eq.mpr (B55_eq b_p0 s_p1 w K) h)

-- 70 strconv.baseError
def T70 : Ann := (.seq .none (.seq .none .none))
theorem T70_ok : chkFn prog Tryd.f70 T70 = true := by kernel_rfl
def B70 (fn_p0 str_p1 base_p2 : Value) (w : World) (K : Value → World → Prop) : Prop :=
  Calls prog 85 #[str_p1] w (Ret fun t_0 w =>
  Calls prog 87 #[base_p2] w (Ret fun t_1 w =>
  pvv prog (binOp .add 9 (.string ⟨#[105, 110, 118, 97, 108, 105, 100, 32, 98, 97, 115, 101, 32]⟩) t_1) w fun t_2 w =>
  Calls prog 86 #[t_2] w (Ret fun t_3 w =>
  pvv prog (Instr.build 102 #[(0, fn_p0), (1, t_0), (2, t_3)]) w fun t_4 w =>
  efv prog (Instr.box 102 t_4) w fun t_5 w =>
  K t_5 w)))
theorem B70_eq (fn_p0 str_p1 base_p2 : Value) (w : World) (K : Value → World → Prop) : denFn prog Tryd.f70 T70 [fn_p0, str_p1, base_p2] w K = B70 fn_p0 str_p1 base_p2 w K := by kernel_rfl
theorem c70 {fn_p0 str_p1 base_p2 : Value} {w : World} {K : Value → World → Prop} (h : B70 fn_p0 str_p1 base_p2 w K) : Calls prog 70 #[fn_p0, str_p1, base_p2] w (Ret K) :=
  denFn_calls Tryd.func70 T70_ok (Eq.mpr (B70_eq fn_p0 str_p1 base_p2 w K) h)

-- 32 slices.Clone[[]byte,byte]
def T32 : Ann := (.seq .none (.seq (.seq .none (.seq (.seq .none .none) .none)) (.seq .none .none)))
theorem T32_ok : chkFn prog Tryd.f32 T32 = true := by kernel_rfl
def B32 (s_p0 : Value) (w : World) (K : Value → World → Prop) : Prop :=
  pvv prog (oEq .eql 23 (.tmp 3) (.const (.slice none 0 0)) s_p0 (.slice none 0 0)) w fun t_0 w =>
  cd t_0 (
    K (.slice none 0 0) w) <|
  efv prog (Instr.buildSlice 23 0 #[]) w fun t_1 w =>
  ef prog (oBi .append #[23, 23] 23 #[false, false] #[t_1, s_p0]) w fun t_2 w =>
  K t_2 w
theorem B32_eq (s_p0 : Value) (w : World) (K : Value → World → Prop) : denFn prog Tryd.f32 T32 [s_p0] w K = B32 s_p0 w K := by kernel_rfl
theorem c32 {s_p0 : Value} {w : World} {K : Value → World → Prop} (h : B32 s_p0 w K) : Calls prog 32 #[s_p0] w (Ret K) :=
  denFn_calls Tryd.func32 T32_ok (Eq.mpr (B32_eq s_p0 w K) h)

-- 63 (*strings.asciiSet).contains
def T63 : Ann := (.seq .none (.seq .none .none))
theorem T63_ok : chkFn prog Tryd.f63 T63 = true := by kernel_rfl
def B63 (as_p0 c_p1 : Value) (w : World) (K : Value → World → Prop) : Prop :=
  pv prog (oNil as_p0) w fun t_0 w =>
  pvv prog (Instr.indexAt 59 t_0 c_p1) w fun t_1 w =>
  ldv prog (Instr.loadAt 4 t_1) w fun t_2 w =>
  K t_2 w
theorem B63_eq (as_p0 c_p1 : Value) (w : World) (K : Value → World → Prop) : denFn prog Tryd.f63 T63 [as_p0, c_p1] w K = B63 as_p0 c_p1 w K := by kernel_rfl
theorem c63 {as_p0 c_p1 : Value} {w : World} {K : Value → World → Prop} (h : B63 as_p0 c_p1 w K) : Calls prog 63 #[as_p0, c_p1] w (Ret K) :=
  denFn_calls Tryd.func63 T63_ok (Eq.mpr (B63_eq as_p0 c_p1 w K) h)

-- 64 strings.ContainsRune
def T64 : Ann := (.seq .none (.seq .none .none))
theorem T64_ok : chkFn prog Tryd.f64 T64 = true := by kernel_rfl
def B64 (s_p0 r_p1 : Value) (w : World) (K : Value → World → Prop) : Prop :=
  Calls prog 83 #[s_p0, r_p1] w (Ret fun t_0 w =>
  pvv prog (binOp .geq 3 t_0 (.int .i64 0)) w fun t_1 w =>
  K t_1 w)
theorem B64_eq (s_p0 r_p1 : Value) (w : World) (K : Value → World → Prop) : denFn prog Tryd.f64 T64 [s_p0, r_p1] w K = B64 s_p0 r_p1 w K := by kernel_rfl
theorem c64 {s_p0 r_p1 : Value} {w : World} {K : Value → World → Prop} (h : B64 s_p0 r_p1 w K) : Calls prog 64 #[s_p0, r_p1] w (Ret K) :=
  denFn_calls Tryd.func64 T64_ok (Eq.mpr (B64_eq s_p0 r_p1 w K) h)

-- 33 holdfast/codec.split
def T33 : Ann := (.seq .none (.seq .none .none))
theorem T33_ok : chkFn prog Tryd.f33 T33 = true := by kernel_rfl
def B33 (key_p0 : Value) (w : World) (K : Value → World → Prop) : Prop :=
  efv prog (Instr.box 23 key_p0) w fun key_0 w =>
  pvv prog (Instr.makeFunc (.func 40) #[] #[key_0]) w fun t_1 w =>
  K t_1 w
theorem B33_eq (key_p0 : Value) (w : World) (K : Value → World → Prop) : denFn prog Tryd.f33 T33 [key_p0] w K = B33 key_p0 w K := by kernel_rfl
theorem c33 {key_p0 : Value} {w : World} {K : Value → World → Prop} (h : B33 key_p0 w K) : Calls prog 33 #[key_p0] w (Ret K) :=
  denFn_calls Tryd.func33 T33_ok (Eq.mpr (B33_eq key_p0 w K) h)

-- 90 internal/stringslite.IndexByte
def T90 : Ann := (.seq .none (.seq .none .none))
theorem T90_ok : chkFn prog Tryd.f90 T90 = true := by kernel_rfl
def B90 (s_p0 c_p1 : Value) (w : World) (K : Value → World → Prop) : Prop :=
  ef prog (oCall (.func (.func 99) #[] #[]) #[s_p0, c_p1]) w fun t_0 w =>
  K t_0 w
theorem B90_eq (s_p0 c_p1 : Value) (w : World) (K : Value → World → Prop) : denFn prog Tryd.f90 T90 [s_p0, c_p1] w K = B90 s_p0 c_p1 w K := by kernel_rfl
theorem c90 {s_p0 c_p1 : Value} {w : World} {K : Value → World → Prop} (h : B90 s_p0 c_p1 w K) : Calls prog 90 #[s_p0, c_p1] w (Ret K) :=
  denFn_calls Tryd.func90 T90_ok (Eq.mpr (B90_eq s_p0 c_p1 w K) h)

-- 96 strings.IndexByte
def T96 : Ann := (.seq .none (.seq .none .none))
theorem T96_ok : chkFn prog Tryd.f96 T96 = true := by kernel_rfl
def B96 (s_p0 c_p1 : Value) (w : World) (K : Value → World → Prop) : Prop :=
  Calls prog 90 #[s_p0, c_p1] w (Ret fun t_0 w =>
  K t_0 w)
theorem B96_eq (s_p0 c_p1 : Value) (w : World) (K : Value → World → Prop) : denFn prog Tryd.f96 T96 [s_p0, c_p1] w K = B96 s_p0 c_p1 w K := by kernel_rfl
theorem c96 {s_p0 c_p1 : Value} {w : World} {K : Value → World → Prop} (h : B96 s_p0 c_p1 w K) : Calls prog 96 #[s_p0, c_p1] w (Ret K) :=
  denFn_calls Tryd.func96 T96_ok (Eq.mpr (B96_eq s_p0 c_p1 w K) h)

-- 87 strconv.Itoa
def T87 : Ann := (.seq .none (.seq .none .none))
theorem T87_ok : chkFn prog Tryd.f87 T87 = true := by kernel_rfl
def B87 (i_p0 : Value) (w : World) (K : Value → World → Prop) : Prop :=
  Calls prog 98 #[i_p0] w (Ret fun t_0 w =>
  K t_0 w)
theorem B87_eq (i_p0 : Value) (w : World) (K : Value → World → Prop) : denFn prog Tryd.f87 T87 [i_p0] w K = B87 i_p0 w K := by kernel_rfl
theorem c87 {i_p0 : Value} {w : World} {K : Value → World → Prop} (h : B87 i_p0 w K) : Calls prog 87 #[i_p0] w (Ret K) :=
  denFn_calls Tryd.func87 T87_ok (Eq.mpr (B87_eq i_p0 w K) h)


end Go.Proofs.YtnkmgkilfkgfhaaDoor
