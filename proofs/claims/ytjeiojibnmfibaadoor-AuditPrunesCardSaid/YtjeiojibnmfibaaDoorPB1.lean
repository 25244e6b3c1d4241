import Derived.Test.YtjeiojibnmfibaaDoorPI
set_option linter.all false
set_option maxRecDepth 100000
namespace Go.Proofs.YtjeiojibnmfibaaDoor
open Go Hold
-- 86 internal/strconv.formatBase10
def T86 : Ann := (.seq .none (.seq (.block (.loop 79228162514264337593543430130 [1, 4] (.seq (.seq .none (.seq .none .none)) (.block (.seq .none (.seq .none (.seq .none (.seq .none (.seq .none (.seq (.draw [(0, .pure), (1, .pure), (2, .pure), (3, .pure), (4, .pure), (5, .pure), (6, .pure), (7, .pure), (8, .pure), (9, .pure), (10, .pure), (11, .pure), (12, .eff), (13, .pure), (14, .eff)]) (.seq (.draw [(0, .pure), (1, .pure), (2, .pure), (3, .pure), (4, .pure), (5, .pure), (6, .pure), (7, .pure), (8, .pure), (9, .pure), (10, .pure), (11, .pure), (12, .eff), (13, .pure), (14, .eff)]) (.seq (.draw [(0, .pure), (1, .pure), (2, .pure), (3, .pure), (4, .pure), (5, .pure), (6, .pure), (7, .pure), (8, .pure), (9, .pure), (10, .pure), (11, .pure), (12, .eff), (13, .pure), (14, .eff)]) (.seq (.draw [(0, .pure), (1, .pure), (2, .pure), (3, .pure), (4, .pure), (5, .pure), (6, .pure), (7, .pure), (8, .pure), (9, .pure), (10, .pure), (11, .pure), (12, .eff), (13, .pure), (14, .eff)]) .none))))))))))))) (.seq .none (.meet 348449143726724073936438540659756472791056 [4, 12] (.seq .none (.seq (.seq .none (.seq .none (.seq .none (.seq (.draw [(0, .pure), (1, .pure), (2, .pure), (3, .pure), (4, .pure), (5, .pure), (6, .pure), (7, .pure), (8, .pure), (9, .pure), (10, .pure), (11, .pure), (12, .eff), (13, .pure), (14, .eff)]) (.seq (.draw [(0, .pure), (1, .pure), (2, .pure), (3, .pure), (4, .pure), (5, .pure), (6, .pure), (7, .pure), (8, .pure), (9, .pure), (10, .pure), (11, .pure), (12, .eff), (13, .pure), (14, .eff)]) .none))))) .none)) (.meet 1461501288881759191162698246220685009525284081680 [4, 12] (.seq .none (.seq (.seq .none (.seq .none (.seq (.draw [(0, .pure), (1, .pure), (2, .pure), (3, .pure), (4, .pure), (5, .pure), (6, .pure), (7, .pure), (8, .pure), (9, .pure), (10, .pure), (11, .pure), (12, .eff), (13, .pure), (14, .eff)]) .none))) .none)) (.seq .none (.seq .none .none)))))))
theorem T86_ok : chkFn prog Tryd.f86 T86 = true := by kernel_rfl
def B86 (a_p0 u_p1 : Value) (w : World) (K : Value → World → Prop) : Prop :=
  pv prog (oBi .len #[72] 3 #[false] #[a_p0]) w fun t_0 w =>
  lp (fun σ w again_3 => pop σ fun u_1 σ => pop σ fun nd_2 σ => fin σ <|
    pvv prog (binOp .geq 3 nd_2 (.int .i64 8)) w fun t_4 w =>
    cd t_4 (
      pvv prog (binOp .rem 96 u_1 (.int .u64 100000000)) w fun t_5 w =>
      pvv prog (convert 96 101 t_5) w fun t_6 w =>
      pvv prog (binOp .quo 96 u_1 (.int .u64 100000000)) w fun t_7 w =>
      pvv prog (binOp .quo 101 t_6 (.int .u32 10000)) w fun t_8 w =>
      pvv prog (binOp .rem 101 t_6 (.int .u32 10000)) w fun t_9 w =>
      pvv prog (binOp .quo 101 t_9 (.int .u32 100)) w fun t_10 w =>
      pvv prog (binOp .mul 101 t_10 (.int .u32 2)) w fun t_11 w =>
      pvv prog (binOp .rem 101 t_9 (.int .u32 100)) w fun t_12 w =>
      pvv prog (binOp .mul 101 t_12 (.int .u32 2)) w fun t_13 w =>
      pvv prog (binOp .quo 101 t_8 (.int .u32 100)) w fun t_14 w =>
      pvv prog (binOp .mul 101 t_14 (.int .u32 2)) w fun t_15 w =>
      pvv prog (binOp .rem 101 t_8 (.int .u32 100)) w fun t_16 w =>
      pvv prog (binOp .mul 101 t_16 (.int .u32 2)) w fun t_17 w =>
      dr w fun w =>
      pvv prog (binOp .sub 3 nd_2 (.int .i64 1)) w fun t_18 w =>
      pvv prog (binOp .sub 3 nd_2 (.int .i64 2)) w fun t_19 w =>
      pvv prog (binOp .add 101 t_13 (.int .u32 1)) w fun t_20 w =>
      pvv prog (Instr.index 9 (.string ⟨#[48, 48, 48, 49, 48, 50, 48, 51, 48, 52, 48, 53, 48, 54, 48, 55, 48, 56, 48, 57, 49, 48, 49, 49, 49, 50, 49, 51, 49, 52, 49, 53, 49, 54, 49, 55, 49, 56, 49, 57, 50, 48, 50, 49, 50, 50, 50, 51, 50, 52, 50, 53, 50, 54, 50, 55, 50, 56, 50, 57, 51, 48, 51, 49, 51, 50, 51, 51, 51, 52, 51, 53, 51, 54, 51, 55, 51, 56, 51, 57, 52, 48, 52, 49, 52, 50, 52, 51, 52, 52, 52, 53, 52, 54, 52, 55, 52, 56, 52, 57, 53, 48, 53, 49, 53, 50, 53, 51, 53, 52, 53, 53, 53, 54, 53, 55, 53, 56, 53, 57, 54, 48, 54, 49, 54, 50, 54, 51, 54, 52, 54, 53, 54, 54, 54, 55, 54, 56, 54, 57, 55, 48, 55, 49, 55, 50, 55, 51, 55, 52, 55, 53, 55, 54, 55, 55, 55, 56, 55, 57, 56, 48, 56, 49, 56, 50, 56, 51, 56, 52, 56, 53, 56, 54, 56, 55, 56, 56, 56, 57, 57, 48, 57, 49, 57, 50, 57, 51, 57, 52, 57, 53, 57, 54, 57, 55, 57, 56, 57, 57]⟩) t_20) w fun t_21 w =>
      pvv prog (Instr.index 9 (.string ⟨#[48, 48, 48, 49, 48, 50, 48, 51, 48, 52, 48, 53, 48, 54, 48, 55, 48, 56, 48, 57, 49, 48, 49, 49, 49, 50, 49, 51, 49, 52, 49, 53, 49, 54, 49, 55, 49, 56, 49, 57, 50, 48, 50, 49, 50, 50, 50, 51, 50, 52, 50, 53, 50, 54, 50, 55, 50, 56, 50, 57, 51, 48, 51, 49, 51, 50, 51, 51, 51, 52, 51, 53, 51, 54, 51, 55, 51, 56, 51, 57, 52, 48, 52, 49, 52, 50, 52, 51, 52, 52, 52, 53, 52, 54, 52, 55, 52, 56, 52, 57, 53, 48, 53, 49, 53, 50, 53, 51, 53, 52, 53, 53, 53, 54, 53, 55, 53, 56, 53, 57, 54, 48, 54, 49, 54, 50, 54, 51, 54, 52, 54, 53, 54, 54, 54, 55, 54, 56, 54, 57, 55, 48, 55, 49, 55, 50, 55, 51, 55, 52, 55, 53, 55, 54, 55, 55, 55, 56, 55, 57, 56, 48, 56, 49, 56, 50, 56, 51, 56, 52, 56, 53, 56, 54, 56, 55, 56, 56, 56, 57, 57, 48, 57, 49, 57, 50, 57, 51, 57, 52, 57, 53, 57, 54, 57, 55, 57, 56, 57, 57]⟩) t_13) w fun t_22 w =>
      pvv prog (Instr.indexAt 72 a_p0 t_18) w fun t_23 w =>
      efu prog (Instr.storeAt 5 t_23 t_21) w fun u_24 w =>
      pvv prog (Instr.indexAt 72 a_p0 t_19) w fun t_25 w =>
      efu prog (Instr.storeAt 5 t_25 t_22) w fun u_26 w =>
      dr w fun w =>
      pvv prog (binOp .sub 3 nd_2 (.int .i64 3)) w fun t_27 w =>
      pvv prog (binOp .sub 3 nd_2 (.int .i64 4)) w fun t_28 w =>
      pvv prog (binOp .add 101 t_11 (.int .u32 1)) w fun t_29 w =>
      pvv prog (Instr.index 9 (.string ⟨#[48, 48, 48, 49, 48, 50, 48, 51, 48, 52, 48, 53, 48, 54, 48, 55, 48, 56, 48, 57, 49, 48, 49, 49, 49, 50, 49, 51, 49, 52, 49, 53, 49, 54, 49, 55, 49, 56, 49, 57, 50, 48, 50, 49, 50, 50, 50, 51, 50, 52, 50, 53, 50, 54, 50, 55, 50, 56, 50, 57, 51, 48, 51, 49, 51, 50, 51, 51, 51, 52, 51, 53, 51, 54, 51, 55, 51, 56, 51, 57, 52, 48, 52, 49, 52, 50, 52, 51, 52, 52, 52, 53, 52, 54, 52, 55, 52, 56, 52, 57, 53, 48, 53, 49, 53, 50, 53, 51, 53, 52, 53, 53, 53, 54, 53, 55, 53, 56, 53, 57, 54, 48, 54, 49, 54, 50, 54, 51, 54, 52, 54, 53, 54, 54, 54, 55, 54, 56, 54, 57, 55, 48, 55, 49, 55, 50, 55, 51, 55, 52, 55, 53, 55, 54, 55, 55, 55, 56, 55, 57, 56, 48, 56, 49, 56, 50, 56, 51, 56, 52, 56, 53, 56, 54, 56, 55, 56, 56, 56, 57, 57, 48, 57, 49, 57, 50, 57, 51, 57, 52, 57, 53, 57, 54, 57, 55, 57, 56, 57, 57]⟩) t_29) w fun t_30 w =>
      pvv prog (Instr.index 9 (.string ⟨#[48, 48, 48, 49, 48, 50, 48, 51, 48, 52, 48, 53, 48, 54, 48, 55, 48, 56, 48, 57, 49, 48, 49, 49, 49, 50, 49, 51, 49, 52, 49, 53, 49, 54, 49, 55, 49, 56, 49, 57, 50, 48, 50, 49, 50, 50, 50, 51, 50, 52, 50, 53, 50, 54, 50, 55, 50, 56, 50, 57, 51, 48, 51, 49, 51, 50, 51, 51, 51, 52, 51, 53, 51, 54, 51, 55, 51, 56, 51, 57, 52, 48, 52, 49, 52, 50, 52, 51, 52, 52, 52, 53, 52, 54, 52, 55, 52, 56, 52, 57, 53, 48, 53, 49, 53, 50, 53, 51, 53, 52, 53, 53, 53, 54, 53, 55, 53, 56, 53, 57, 54, 48, 54, 49, 54, 50, 54, 51, 54, 52, 54, 53, 54, 54, 54, 55, 54, 56, 54, 57, 55, 48, 55, 49, 55, 50, 55, 51, 55, 52, 55, 53, 55, 54, 55, 55, 55, 56, 55, 57, 56, 48, 56, 49, 56, 50, 56, 51, 56, 52, 56, 53, 56, 54, 56, 55, 56, 56, 56, 57, 57, 48, 57, 49, 57, 50, 57, 51, 57, 52, 57, 53, 57, 54, 57, 55, 57, 56, 57, 57]⟩) t_11) w fun t_31 w =>
      pvv prog (Instr.indexAt 72 a_p0 t_27) w fun t_32 w =>
      efu prog (Instr.storeAt 5 t_32 t_30) w fun u_33 w =>
      pvv prog (Instr.indexAt 72 a_p0 t_28) w fun t_34 w =>
      efu prog (Instr.storeAt 5 t_34 t_31) w fun u_35 w =>
      dr w fun w =>
      pvv prog (binOp .sub 3 nd_2 (.int .i64 5)) w fun t_36 w =>
      pvv prog (binOp .sub 3 nd_2 (.int .i64 6)) w fun t_37 w =>
      pvv prog (binOp .add 101 t_17 (.int .u32 1)) w fun t_38 w =>
      pvv prog (Instr.index 9 (.string ⟨#[48, 48, 48, 49, 48, 50, 48, 51, 48, 52, 48, 53, 48, 54, 48, 55, 48, 56, 48, 57, 49, 48, 49, 49, 49, 50, 49, 51, 49, 52, 49, 53, 49, 54, 49, 55, 49, 56, 49, 57, 50, 48, 50, 49, 50, 50, 50, 51, 50, 52, 50, 53, 50, 54, 50, 55, 50, 56, 50, 57, 51, 48, 51, 49, 51, 50, 51, 51, 51, 52, 51, 53, 51, 54, 51, 55, 51, 56, 51, 57, 52, 48, 52, 49, 52, 50, 52, 51, 52, 52, 52, 53, 52, 54, 52, 55, 52, 56, 52, 57, 53, 48, 53, 49, 53, 50, 53, 51, 53, 52, 53, 53, 53, 54, 53, 55, 53, 56, 53, 57, 54, 48, 54, 49, 54, 50, 54, 51, 54, 52, 54, 53, 54, 54, 54, 55, 54, 56, 54, 57, 55, 48, 55, 49, 55, 50, 55, 51, 55, 52, 55, 53, 55, 54, 55, 55, 55, 56, 55, 57, 56, 48, 56, 49, 56, 50, 56, 51, 56, 52, 56, 53, 56, 54, 56, 55, 56, 56, 56, 57, 57, 48, 57, 49, 57, 50, 57, 51, 57, 52, 57, 53, 57, 54, 57, 55, 57, 56, 57, 57]⟩) t_38) w fun t_39 w =>
      pvv prog (Instr.index 9 (.string ⟨#[48, 48, 48, 49, 48, 50, 48, 51, 48, 52, 48, 53, 48, 54, 48, 55, 48, 56, 48, 57, 49, 48, 49, 49, 49, 50, 49, 51, 49, 52, 49, 53, 49, 54, 49, 55, 49, 56, 49, 57, 50, 48, 50, 49, 50, 50, 50, 51, 50, 52, 50, 53, 50, 54, 50, 55, 50, 56, 50, 57, 51, 48, 51, 49, 51, 50, 51, 51, 51, 52, 51, 53, 51, 54, 51, 55, 51, 56, 51, 57, 52, 48, 52, 49, 52, 50, 52, 51, 52, 52, 52, 53, 52, 54, 52, 55, 52, 56, 52, 57, 53, 48, 53, 49, 53, 50, 53, 51, 53, 52, 53, 53, 53, 54, 53, 55, 53, 56, 53, 57, 54, 48, 54, 49, 54, 50, 54, 51, 54, 52, 54, 53, 54, 54, 54, 55, 54, 56, 54, 57, 55, 48, 55, 49, 55, 50, 55, 51, 55, 52, 55, 53, 55, 54, 55, 55, 55, 56, 55, 57, 56, 48, 56, 49, 56, 50, 56, 51, 56, 52, 56, 53, 56, 54, 56, 55, 56, 56, 56, 57, 57, 48, 57, 49, 57, 50, 57, 51, 57, 52, 57, 53, 57, 54, 57, 55, 57, 56, 57, 57]⟩) t_17) w fun t_40 w =>
      pvv prog (Instr.indexAt 72 a_p0 t_36) w fun t_41 w =>
      efu prog (Instr.storeAt 5 t_41 t_39) w fun u_42 w =>
      pvv prog (Instr.indexAt 72 a_p0 t_37) w fun t_43 w =>
      efu prog (Instr.storeAt 5 t_43 t_40) w fun u_44 w =>
      dr w fun w =>
      pvv prog (binOp .sub 3 nd_2 (.int .i64 7)) w fun t_45 w =>
      pvv prog (binOp .sub 3 nd_2 (.int .i64 8)) w fun t_46 w =>
      pvv prog (binOp .add 101 t_15 (.int .u32 1)) w fun t_47 w =>
      pvv prog (Instr.index 9 (.string ⟨#[48, 48, 48, 49, 48, 50, 48, 51, 48, 52, 48, 53, 48, 54, 48, 55, 48, 56, 48, 57, 49, 48, 49, 49, 49, 50, 49, 51, 49, 52, 49, 53, 49, 54, 49, 55, 49, 56, 49, 57, 50, 48, 50, 49, 50, 50, 50, 51, 50, 52, 50, 53, 50, 54, 50, 55, 50, 56, 50, 57, 51, 48, 51, 49, 51, 50, 51, 51, 51, 52, 51, 53, 51, 54, 51, 55, 51, 56, 51, 57, 52, 48, 52, 49, 52, 50, 52, 51, 52, 52, 52, 53, 52, 54, 52, 55, 52, 56, 52, 57, 53, 48, 53, 49, 53, 50, 53, 51, 53, 52, 53, 53, 53, 54, 53, 55, 53, 56, 53, 57, 54, 48, 54, 49, 54, 50, 54, 51, 54, 52, 54, 53, 54, 54, 54, 55, 54, 56, 54, 57, 55, 48, 55, 49, 55, 50, 55, 51, 55, 52, 55, 53, 55, 54, 55, 55, 55, 56, 55, 57, 56, 48, 56, 49, 56, 50, 56, 51, 56, 52, 56, 53, 56, 54, 56, 55, 56, 56, 56, 57, 57, 48, 57, 49, 57, 50, 57, 51, 57, 52, 57, 53, 57, 54, 57, 55, 57, 56, 57, 57]⟩) t_47) w fun t_48 w =>
      pvv prog (Instr.index 9 (.string ⟨#[48, 48, 48, 49, 48, 50, 48, 51, 48, 52, 48, 53, 48, 54, 48, 55, 48, 56, 48, 57, 49, 48, 49, 49, 49, 50, 49, 51, 49, 52, 49, 53, 49, 54, 49, 55, 49, 56, 49, 57, 50, 48, 50, 49, 50, 50, 50, 51, 50, 52, 50, 53, 50, 54, 50, 55, 50, 56, 50, 57, 51, 48, 51, 49, 51, 50, 51, 51, 51, 52, 51, 53, 51, 54, 51, 55, 51, 56, 51, 57, 52, 48, 52, 49, 52, 50, 52, 51, 52, 52, 52, 53, 52, 54, 52, 55, 52, 56, 52, 57, 53, 48, 53, 49, 53, 50, 53, 51, 53, 52, 53, 53, 53, 54, 53, 55, 53, 56, 53, 57, 54, 48, 54, 49, 54, 50, 54, 51, 54, 52, 54, 53, 54, 54, 54, 55, 54, 56, 54, 57, 55, 48, 55, 49, 55, 50, 55, 51, 55, 52, 55, 53, 55, 54, 55, 55, 55, 56, 55, 57, 56, 48, 56, 49, 56, 50, 56, 51, 56, 52, 56, 53, 56, 54, 56, 55, 56, 56, 56, 57, 57, 48, 57, 49, 57, 50, 57, 51, 57, 52, 57, 53, 57, 54, 57, 55, 57, 56, 57, 57]⟩) t_15) w fun t_49 w =>
      pvv prog (Instr.indexAt 72 a_p0 t_45) w fun t_50 w =>
      efu prog (Instr.storeAt 5 t_50 t_48) w fun u_51 w =>
      pvv prog (Instr.indexAt 72 a_p0 t_46) w fun t_52 w =>
      efu prog (Instr.storeAt 5 t_52 t_49) w fun u_53 w =>
      pvv prog (binOp .sub 3 nd_2 (.int .i64 8)) w fun t_54 w =>
      again_3 [t_7, t_54] w) <|
    pvv prog (convert 96 101 u_1) w fun t_63 w =>
    jn (fun σ w => pop σ fun nd_64 σ => pop σ fun x_65 σ => fin σ <|
      jn (fun σ w => pop σ fun nd_66 σ => pop σ fun x_67 σ => fin σ <|
        pvv prog (binOp .gtr 3 nd_66 (.int .i64 0)) w fun t_68 w =>
        cd t_68 (
          pvv prog (binOp .add 101 (.int .u32 48) x_67) w fun t_69 w =>
          pvv prog (convert 101 5 t_69) w fun t_70 w =>
          pvv prog (Instr.indexAt 72 a_p0 (.int .i64 0)) w fun t_71 w =>
          efu prog (Instr.storeAt 5 t_71 t_70) w fun u_72 w =>
          K (.tuple #[]) w) <|
        K (.tuple #[]) w) fun k_73 =>
      pvv prog (binOp .geq 3 nd_64 (.int .i64 2)) w fun t_74 w =>
      cd t_74 (
        pvv prog (binOp .rem 101 x_65 (.int .u32 100)) w fun t_75 w =>
        pvv prog (binOp .mul 101 t_75 (.int .u32 2)) w fun t_76 w =>
        pvv prog (binOp .quo 101 x_65 (.int .u32 100)) w fun t_77 w =>
        dr w fun w =>
        pvv prog (binOp .sub 3 nd_64 (.int .i64 1)) w fun t_78 w =>
        pvv prog (binOp .sub 3 nd_64 (.int .i64 2)) w fun t_79 w =>
        pvv prog (binOp .add 101 t_76 (.int .u32 1)) w fun t_80 w =>
        pvv prog (Instr.index 9 (.string ⟨#[48, 48, 48, 49, 48, 50, 48, 51, 48, 52, 48, 53, 48, 54, 48, 55, 48, 56, 48, 57, 49, 48, 49, 49, 49, 50, 49, 51, 49, 52, 49, 53, 49, 54, 49, 55, 49, 56, 49, 57, 50, 48, 50, 49, 50, 50, 50, 51, 50, 52, 50, 53, 50, 54, 50, 55, 50, 56, 50, 57, 51, 48, 51, 49, 51, 50, 51, 51, 51, 52, 51, 53, 51, 54, 51, 55, 51, 56, 51, 57, 52, 48, 52, 49, 52, 50, 52, 51, 52, 52, 52, 53, 52, 54, 52, 55, 52, 56, 52, 57, 53, 48, 53, 49, 53, 50, 53, 51, 53, 52, 53, 53, 53, 54, 53, 55, 53, 56, 53, 57, 54, 48, 54, 49, 54, 50, 54, 51, 54, 52, 54, 53, 54, 54, 54, 55, 54, 56, 54, 57, 55, 48, 55, 49, 55, 50, 55, 51, 55, 52, 55, 53, 55, 54, 55, 55, 55, 56, 55, 57, 56, 48, 56, 49, 56, 50, 56, 51, 56, 52, 56, 53, 56, 54, 56, 55, 56, 56, 56, 57, 57, 48, 57, 49, 57, 50, 57, 51, 57, 52, 57, 53, 57, 54, 57, 55, 57, 56, 57, 57]⟩) t_80) w fun t_81 w =>
        pvv prog (Instr.index 9 (.string ⟨#[48, 48, 48, 49, 48, 50, 48, 51, 48, 52, 48, 53, 48, 54, 48, 55, 48, 56, 48, 57, 49, 48, 49, 49, 49, 50, 49, 51, 49, 52, 49, 53, 49, 54, 49, 55, 49, 56, 49, 57, 50, 48, 50, 49, 50, 50, 50, 51, 50, 52, 50, 53, 50, 54, 50, 55, 50, 56, 50, 57, 51, 48, 51, 49, 51, 50, 51, 51, 51, 52, 51, 53, 51, 54, 51, 55, 51, 56, 51, 57, 52, 48, 52, 49, 52, 50, 52, 51, 52, 52, 52, 53, 52, 54, 52, 55, 52, 56, 52, 57, 53, 48, 53, 49, 53, 50, 53, 51, 53, 52, 53, 53, 53, 54, 53, 55, 53, 56, 53, 57, 54, 48, 54, 49, 54, 50, 54, 51, 54, 52, 54, 53, 54, 54, 54, 55, 54, 56, 54, 57, 55, 48, 55, 49, 55, 50, 55, 51, 55, 52, 55, 53, 55, 54, 55, 55, 55, 56, 55, 57, 56, 48, 56, 49, 56, 50, 56, 51, 56, 52, 56, 53, 56, 54, 56, 55, 56, 56, 56, 57, 57, 48, 57, 49, 57, 50, 57, 51, 57, 52, 57, 53, 57, 54, 57, 55, 57, 56, 57, 57]⟩) t_76) w fun t_82 w =>
        pvv prog (Instr.indexAt 72 a_p0 t_78) w fun t_83 w =>
        efu prog (Instr.storeAt 5 t_83 t_81) w fun u_84 w =>
        pvv prog (Instr.indexAt 72 a_p0 t_79) w fun t_85 w =>
        efu prog (Instr.storeAt 5 t_85 t_82) w fun u_86 w =>
        pvv prog (binOp .sub 3 nd_64 (.int .i64 2)) w fun t_87 w =>
        k_73 [t_87, t_77] w) <|
      k_73 [nd_64, x_65] w) fun k_90 =>
    pvv prog (binOp .geq 3 nd_2 (.int .i64 4)) w fun t_91 w =>
    cd t_91 (
      pvv prog (binOp .rem 101 t_63 (.int .u32 10000)) w fun t_92 w =>
      pvv prog (binOp .quo 101 t_63 (.int .u32 10000)) w fun t_93 w =>
      pvv prog (binOp .quo 101 t_92 (.int .u32 100)) w fun t_94 w =>
      pvv prog (binOp .mul 101 t_94 (.int .u32 2)) w fun t_95 w =>
      pvv prog (binOp .rem 101 t_92 (.int .u32 100)) w fun t_96 w =>
      pvv prog (binOp .mul 101 t_96 (.int .u32 2)) w fun t_97 w =>
      dr w fun w =>
      pvv prog (binOp .sub 3 nd_2 (.int .i64 1)) w fun t_98 w =>
      pvv prog (binOp .sub 3 nd_2 (.int .i64 2)) w fun t_99 w =>
      pvv prog (binOp .add 101 t_97 (.int .u32 1)) w fun t_100 w =>
      pvv prog (Instr.index 9 (.string ⟨#[48, 48, 48, 49, 48, 50, 48, 51, 48, 52, 48, 53, 48, 54, 48, 55, 48, 56, 48, 57, 49, 48, 49, 49, 49, 50, 49, 51, 49, 52, 49, 53, 49, 54, 49, 55, 49, 56, 49, 57, 50, 48, 50, 49, 50, 50, 50, 51, 50, 52, 50, 53, 50, 54, 50, 55, 50, 56, 50, 57, 51, 48, 51, 49, 51, 50, 51, 51, 51, 52, 51, 53, 51, 54, 51, 55, 51, 56, 51, 57, 52, 48, 52, 49, 52, 50, 52, 51, 52, 52, 52, 53, 52, 54, 52, 55, 52, 56, 52, 57, 53, 48, 53, 49, 53, 50, 53, 51, 53, 52, 53, 53, 53, 54, 53, 55, 53, 56, 53, 57, 54, 48, 54, 49, 54, 50, 54, 51, 54, 52, 54, 53, 54, 54, 54, 55, 54, 56, 54, 57, 55, 48, 55, 49, 55, 50, 55, 51, 55, 52, 55, 53, 55, 54, 55, 55, 55, 56, 55, 57, 56, 48, 56, 49, 56, 50, 56, 51, 56, 52, 56, 53, 56, 54, 56, 55, 56, 56, 56, 57, 57, 48, 57, 49, 57, 50, 57, 51, 57, 52, 57, 53, 57, 54, 57, 55, 57, 56, 57, 57]⟩) t_100) w fun t_101 w =>
      pvv prog (Instr.index 9 (.string ⟨#[48, 48, 48, 49, 48, 50, 48, 51, 48, 52, 48, 53, 48, 54, 48, 55, 48, 56, 48, 57, 49, 48, 49, 49, 49, 50, 49, 51, 49, 52, 49, 53, 49, 54, 49, 55, 49, 56, 49, 57, 50, 48, 50, 49, 50, 50, 50, 51, 50, 52, 50, 53, 50, 54, 50, 55, 50, 56, 50, 57, 51, 48, 51, 49, 51, 50, 51, 51, 51, 52, 51, 53, 51, 54, 51, 55, 51, 56, 51, 57, 52, 48, 52, 49, 52, 50, 52, 51, 52, 52, 52, 53, 52, 54, 52, 55, 52, 56, 52, 57, 53, 48, 53, 49, 53, 50, 53, 51, 53, 52, 53, 53, 53, 54, 53, 55, 53, 56, 53, 57, 54, 48, 54, 49, 54, 50, 54, 51, 54, 52, 54, 53, 54, 54, 54, 55, 54, 56, 54, 57, 55, 48, 55, 49, 55, 50, 55, 51, 55, 52, 55, 53, 55, 54, 55, 55, 55, 56, 55, 57, 56, 48, 56, 49, 56, 50, 56, 51, 56, 52, 56, 53, 56, 54, 56, 55, 56, 56, 56, 57, 57, 48, 57, 49, 57, 50, 57, 51, 57, 52, 57, 53, 57, 54, 57, 55, 57, 56, 57, 57]⟩) t_97) w fun t_102 w =>
      pvv prog (Instr.indexAt 72 a_p0 t_98) w fun t_103 w =>
      efu prog (Instr.storeAt 5 t_103 t_101) w fun u_104 w =>
      pvv prog (Instr.indexAt 72 a_p0 t_99) w fun t_105 w =>
      efu prog (Instr.storeAt 5 t_105 t_102) w fun u_106 w =>
      dr w fun w =>
      pvv prog (binOp .sub 3 nd_2 (.int .i64 3)) w fun t_107 w =>
      pvv prog (binOp .sub 3 nd_2 (.int .i64 4)) w fun t_108 w =>
      pvv prog (binOp .add 101 t_95 (.int .u32 1)) w fun t_109 w =>
      pvv prog (Instr.index 9 (.string ⟨#[48, 48, 48, 49, 48, 50, 48, 51, 48, 52, 48, 53, 48, 54, 48, 55, 48, 56, 48, 57, 49, 48, 49, 49, 49, 50, 49, 51, 49, 52, 49, 53, 49, 54, 49, 55, 49, 56, 49, 57, 50, 48, 50, 49, 50, 50, 50, 51, 50, 52, 50, 53, 50, 54, 50, 55, 50, 56, 50, 57, 51, 48, 51, 49, 51, 50, 51, 51, 51, 52, 51, 53, 51, 54, 51, 55, 51, 56, 51, 57, 52, 48, 52, 49, 52, 50, 52, 51, 52, 52, 52, 53, 52, 54, 52, 55, 52, 56, 52, 57, 53, 48, 53, 49, 53, 50, 53, 51, 53, 52, 53, 53, 53, 54, 53, 55, 53, 56, 53, 57, 54, 48, 54, 49, 54, 50, 54, 51, 54, 52, 54, 53, 54, 54, 54, 55, 54, 56, 54, 57, 55, 48, 55, 49, 55, 50, 55, 51, 55, 52, 55, 53, 55, 54, 55, 55, 55, 56, 55, 57, 56, 48, 56, 49, 56, 50, 56, 51, 56, 52, 56, 53, 56, 54, 56, 55, 56, 56, 56, 57, 57, 48, 57, 49, 57, 50, 57, 51, 57, 52, 57, 53, 57, 54, 57, 55, 57, 56, 57, 57]⟩) t_109) w fun t_110 w =>
      pvv prog (Instr.index 9 (.string ⟨#[48, 48, 48, 49, 48, 50, 48, 51, 48, 52, 48, 53, 48, 54, 48, 55, 48, 56, 48, 57, 49, 48, 49, 49, 49, 50, 49, 51, 49, 52, 49, 53, 49, 54, 49, 55, 49, 56, 49, 57, 50, 48, 50, 49, 50, 50, 50, 51, 50, 52, 50, 53, 50, 54, 50, 55, 50, 56, 50, 57, 51, 48, 51, 49, 51, 50, 51, 51, 51, 52, 51, 53, 51, 54, 51, 55, 51, 56, 51, 57, 52, 48, 52, 49, 52, 50, 52, 51, 52, 52, 52, 53, 52, 54, 52, 55, 52, 56, 52, 57, 53, 48, 53, 49, 53, 50, 53, 51, 53, 52, 53, 53, 53, 54, 53, 55, 53, 56, 53, 57, 54, 48, 54, 49, 54, 50, 54, 51, 54, 52, 54, 53, 54, 54, 54, 55, 54, 56, 54, 57, 55, 48, 55, 49, 55, 50, 55, 51, 55, 52, 55, 53, 55, 54, 55, 55, 55, 56, 55, 57, 56, 48, 56, 49, 56, 50, 56, 51, 56, 52, 56, 53, 56, 54, 56, 55, 56, 56, 56, 57, 57, 48, 57, 49, 57, 50, 57, 51, 57, 52, 57, 53, 57, 54, 57, 55, 57, 56, 57, 57]⟩) t_95) w fun t_111 w =>
      pvv prog (Instr.indexAt 72 a_p0 t_107) w fun t_112 w =>
      efu prog (Instr.storeAt 5 t_112 t_110) w fun u_113 w =>
      pvv prog (Instr.indexAt 72 a_p0 t_108) w fun t_114 w =>
      efu prog (Instr.storeAt 5 t_114 t_111) w fun u_115 w =>
      pvv prog (binOp .sub 3 nd_2 (.int .i64 4)) w fun t_116 w =>
      k_90 [t_116, t_93] w) <|
    k_90 [nd_2, t_63] w) [u_p1, t_0] w
theorem B86_eq (a_p0 u_p1 : Value) (w : World) (K : Value → World → Prop) : denFn prog Tryd.f86 T86 [a_p0, u_p1] w K = B86 a_p0 u_p1 w K := by kernel_rfl
theorem c86 {a_p0 u_p1 : Value} {w : World} {K : Value → World → Prop} (h : B86 a_p0 u_p1 w K) : Calls prog 86 #[a_p0, u_p1] w (Ret K) :=
  denFn_calls Tryd.func86 T86_ok (Eq.mpr (B86_eq a_p0 u_p1 w K) h)

-- 93 internal/strconv.underscoreOK
def T93 : Ann := (.seq .none (.seq .none (.seq .none (.meet 2097089 [0] (.seq .none (.seq .none .none)) (.seq .none (.meet 2251799811588152 [3, 4, 5] (.seq .none (.seq (.seq .none (.seq .none .none)) .none)) (.seq (.block (.loop 4951760157139269299782811676 [3, 4] (.seq (.seq .none (.seq .none .none)) (.meet 4951760156997405911520641036 [3] (.block (.seq (.seq .none (.seq (.seq .none .none) .none)) (.seq (.seq .none (.seq (.seq (.seq .none (.seq (.seq .none .none) .none)) (.seq .none .none)) .none)) (.seq (.seq .none (.seq (.seq .none .none) .none)) .none)))) .none)))) (.seq .none .none))))))))
theorem T93_ok : chkFn prog Tryd.f93 T93 = true := by kernel_rfl
def B93 (s_p0 : Value) (w : World) (K : Value → World → Prop) : Prop :=
  jn (fun σ w => pop σ fun s_0 σ => fin σ <|
    jn (fun σ w => pop σ fun saw_1 σ => pop σ fun i_2 σ => pop σ fun hex_3 σ => fin σ <|
      lp (fun σ w again_6 => pop σ fun saw_4 σ => pop σ fun i_5 σ => fin σ <|
        pv prog (oBi .len #[9] 3 #[false] #[s_0]) w fun t_7 w =>
        pvv prog (binOp .lss 3 i_5 t_7) w fun t_8 w =>
        cd t_8 (
          jn (fun σ w => pop σ fun saw_9 σ => fin σ <|
            pvv prog (binOp .add 3 i_5 (.int .i64 1)) w fun t_10 w =>
            again_6 [saw_9, t_10] w) fun k_11 =>
          pvv prog (Instr.index 9 s_0 i_5) w fun t_12 w =>
          pvv prog (binOp .leq 5 (.int .u8 48) t_12) w fun t_13 w =>
          gate (some (t_13, true)) (fun K => K s_0 w) w fun t_14 w =>
          gate (some (t_13, true)) (fun K => K i_5 w) w fun t_15 w =>
          gate (some (t_13, true)) (fun K => pvv prog (Instr.index 9 t_14 t_15) w K) w fun t_16 w =>
          gate (some (t_13, true)) (fun K => pvv prog (binOp .leq 5 t_16 (.int .u8 57)) w K) w fun t_17 w =>
          pv prog (oPick t_13 t_17 (.bool false)) w fun t_18 w =>
          gate (some (t_18, false)) (fun K => K hex_3 w) w fun t_19 w =>
          gate (some (t_18, false)) (fun K => K t_19 w) w fun t_20 w =>
          gate (some (t_20, true)) (fun K => K s_0 w) w fun t_21 w =>
          gate (some (t_20, true)) (fun K => K i_5 w) w fun t_22 w =>
          gate (some (t_20, true)) (fun K => pvv prog (Instr.index 9 t_21 t_22) w K) w fun t_23 w =>
          gate (some (t_20, true)) (fun K => Calls prog 92 #[t_23] w (Ret K)) w fun t_24 w =>
          gate (some (t_20, true)) (fun K => pvv prog (binOp .leq 5 (.int .u8 97) t_24) w K) w fun t_25 w =>
          gate (some (t_18, false)) (fun K => pv prog (oPick t_20 t_25 (.bool false)) w K) w fun t_26 w =>
          gate (some (t_18, false)) (fun K => K t_26 w) w fun t_27 w =>
          gate (some (t_27, true)) (fun K => K s_0 w) w fun t_28 w =>
          gate (some (t_27, true)) (fun K => K i_5 w) w fun t_29 w =>
          gate (some (t_27, true)) (fun K => pvv prog (Instr.index 9 t_28 t_29) w K) w fun t_30 w =>
          gate (some (t_27, true)) (fun K => Calls prog 92 #[t_30] w (Ret K)) w fun t_31 w =>
          gate (some (t_27, true)) (fun K => pvv prog (binOp .leq 5 t_31 (.int .u8 102)) w K) w fun t_32 w =>
          gate (some (t_18, false)) (fun K => pv prog (oPick t_27 t_32 (.bool false)) w K) w fun t_33 w =>
          pv prog (oPick t_18 (.bool true) t_33) w fun t_34 w =>
          cd t_34 (
            k_11 [(.int .i32 48)] w) <|
          pvv prog (Instr.index 9 s_0 i_5) w fun t_35 w =>
          pvv prog (oEq .eql 5 (.tmp 86) (.const (.int .u8 95)) t_35 (.int .u8 95)) w fun t_36 w =>
          cd t_36 (
            pvv prog (oEq .neq 21 (.tmp 88) (.const (.int .i32 48)) saw_4 (.int .i32 48)) w fun t_37 w =>
            cd t_37 (
              K (.bool false) w) <|
            k_11 [(.int .i32 95)] w) <|
          pvv prog (oEq .eql 21 (.tmp 90) (.const (.int .i32 95)) saw_4 (.int .i32 95)) w fun t_38 w =>
          cd t_38 (
            K (.bool false) w) <|
          k_11 [(.int .i32 33)] w) <|
        pvv prog (oEq .neq 21 (.tmp 92) (.const (.int .i32 95)) saw_4 (.int .i32 95)) w fun t_39 w =>
        K t_39 w) [saw_1, i_2] w) fun k_40 =>
    pv prog (oBi .len #[9] 3 #[false] #[s_0]) w fun t_41 w =>
    pvv prog (binOp .geq 3 t_41 (.int .i64 2)) w fun t_42 w =>
    gate (some (t_42, true)) (fun K => K s_0 w) w fun t_43 w =>
    gate (some (t_42, true)) (fun K => pvv prog (Instr.index 9 t_43 (.int .i64 0)) w K) w fun t_44 w =>
    gate (some (t_42, true)) (fun K => pvv prog (oEq .eql 5 (.tmp 26) (.const (.int .u8 48)) t_44 (.int .u8 48)) w K) w fun t_45 w =>
    pv prog (oPick t_42 t_45 (.bool false)) w fun t_46 w =>
    gate (some (t_46, true)) (fun K => K s_0 w) w fun t_47 w =>
    gate (some (t_46, true)) (fun K => pvv prog (Instr.index 9 t_47 (.int .i64 1)) w K) w fun t_48 w =>
    gate (some (t_46, true)) (fun K => Calls prog 92 #[t_48] w (Ret K)) w fun t_49 w =>
    gate (some (t_46, true)) (fun K => pvv prog (oEq .eql 5 (.tmp 32) (.const (.int .u8 98)) t_49 (.int .u8 98)) w K) w fun t_50 w =>
    gate (some (t_46, true)) (fun K => K t_50 w) w fun t_51 w =>
    gate (some (t_51, false)) (fun K => K s_0 w) w fun t_52 w =>
    gate (some (t_51, false)) (fun K => pvv prog (Instr.index 9 t_52 (.int .i64 1)) w K) w fun t_53 w =>
    gate (some (t_51, false)) (fun K => Calls prog 92 #[t_53] w (Ret K)) w fun t_54 w =>
    gate (some (t_51, false)) (fun K => pvv prog (oEq .eql 5 (.tmp 37) (.const (.int .u8 111)) t_54 (.int .u8 111)) w K) w fun t_55 w =>
    gate (some (t_46, true)) (fun K => pv prog (oPick t_51 (.bool true) t_55) w K) w fun t_56 w =>
    gate (some (t_46, true)) (fun K => K t_56 w) w fun t_57 w =>
    gate (some (t_57, false)) (fun K => K s_0 w) w fun t_58 w =>
    gate (some (t_57, false)) (fun K => pvv prog (Instr.index 9 t_58 (.int .i64 1)) w K) w fun t_59 w =>
    gate (some (t_57, false)) (fun K => Calls prog 92 #[t_59] w (Ret K)) w fun t_60 w =>
    gate (some (t_57, false)) (fun K => pvv prog (oEq .eql 5 (.tmp 43) (.const (.int .u8 120)) t_60 (.int .u8 120)) w K) w fun t_61 w =>
    gate (some (t_46, true)) (fun K => pv prog (oPick t_57 (.bool true) t_61) w K) w fun t_62 w =>
    pv prog (oPick t_46 t_62 (.bool false)) w fun t_63 w =>
    cd t_63 (
      pvv prog (Instr.index 9 s_0 (.int .i64 1)) w fun t_64 w =>
      Calls prog 92 #[t_64] w (Ret fun t_65 w =>
      pvv prog (oEq .eql 5 (.tmp 49) (.const (.int .u8 120)) t_65 (.int .u8 120)) w fun t_66 w =>
      k_40 [(.int .i32 48), (.int .i64 2), t_66] w)) <|
    k_40 [(.int .i32 94), (.int .i64 0), (.bool false)] w) fun k_67 =>
  pv prog (oBi .len #[9] 3 #[false] #[s_p0]) w fun t_68 w =>
  pvv prog (binOp .geq 3 t_68 (.int .i64 1)) w fun t_69 w =>
  gate (some (t_69, true)) (fun K => K s_p0 w) w fun t_70 w =>
  gate (some (t_69, true)) (fun K => pvv prog (Instr.index 9 t_70 (.int .i64 0)) w K) w fun t_71 w =>
  gate (some (t_69, true)) (fun K => pvv prog (oEq .eql 5 (.tmp 11) (.const (.int .u8 45)) t_71 (.int .u8 45)) w K) w fun t_72 w =>
  gate (some (t_69, true)) (fun K => K t_72 w) w fun t_73 w =>
  gate (some (t_73, false)) (fun K => K s_p0 w) w fun t_74 w =>
  gate (some (t_73, false)) (fun K => pvv prog (Instr.index 9 t_74 (.int .i64 0)) w K) w fun t_75 w =>
  gate (some (t_73, false)) (fun K => pvv prog (oEq .eql 5 (.tmp 15) (.const (.int .u8 43)) t_75 (.int .u8 43)) w K) w fun t_76 w =>
  gate (some (t_69, true)) (fun K => pv prog (oPick t_73 (.bool true) t_76) w K) w fun t_77 w =>
  pv prog (oPick t_69 t_77 (.bool false)) w fun t_78 w =>
  cd t_78 (
    pvv prog (Instr.sliceAt 9 s_p0 (some (.int .i64 1)) none none) w fun t_79 w =>
    k_67 [t_79] w) <|
  k_67 [s_p0] w
theorem B93_eq (s_p0 : Value) (w : World) (K : Value → World → Prop) : denFn prog Tryd.f93 T93 [s_p0] w K = B93 s_p0 w K := by kernel_rfl
theorem c93 {s_p0 : Value} {w : World} {K : Value → World → Prop} (h : B93 s_p0 w K) : Calls prog 93 #[s_p0] w (Ret K) :=
  denFn_calls Tryd.func93 T93_ok (Eq.mpr (B93_eq s_p0 w K) h)

-- 103 unicode/utf8.decodeRuneInStringSlow
def T103 : Ann := (.seq .none (.seq .none (.seq (.seq .none (.seq (.seq .none .none) .none)) (.seq .none (.seq .none (.seq (.seq .none (.seq (.seq .none (.seq .none .none)) .none)) (.seq .none (.seq .none (.seq (.seq .none (.seq (.seq .none .none) .none)) (.seq .none (.seq (.seq .none (.seq (.seq .none .none) .none)) (.seq (.seq .none (.seq (.seq .none .none) .none)) (.seq .none (.seq (.seq .none (.seq (.seq .none .none) .none)) (.seq (.seq .none (.seq (.seq .none .none) .none)) (.seq .none (.seq (.seq .none (.seq (.seq .none .none) .none)) (.seq .none .none))))))))))))))))))
theorem T103_ok : chkFn prog Tryd.f103 T103 = true := by kernel_rfl
def B103 (s_p0 : Value) (w : World) (K : Value → World → Prop) : Prop :=
  pv prog (oBi .len #[9] 3 #[false] #[s_p0]) w fun t_0 w =>
  pvv prog (binOp .lss 3 t_0 (.int .i64 1)) w fun t_1 w =>
  cd t_1 (
    K (.tuple #[(.int .i32 65533), (.int .i64 0)]) w) <|
  pvv prog (Instr.index 9 s_p0 (.int .i64 0)) w fun t_2 w =>
  pvv prog (Instr.indexAt 149 (.pointer (some ⟨3, 0, none⟩)) t_2) w fun t_3 w =>
  ldv prog (Instr.loadAt 5 t_3) w fun t_4 w =>
  pvv prog (binOp .geq 5 t_4 (.int .u8 240)) w fun t_5 w =>
  cd t_5 (
    pvv prog (convert 5 21 t_4) w fun t_6 w =>
    pvv prog (binOp .shl 21 t_6 (.int .u64 31)) w fun t_7 w =>
    pvv prog (binOp .shr 21 t_7 (.int .u64 31)) w fun t_8 w =>
    pvv prog (Instr.index 9 s_p0 (.int .i64 0)) w fun t_9 w =>
    pvv prog (convert 5 21 t_9) w fun t_10 w =>
    pvv prog (binOp .andNot 21 t_10 t_8) w fun t_11 w =>
    pvv prog (binOp .and 21 (.int .i32 65533) t_8) w fun t_12 w =>
    pvv prog (binOp .or 21 t_11 t_12) w fun t_13 w =>
    K (.tuple #[t_13, (.int .i64 1)]) w) <|
  pvv prog (binOp .and 5 t_4 (.int .u8 7)) w fun t_14 w =>
  pvv prog (convert 5 3 t_14) w fun t_15 w =>
  pvv prog (binOp .shr 5 t_4 (.int .u64 4)) w fun t_16 w =>
  pvv prog (Instr.indexAt 152 (.pointer (some ⟨4, 0, none⟩)) t_16) w fun t_17 w =>
  ldv prog (Instr.loadAt 151 t_17) w fun t_18 w =>
  efv prog (Instr.alloc 151 true (.tuple #[])) w fun accept_19 w =>
  efu prog (Instr.storeAt 151 accept_19 t_18) w fun u_20 w =>
  pvv prog (binOp .lss 3 t_0 t_15) w fun t_21 w =>
  cd t_21 (
    K (.tuple #[(.int .i32 65533), (.int .i64 1)]) w) <|
  pvv prog (Instr.index 9 s_p0 (.int .i64 1)) w fun t_22 w =>
  pvv prog (Instr.fieldAt 151 accept_19 0) w fun t_23 w =>
  ldv prog (Instr.loadAt 5 t_23) w fun t_24 w =>
  pvv prog (binOp .lss 5 t_22 t_24) w fun t_25 w =>
  gate (some (t_25, false)) (fun K => pvv prog (Instr.fieldAt 151 accept_19 1) w K) w fun t_26 w =>
  gate (some (t_25, false)) (fun K => ldv prog (Instr.loadAt 5 t_26) w K) w fun t_27 w =>
  gate (some (t_25, false)) (fun K => K t_22 w) w fun t_28 w =>
  gate (some (t_25, false)) (fun K => pvv prog (binOp .lss 5 t_27 t_28) w K) w fun t_29 w =>
  pv prog (oPick t_25 (.bool true) t_29) w fun t_30 w =>
  cd t_30 (
    K (.tuple #[(.int .i32 65533), (.int .i64 1)]) w) <|
  pvv prog (binOp .leq 3 t_15 (.int .i64 2)) w fun t_31 w =>
  cd t_31 (
    pvv prog (binOp .and 5 t_2 (.int .u8 31)) w fun t_32 w =>
    pvv prog (convert 5 21 t_32) w fun t_33 w =>
    pvv prog (binOp .shl 21 t_33 (.int .u64 6)) w fun t_34 w =>
    pvv prog (binOp .and 5 t_22 (.int .u8 63)) w fun t_35 w =>
    pvv prog (convert 5 21 t_35) w fun t_36 w =>
    pvv prog (binOp .or 21 t_34 t_36) w fun t_37 w =>
    K (.tuple #[t_37, (.int .i64 2)]) w) <|
  pvv prog (Instr.index 9 s_p0 (.int .i64 2)) w fun t_38 w =>
  pvv prog (binOp .lss 5 t_38 (.int .u8 128)) w fun t_39 w =>
  gate (some (t_39, false)) (fun K => K t_38 w) w fun t_40 w =>
  gate (some (t_39, false)) (fun K => pvv prog (binOp .lss 5 (.int .u8 191) t_40) w K) w fun t_41 w =>
  pv prog (oPick t_39 (.bool true) t_41) w fun t_42 w =>
  cd t_42 (
    K (.tuple #[(.int .i32 65533), (.int .i64 1)]) w) <|
  pvv prog (binOp .leq 3 t_15 (.int .i64 3)) w fun t_43 w =>
  cd t_43 (
    pvv prog (binOp .and 5 t_2 (.int .u8 15)) w fun t_44 w =>
    pvv prog (convert 5 21 t_44) w fun t_45 w =>
    pvv prog (binOp .shl 21 t_45 (.int .u64 12)) w fun t_46 w =>
    pvv prog (binOp .and 5 t_22 (.int .u8 63)) w fun t_47 w =>
    pvv prog (convert 5 21 t_47) w fun t_48 w =>
    pvv prog (binOp .shl 21 t_48 (.int .u64 6)) w fun t_49 w =>
    pvv prog (binOp .or 21 t_46 t_49) w fun t_50 w =>
    pvv prog (binOp .and 5 t_38 (.int .u8 63)) w fun t_51 w =>
    pvv prog (convert 5 21 t_51) w fun t_52 w =>
    pvv prog (binOp .or 21 t_50 t_52) w fun t_53 w =>
    K (.tuple #[t_53, (.int .i64 3)]) w) <|
  pvv prog (Instr.index 9 s_p0 (.int .i64 3)) w fun t_54 w =>
  pvv prog (binOp .lss 5 t_54 (.int .u8 128)) w fun t_55 w =>
  gate (some (t_55, false)) (fun K => K t_54 w) w fun t_56 w =>
  gate (some (t_55, false)) (fun K => pvv prog (binOp .lss 5 (.int .u8 191) t_56) w K) w fun t_57 w =>
  pv prog (oPick t_55 (.bool true) t_57) w fun t_58 w =>
  cd t_58 (
    K (.tuple #[(.int .i32 65533), (.int .i64 1)]) w) <|
  pvv prog (binOp .and 5 t_2 (.int .u8 7)) w fun t_59 w =>
  pvv prog (convert 5 21 t_59) w fun t_60 w =>
  pvv prog (binOp .shl 21 t_60 (.int .u64 18)) w fun t_61 w =>
  pvv prog (binOp .and 5 t_22 (.int .u8 63)) w fun t_62 w =>
  pvv prog (convert 5 21 t_62) w fun t_63 w =>
  pvv prog (binOp .shl 21 t_63 (.int .u64 12)) w fun t_64 w =>
  pvv prog (binOp .or 21 t_61 t_64) w fun t_65 w =>
  pvv prog (binOp .and 5 t_38 (.int .u8 63)) w fun t_66 w =>
  pvv prog (convert 5 21 t_66) w fun t_67 w =>
  pvv prog (binOp .shl 21 t_67 (.int .u64 6)) w fun t_68 w =>
  pvv prog (binOp .or 21 t_65 t_68) w fun t_69 w =>
  pvv prog (binOp .and 5 t_54 (.int .u8 63)) w fun t_70 w =>
  pvv prog (convert 5 21 t_70) w fun t_71 w =>
  pvv prog (binOp .or 21 t_69 t_71) w fun t_72 w =>
  K (.tuple #[t_72, (.int .i64 4)]) w
theorem B103_eq (s_p0 : Value) (w : World) (K : Value → World → Prop) : denFn prog Tryd.f103 T103 [s_p0] w K = B103 s_p0 w K := by kernel_rfl
theorem c103 {s_p0 : Value} {w : World} {K : Value → World → Prop} (h : B103 s_p0 w K) : Calls prog 103 #[s_p0] w (Ret K) :=
  denFn_calls Tryd.func103 T103_ok (Eq.mpr (B103_eq s_p0 w K) h)

-- 12 holdfast/holdfastlaw14.do
def T12 : Ann := (.seq .none (.seq (.seq .none (.block (.seq .none (.seq (.seq .none (.seq .none (.seq .none .none))) (.seq .none (.seq (.seq .none (.seq .none (.seq .none .none))) (.seq .none (.seq (.seq .none (.seq .none (.seq .none .none))) .none)))))))) (.seq .none .none)))
theorem T12_ok : chkFn prog Tryd.f12 T12 = true := by kernel_rfl
def B12 (c_p0 r_p1 x_p2 : Value) (w : World) (K : Value → World → Prop) : Prop :=
  efv prog (Instr.box 30 x_p2) w fun x_0 w =>
  pvv prog (Instr.fieldAt 30 x_0 0) w fun t_1 w =>
  ldv prog (Instr.loadAt 3 t_1) w fun t_2 w =>
  pvv prog (oEq .eql 3 (.tmp 20) (.const (.int .i64 0)) t_2 (.int .i64 0)) w fun t_3 w =>
  cd t_3 (
    pvv prog (Instr.fieldAt 30 x_0 1) w fun t_4 w =>
    ldv prog (Instr.loadAt 3 t_4) w fun t_5 w =>
    pvv prog (Instr.fieldAt 30 x_0 3) w fun t_6 w =>
    ldv prog (Instr.loadAt 9 t_6) w fun t_7 w =>
    pvv prog (Instr.fieldAt 30 x_0 4) w fun t_8 w =>
    ldv prog (Instr.loadAt 9 t_8) w fun t_9 w =>
    Calls prog 16 #[c_p0, t_5, t_7, t_9] w (Ret fun t_10 w =>
    pvv prog (Instr.extract t_10 0) w fun t_11 w =>
    pvv prog (Instr.extract t_10 1) w fun t_12 w =>
    efv prog (Instr.alloc 34 true (.tuple #[])) w fun a_13 w =>
    efu prog (Instr.storeAt 34 a_13 t_11) w fun u_14 w =>
    pvv prog (Instr.fieldAt 30 x_0 1) w fun t_15 w =>
    ldv prog (Instr.loadAt 3 t_15) w fun t_16 w =>
    pvv prog (Instr.fieldAt 30 x_0 3) w fun t_17 w =>
    ldv prog (Instr.loadAt 9 t_17) w fun t_18 w =>
    pvv prog (Instr.fieldAt 30 x_0 4) w fun t_19 w =>
    ldv prog (Instr.loadAt 9 t_19) w fun t_20 w =>
    Calls prog 26 #[r_p1, t_16, t_18, t_20] w (Ret fun t_21 w =>
    pvv prog (Instr.extract t_21 0) w fun t_22 w =>
    pvv prog (Instr.extract t_21 1) w fun t_23 w =>
    efv prog (Instr.alloc 34 true (.tuple #[])) w fun b_24 w =>
    efu prog (Instr.storeAt 34 b_24 t_22) w fun u_25 w =>
    ldv prog (Instr.loadAt 34 a_13) w fun t_26 w =>
    ldv prog (Instr.loadAt 34 b_24) w fun t_27 w =>
    pvv prog (oEq .eql 34 (.tmp 45) (.tmp 46) t_26 t_27) w fun t_28 w =>
    gate (some (t_28, true)) (fun K => K t_12 w) w fun t_29 w =>
    gate (some (t_28, true)) (fun K => K t_23 w) w fun t_30 w =>
    gate (some (t_28, true)) (fun K => pvv prog (oEq .eql 41 (.tmp 49) (.tmp 50) t_29 t_30) w K) w fun t_31 w =>
    pv prog (oPick t_28 t_31 (.bool false)) w fun t_32 w =>
    K t_32 w))) <|
  pvv prog (oEq .eql 3 (.tmp 20) (.const (.int .i64 1)) t_2 (.int .i64 1)) w fun t_33 w =>
  cd t_33 (
    Calls prog 17 #[c_p0] w (Ret fun t_34 w =>
    pvv prog (Instr.extract t_34 0) w fun t_35 w =>
    pvv prog (Instr.extract t_34 1) w fun t_36 w =>
    efv prog (Instr.alloc 36 true (.tuple #[])) w fun h_37 w =>
    efu prog (Instr.storeAt 36 h_37 t_36) w fun u_38 w =>
    Calls prog 27 #[r_p1] w (Ret fun t_39 w =>
    pvv prog (Instr.extract t_39 0) w fun t_40 w =>
    pvv prog (Instr.extract t_39 1) w fun t_41 w =>
    efv prog (Instr.alloc 36 true (.tuple #[])) w fun g_42 w =>
    efu prog (Instr.storeAt 36 g_42 t_41) w fun u_43 w =>
    pvv prog (oEq .eql 3 (.tmp 65) (.tmp 66) t_35 t_40) w fun t_44 w =>
    gate (some (t_44, true)) (fun K => ldv prog (Instr.loadAt 36 h_37) w K) w fun t_45 w =>
    gate (some (t_44, true)) (fun K => ldv prog (Instr.loadAt 36 g_42) w K) w fun t_46 w =>
    gate (some (t_44, true)) (fun K => pvv prog (oEq .eql 36 (.tmp 69) (.tmp 70) t_45 t_46) w K) w fun t_47 w =>
    pv prog (oPick t_44 t_47 (.bool false)) w fun t_48 w =>
    K t_48 w))) <|
  pvv prog (oEq .eql 3 (.tmp 20) (.const (.int .i64 2)) t_2 (.int .i64 2)) w fun t_49 w =>
  cd t_49 (
    pvv prog (Instr.fieldAt 30 x_0 2) w fun t_50 w =>
    ldv prog (Instr.loadAt 3 t_50) w fun t_51 w =>
    Calls prog 18 #[c_p0, t_51] w (Ret fun t_52 w =>
    pvv prog (Instr.extract t_52 0) w fun t_53 w =>
    pvv prog (Instr.extract t_52 1) w fun t_54 w =>
    pvv prog (Instr.fieldAt 30 x_0 2) w fun t_55 w =>
    ldv prog (Instr.loadAt 3 t_55) w fun t_56 w =>
    Calls prog 28 #[r_p1, t_56] w (Ret fun t_57 w =>
    pvv prog (Instr.extract t_57 0) w fun t_58 w =>
    pvv prog (Instr.extract t_57 1) w fun t_59 w =>
    pvv prog (oEq .eql 3 (.tmp 89) (.tmp 90) t_53 t_58) w fun t_60 w =>
    gate (some (t_60, true)) (fun K => K t_54 w) w fun t_61 w =>
    gate (some (t_60, true)) (fun K => K t_59 w) w fun t_62 w =>
    gate (some (t_60, true)) (fun K => pvv prog (oEq .eql 41 (.tmp 93) (.tmp 94) t_61 t_62) w K) w fun t_63 w =>
    pv prog (oPick t_60 t_63 (.bool false)) w fun t_64 w =>
    K t_64 w))) <|
  Calls prog 20 #[c_p0] w (Ret fun t_65 w =>
  Calls prog 29 #[r_p1] w (Ret fun t_66 w =>
  pvv prog (oEq .eql 41 (.tmp 98) (.tmp 100) t_65 t_66) w fun t_67 w =>
  K t_67 w))
theorem B12_eq (c_p0 r_p1 x_p2 : Value) (w : World) (K : Value → World → Prop) : denFn prog Tryd.f12 T12 [c_p0, r_p1, x_p2] w K = B12 c_p0 r_p1 x_p2 w K := by kernel_rfl
theorem c12 {c_p0 r_p1 x_p2 : Value} {w : World} {K : Value → World → Prop} (h : B12 c_p0 r_p1 x_p2 w K) : Calls prog 12 #[c_p0, r_p1, x_p2] w (Ret K) :=
  denFn_calls Tryd.func12 T12_ok (Eq.mpr (B12_eq c_p0 r_p1 x_p2 w K) h)

-- 11 holdfast/holdfastlaw14.live
def T11 : Ann := (.seq .none (.seq .none (.seq (.seq .none (.seq (.seq .none .none) .none)) (.seq .none (.seq .none (.seq .none (.seq .none (.seq .none .none))))))))
theorem T11_ok : chkFn prog Tryd.f11 T11 = true := by kernel_rfl
def B11 (w : World) (K : Value → World → Prop) : Prop :=
  Calls prog 9 #[] w (Ret fun t_0 w =>
  pvv prog (oEq .eql 23 (.tmp 11) (.const (.pointer none)) t_0 (.pointer none)) w fun t_1 w =>
  cd t_1 (
    K (.bool false) w) <|
  Calls prog 16 #[t_0, (.int .i64 5), (.string ⟨#[108, 111, 103, 105, 110]⟩), (.string ⟨#[116, 47, 117]⟩)] w (Ret fun t_2 w =>
  pvv prog (Instr.extract t_2 0) w fun t_3 w =>
  pvv prog (Instr.extract t_2 1) w fun t_4 w =>
  efv prog (Instr.alloc 34 true (.tuple #[])) w fun x_5 w =>
  efu prog (Instr.storeAt 34 x_5 t_3) w fun u_6 w =>
  Calls prog 17 #[t_0] w (Ret fun t_7 w =>
  pvv prog (Instr.extract t_7 0) w fun t_8 w =>
  pvv prog (Instr.extract t_7 1) w fun t_9 w =>
  efv prog (Instr.alloc 36 true (.tuple #[])) w fun h_10 w =>
  efu prog (Instr.storeAt 36 h_10 t_9) w fun u_11 w =>
  Calls prog 18 #[t_0, (.int .i64 1)] w (Ret fun t_12 w =>
  pvv prog (Instr.extract t_12 0) w fun t_13 w =>
  pvv prog (Instr.extract t_12 1) w fun t_14 w =>
  Calls prog 16 #[t_0, (.int .i64 6), (.string ⟨#[116, 105, 99, 107]⟩), (.string ⟨#[]⟩)] w (Ret fun t_15 w =>
  pvv prog (Instr.extract t_15 0) w fun t_16 w =>
  pvv prog (Instr.extract t_15 1) w fun t_17 w =>
  efv prog (Instr.alloc 34 true (.tuple #[])) w fun y_18 w =>
  efu prog (Instr.storeAt 34 y_18 t_16) w fun u_19 w =>
  pvv prog (oEq .eql 41 (.tmp 33) (.const (.int .i64 0)) t_4 (.int .i64 0)) w fun t_20 w =>
  gate (some (t_20, true)) (fun K => pvv prog (Instr.fieldAt 34 x_5 0) w K) w fun t_21 w =>
  gate (some (t_20, true)) (fun K => ldv prog (Instr.loadAt 3 t_21) w K) w fun t_22 w =>
  gate (some (t_20, true)) (fun K => pvv prog (oEq .eql 3 (.tmp 37) (.const (.int .i64 1)) t_22 (.int .i64 1)) w K) w fun t_23 w =>
  pv prog (oPick t_20 t_23 (.bool false)) w fun t_24 w =>
  gate (some (t_24, true)) (fun K => K t_8 w) w fun t_25 w =>
  gate (some (t_24, true)) (fun K => pvv prog (oEq .eql 3 (.tmp 41) (.const (.int .i64 1)) t_25 (.int .i64 1)) w K) w fun t_26 w =>
  pv prog (oPick t_24 t_26 (.bool false)) w fun t_27 w =>
  gate (some (t_27, true)) (fun K => ldv prog (Instr.loadAt 36 h_10) w K) w fun t_28 w =>
  gate (some (t_27, true)) (fun K => pvv prog (Instr.build 36 #[]) w K) w fun t_29 w =>
  gate (some (t_27, true)) (fun K => pvv prog (oEq .neq 36 (.tmp 45) (.tmp 46) t_28 t_29) w K) w fun t_30 w =>
  pv prog (oPick t_27 t_30 (.bool false)) w fun t_31 w =>
  gate (some (t_31, true)) (fun K => K t_13 w) w fun t_32 w =>
  gate (some (t_31, true)) (fun K => pvv prog (oEq .eql 3 (.tmp 50) (.const (.int .i64 1)) t_32 (.int .i64 1)) w K) w fun t_33 w =>
  pv prog (oPick t_31 t_33 (.bool false)) w fun t_34 w =>
  gate (some (t_34, true)) (fun K => K t_14 w) w fun t_35 w =>
  gate (some (t_34, true)) (fun K => pvv prog (oEq .eql 41 (.tmp 54) (.const (.int .i64 0)) t_35 (.int .i64 0)) w K) w fun t_36 w =>
  pv prog (oPick t_34 t_36 (.bool false)) w fun t_37 w =>
  gate (some (t_37, true)) (fun K => pvv prog (Instr.fieldAt 34 y_18 0) w K) w fun t_38 w =>
  gate (some (t_37, true)) (fun K => ldv prog (Instr.loadAt 3 t_38) w K) w fun t_39 w =>
  gate (some (t_37, true)) (fun K => pvv prog (oEq .eql 3 (.tmp 59) (.const (.int .i64 2)) t_39 (.int .i64 2)) w K) w fun t_40 w =>
  pv prog (oPick t_37 t_40 (.bool false)) w fun t_41 w =>
  gate (some (t_41, true)) (fun K => K t_17 w) w fun t_42 w =>
  gate (some (t_41, true)) (fun K => pvv prog (oEq .eql 41 (.tmp 63) (.const (.int .i64 0)) t_42 (.int .i64 0)) w K) w fun t_43 w =>
  pv prog (oPick t_41 t_43 (.bool false)) w fun t_44 w =>
  gate (some (t_44, true)) (fun K => K t_0 w) w fun t_45 w =>
  gate (some (t_44, true)) (fun K => Calls prog 20 #[t_45] w (Ret K)) w fun t_46 w =>
  gate (some (t_44, true)) (fun K => pvv prog (oEq .eql 41 (.tmp 68) (.const (.int .i64 0)) t_46 (.int .i64 0)) w K) w fun t_47 w =>
  pv prog (oPick t_44 t_47 (.bool false)) w fun t_48 w =>
  K t_48 w)))))
theorem B11_eq (w : World) (K : Value → World → Prop) : denFn prog Tryd.f11 T11 [] w K = B11  w K := by kernel_rfl
theorem c11 {w : World} {K : Value → World → Prop} (h : B11  w K) : Calls prog 11 #[] w (Ret K) :=
  denFn_calls Tryd.func11 T11_ok (Eq.mpr (B11_eq  w K) h)

-- 51 holdfast/holdfastref09.Sorted
def T51 : Ann := (.seq .none (.seq .none (.seq (.seq .none (.block (.loop 1125899906842616 [3, 4] (.seq (.seq .none (.seq .none .none)) (.seq (.block (.seq .none (.seq (.block (.loop 8589901856 [5] (.seq (.seq (.draw [(0, .pure), (1, .pure), (2, .pure), (3, .pure), (4, .pure), (5, .pure), (6, .pure), (7, .pure), (9, .pure), (10, .pure), (11, .pure), (12, .pure), (8, .load), (13, .load), (14, .pure), (15, .pure)]) (.seq .none .none)) (.block .none)))) (.seq .none (.seq .none (.seq .none .none)))))) .none))))) (.seq .none .none))))
theorem T51_ok : chkFn prog Tryd.f51 T51 = true := by kernel_rfl
def B51 (l_p0 : Value) (w : World) (K : Value → World → Prop) : Prop :=
  lp (fun σ w again_2 => pop σ fun out_0 σ => pop σ fun i_1 σ => fin σ <|
    pv prog (oBi .len #[51] 3 #[false] #[l_p0]) w fun t_3 w =>
    pvv prog (binOp .lss 3 i_1 t_3) w fun t_4 w =>
    cd t_4 (
      pv prog (oBi .len #[51] 3 #[false] #[out_0]) w fun t_5 w =>
      lp (fun σ w again_7 => pop σ fun at_6 σ => fin σ <|
        dr w fun w =>
        pvv prog (binOp .gtr 3 at_6 (.int .i64 0)) w fun t_8 w =>
        gate (some (t_8, true)) (fun K => K out_0 w) w fun t_9 w =>
        gate (some (t_8, true)) (fun K => K at_6 w) w fun t_10 w =>
        gate (some (t_8, true)) (fun K => pvv prog (binOp .sub 3 t_10 (.int .i64 1)) w K) w fun t_11 w =>
        gate (some (t_8, true)) (fun K => pvv prog (Instr.indexAt 51 t_9 t_11) w K) w fun t_12 w =>
        gate (some (t_8, true)) (fun K => pvv prog (Instr.fieldAt 71 t_12 0) w K) w fun t_13 w =>
        gate (some (t_8, true)) (fun K => K l_p0 w) w fun t_14 w =>
        gate (some (t_8, true)) (fun K => K i_1 w) w fun t_15 w =>
        gate (some (t_8, true)) (fun K => pvv prog (Instr.indexAt 51 t_14 t_15) w K) w fun t_16 w =>
        gate (some (t_8, true)) (fun K => pvv prog (Instr.fieldAt 71 t_16 0) w K) w fun t_17 w =>
        bindS (vN (Instr.loadAt 9 t_13)) fun m_19 => gate (some (t_8, true)) (fun K => ldv prog (Instr.loadAt 9 t_13) w K) w fun t_18 w =>
        bindS (vN (Instr.loadAt 9 t_17)) fun m_21 => gate (some (t_8, true)) (fun K => ldv prog (Instr.loadAt 9 t_17) w K) w fun t_20 w =>
        gate (some (t_8, true)) (fun K => pvv prog (binOp .gtr 9 t_18 t_20) w K) w fun t_22 w =>
        pv prog (oPick t_8 t_22 (.bool false)) w fun t_23 w =>
        cd t_23 (
          pvv prog (binOp .sub 3 at_6 (.int .i64 1)) w fun t_24 w =>
          again_7 [t_24] w) <|
        pvv prog (Instr.sliceAt 51 out_0 none (some at_6) none) w fun t_25 w =>
        ef prog (oBi .append #[51, 51] 51 #[false, false] #[(.slice none 0 0), t_25]) w fun t_26 w =>
        pvv prog (Instr.indexAt 51 l_p0 i_1) w fun t_27 w =>
        ldv prog (Instr.loadAt 71 t_27) w fun t_28 w =>
        efv prog (Instr.buildSlice 51 1 #[(0, t_28)]) w fun t_29 w =>
        ef prog (oBi .append #[51, 51] 51 #[false, false] #[t_26, t_29]) w fun t_30 w =>
        pvv prog (Instr.sliceAt 51 out_0 (some at_6) none none) w fun t_31 w =>
        ef prog (oBi .append #[51, 51] 51 #[false, false] #[t_30, t_31]) w fun t_32 w =>
        pvv prog (binOp .add 3 i_1 (.int .i64 1)) w fun t_33 w =>
        again_2 [t_32, t_33] w) [t_5] w) <|
    K out_0 w) [(.slice none 0 0), (.int .i64 0)] w
theorem B51_eq (l_p0 : Value) (w : World) (K : Value → World → Prop) : denFn prog Tryd.f51 T51 [l_p0] w K = B51 l_p0 w K := by kernel_rfl
theorem c51 {l_p0 : Value} {w : World} {K : Value → World → Prop} (h : B51 l_p0 w K) : Calls prog 51 #[l_p0] w (Ret K) :=
  denFn_calls Tryd.func51 T51_ok (Eq.mpr (B51_eq l_p0 w K) h)

-- 72 internal/strconv.FormatInt
def T72 : Ann := (.seq .none (.seq (.seq .none (.seq (.seq (.seq .none (.seq (.seq .none .none) .none)) (.seq .none (.seq .none (.meet 62914624 [6] (.seq .none (.seq .none .none)) (.seq .none (.seq .none (.seq (.seq .none (.seq (.seq .none (.seq .none .none)) .none)) (.seq .none .none)))))))) .none)) (.seq .none (.seq .none .none))))
theorem T72_ok : chkFn prog Tryd.f72 T72 = true := by kernel_rfl
def B72 (i_p0 base_p1 : Value) (w : World) (K : Value → World → Prop) : Prop :=
  pvv prog (oEq .eql 3 (.tmp 10) (.const (.int .i64 10)) base_p1 (.int .i64 10)) w fun t_0 w =>
  cd t_0 (
    pvv prog (binOp .leq 2 (.int .i64 0) i_p0) w fun t_1 w =>
    gate (some (t_1, true)) (fun K => K i_p0 w) w fun t_2 w =>
    gate (some (t_1, true)) (fun K => pvv prog (binOp .lss 2 t_2 (.int .i64 100)) w K) w fun t_3 w =>
    pv prog (oPick t_1 t_3 (.bool false)) w fun t_4 w =>
    cd t_4 (
      Calls prog 84 #[i_p0] w (Ret fun t_5 w =>
      K t_5 w)) <|
    efv prog (Instr.alloc 122 true (.tuple #[])) w fun a_6 w =>
    pvv prog (convert 2 96 i_p0) w fun t_7 w =>
    jn (fun σ w => pop σ fun u_8 σ => fin σ <|
      Calls prog 85 #[u_8] w (Ret fun t_9 w =>
      pvv prog (binOp .add 3 (.int .i64 1) t_9) w fun t_10 w =>
      pvv prog (Instr.sliceAt 122 a_6 (some (.int .i64 1)) (some t_10) none) w fun t_11 w =>
      Calls prog 86 #[t_11, u_8] w (Ret fun t_12 w =>
      pvv prog (binOp .lss 2 i_p0 (.int .i64 0)) w fun t_13 w =>
      cd t_13 (
        pvv prog (Instr.indexAt 122 a_6 (.int .i64 0)) w fun t_14 w =>
        efu prog (Instr.storeAt 5 t_14 (.int .u8 45)) w fun u_15 w =>
        pvv prog (binOp .add 3 (.int .i64 1) t_9) w fun t_16 w =>
        pvv prog (Instr.sliceAt 122 a_6 none (some t_16) none) w fun t_17 w =>
        efv prog (convert 72 9 t_17) w fun t_18 w =>
        K t_18 w) <|
      pvv prog (binOp .add 3 (.int .i64 1) t_9) w fun t_19 w =>
      pvv prog (Instr.sliceAt 122 a_6 (some (.int .i64 1)) (some t_19) none) w fun t_20 w =>
      efv prog (convert 72 9 t_20) w fun t_21 w =>
      K t_21 w))) fun k_22 =>
    pvv prog (binOp .lss 2 i_p0 (.int .i64 0)) w fun t_23 w =>
    cd t_23 (
      pvv prog (Op.unary .neg t_7) w fun t_24 w =>
      k_22 [t_24] w) <|
    k_22 [t_7] w) <|
  pvv prog (convert 2 96 i_p0) w fun t_25 w =>
  pvv prog (binOp .lss 2 i_p0 (.int .i64 0)) w fun t_26 w =>
  Calls prog 87 #[(.slice none 0 0), t_25, base_p1, t_26, (.bool false)] w (Ret fun t_27 w =>
  pvv prog (Instr.extract t_27 0) w fun t_28 w =>
  pvv prog (Instr.extract t_27 1) w fun t_29 w =>
  K t_29 w)
theorem B72_eq (i_p0 base_p1 : Value) (w : World) (K : Value → World → Prop) : denFn prog Tryd.f72 T72 [i_p0, base_p1] w K = B72 i_p0 base_p1 w K := by kernel_rfl
theorem c72 {i_p0 base_p1 : Value} {w : World} {K : Value → World → Prop} (h : B72 i_p0 base_p1 w K) : Calls prog 72 #[i_p0, base_p1] w (Ret K) :=
  denFn_calls Tryd.func72 T72_ok (Eq.mpr (B72_eq i_p0 base_p1 w K) h)

-- 41 holdfast/audit.take
def T41 : Ann := (.seq .none (.seq (.seq .none (.seq (.seq .none .none) .none)) (.seq (.draw [(0, .pure), (1, .pure), (2, .pure), (3, .pure), (4, .load), (5, .pure), (6, .load), (7, .eff)]) (.seq .none .none))))
theorem T41_ok : chkFn prog Tryd.f41 T41 = true := by kernel_rfl
def B41 (r_p0 key_p1 h_p2 : Value) (w : World) (K : Value → World → Prop) : Prop :=
  efv prog (Instr.box 71 r_p0) w fun r_0 w =>
  pvv prog (Instr.fieldAt 71 r_0 0) w fun t_1 w =>
  ldv prog (Instr.loadAt 9 t_1) w fun t_2 w =>
  pvv prog (oEq .neq 9 (.tmp 8) (.tmp 9) t_2 key_p1) w fun t_3 w =>
  gate (some (t_3, false)) (fun K => pvv prog (Instr.fieldAt 71 r_0 1) w K) w fun t_4 w =>
  gate (some (t_3, false)) (fun K => ldv prog (Instr.loadAt 69 t_4) w K) w fun t_5 w =>
  gate (some (t_3, false)) (fun K => pv prog (oBi .len #[69] 3 #[false] #[t_5]) w K) w fun t_6 w =>
  gate (some (t_3, false)) (fun K => pvv prog (oEq .neq 3 (.tmp 14) (.const (.int .i64 1)) t_6 (.int .i64 1)) w K) w fun t_7 w =>
  pv prog (oPick t_3 (.bool true) t_7) w fun t_8 w =>
  gate (some (t_8, false)) (fun K => pvv prog (Instr.fieldAt 71 r_0 1) w K) w fun t_9 w =>
  gate (some (t_8, false)) (fun K => ldv prog (Instr.loadAt 69 t_9) w K) w fun t_10 w =>
  gate (some (t_8, false)) (fun K => pvv prog (Instr.indexAt 69 t_10 (.int .i64 0)) w K) w fun t_11 w =>
  gate (some (t_8, false)) (fun K => ldv prog (Instr.loadAt 9 t_11) w K) w fun t_12 w =>
  gate (some (t_8, false)) (fun K => pv prog (oBi .len #[9] 3 #[false] #[t_12]) w K) w fun t_13 w =>
  gate (some (t_8, false)) (fun K => pvv prog (oEq .neq 3 (.tmp 22) (.const (.int .i64 32)) t_13 (.int .i64 32)) w K) w fun t_14 w =>
  pv prog (oPick t_8 (.bool true) t_14) w fun t_15 w =>
  cd t_15 (
    K (.bool false) w) <|
  dr w fun w =>
  pv prog (oNil h_p2) w fun t_16 w =>
  pvv prog (Instr.sliceAt 36 t_16 none none none) w fun t_17 w =>
  pvv prog (Instr.fieldAt 71 r_0 1) w fun t_18 w =>
  bindS (vN (Instr.loadAt 69 t_18)) fun m_20 => ldv prog (Instr.loadAt 69 t_18) w fun t_19 w =>
  pvv prog (Instr.indexAt 69 t_19 (.int .i64 0)) w fun t_21 w =>
  bindS (vN (Instr.loadAt 9 t_21)) fun m_23 => ldv prog (Instr.loadAt 9 t_21) w fun t_22 w =>
  ef prog (oBi .copy #[72, 9] 3 #[false, false] #[t_17, t_22]) w fun t_24 w => stay prog none m_20 t_19 w <| 
  K (.bool true) w
theorem B41_eq (r_p0 key_p1 h_p2 : Value) (w : World) (K : Value → World → Prop) : denFn prog Tryd.f41 T41 [r_p0, key_p1, h_p2] w K = B41 r_p0 key_p1 h_p2 w K := by kernel_rfl
theorem c41 {r_p0 key_p1 h_p2 : Value} {w : World} {K : Value → World → Prop} (h : B41 r_p0 key_p1 h_p2 w K) : Calls prog 41 #[r_p0, key_p1, h_p2] w (Ret K) :=
  denFn_calls Tryd.func41 T41_ok (Eq.mpr (B41_eq r_p0 key_p1 h_p2 w K) h)

-- 8 holdfast/holdfastlaw14.AuditSound
def T8 : Ann := (.seq .none (.seq .none (.seq (.seq .none (.seq (.seq .none .none) .none)) (.seq (.seq .none (.block (.loop 4294963236 [5] (.seq (.seq .none (.seq .none .none)) (.seq (.block (.seq .none (.seq .none (.seq (.seq .none .none) .none)))) .none))))) (.seq .none (.seq .none .none))))))
theorem T8_ok : chkFn prog Tryd.f8 T8 = true := by kernel_rfl
def B8 (l_p0 : Value) (w : World) (K : Value → World → Prop) : Prop :=
  Calls prog 9 #[] w (Ret fun t_0 w =>
  Calls prog 10 #[] w (Ret fun t_1 w =>
  Calls prog 11 #[] w (Ret fun t_2 w =>
  pvv prog (Op.unary .not t_2) w fun t_3 w =>
  cd t_3 (
    K (.bool false) w) <|
  lp (fun σ w again_5 => pop σ fun i_4 σ => fin σ <|
    pv prog (oBi .len #[22] 3 #[false] #[l_p0]) w fun t_6 w =>
    pvv prog (binOp .lss 3 i_4 t_6) w fun t_7 w =>
    gate (some (t_7, true)) (fun K => K i_4 w) w fun t_8 w =>
    gate (some (t_7, true)) (fun K => pvv prog (binOp .lss 3 t_8 (.int .i64 100)) w K) w fun t_9 w =>
    pv prog (oPick t_7 t_9 (.bool false)) w fun t_10 w =>
    cd t_10 (
      pvv prog (Instr.indexAt 22 l_p0 i_4) w fun t_11 w =>
      ldv prog (Instr.loadAt 30 t_11) w fun t_12 w =>
      Calls prog 12 #[t_0, t_1, t_12] w (Ret fun t_13 w =>
      Calls prog 20 #[t_0] w (Ret fun t_14 w =>
      pvv prog (oEq .neq 41 (.tmp 30) (.const (.int .i64 0)) t_14 (.int .i64 0)) w fun t_15 w =>
      cd t_15 (
        K (.bool false) w) <|
      pvv prog (binOp .add 3 i_4 (.int .i64 1)) w fun t_16 w =>
      again_5 [t_16] w))) <|
    Calls prog 24 #[t_0] w (Ret fun t_17 w =>
    Calls prog 25 #[t_17] w (Ret fun t_18 w =>
    pvv prog (Instr.extract t_18 0) w fun t_19 w =>
    pvv prog (Instr.extract t_18 1) w fun t_20 w =>
    pvv prog (oEq .eql 41 (.tmp 38) (.const (.int .i64 0)) t_20 (.int .i64 0)) w fun t_21 w =>
    gate (some (t_21, true)) (fun K => K t_19 w) w fun t_22 w =>
    gate (some (t_21, true)) (fun K => Calls prog 20 #[t_22] w (Ret K)) w fun t_23 w =>
    gate (some (t_21, true)) (fun K => pvv prog (oEq .eql 41 (.tmp 42) (.const (.int .i64 0)) t_23 (.int .i64 0)) w K) w fun t_24 w =>
    pv prog (oPick t_21 t_24 (.bool false)) w fun t_25 w =>
    K t_25 w))) [(.int .i64 0)] w)))
theorem B8_eq (l_p0 : Value) (w : World) (K : Value → World → Prop) : denFn prog Tryd.f8 T8 [l_p0] w K = B8 l_p0 w K := by kernel_rfl
theorem c8 {l_p0 : Value} {w : World} {K : Value → World → Prop} (h : B8 l_p0 w K) : Calls prog 8 #[l_p0] w (Ret K) :=
  denFn_calls Tryd.func8 T8_ok (Eq.mpr (B8_eq l_p0 w K) h)

-- 65 holdfast/holdfastref07.constants
def T65 : Ann := (.seq .none (.seq .none .none))
theorem T65_ok : chkFn prog Tryd.f65 T65 = true := by kernel_rfl
def B65 (w : World) (K : Value → World → Prop) : Prop :=
  efv prog (Instr.buildSlice 102 64 #[(0, (.int .u32 1116352408)), (1, (.int .u32 1899447441)), (2, (.int .u32 3049323471)), (3, (.int .u32 3921009573)), (4, (.int .u32 961987163)), (5, (.int .u32 1508970993)), (6, (.int .u32 2453635748)), (7, (.int .u32 2870763221)), (8, (.int .u32 3624381080)), (9, (.int .u32 310598401)), (10, (.int .u32 607225278)), (11, (.int .u32 1426881987)), (12, (.int .u32 1925078388)), (13, (.int .u32 2162078206)), (14, (.int .u32 2614888103)), (15, (.int .u32 3248222580)), (16, (.int .u32 3835390401)), (17, (.int .u32 4022224774)), (18, (.int .u32 264347078)), (19, (.int .u32 604807628)), (20, (.int .u32 770255983)), (21, (.int .u32 1249150122)), (22, (.int .u32 1555081692)), (23, (.int .u32 1996064986)), (24, (.int .u32 2554220882)), (25, (.int .u32 2821834349)), (26, (.int .u32 2952996808)), (27, (.int .u32 3210313671)), (28, (.int .u32 3336571891)), (29, (.int .u32 3584528711)), (30, (.int .u32 113926993)), (31, (.int .u32 338241895)), (32, (.int .u32 666307205)), (33, (.int .u32 773529912)), (34, (.int .u32 1294757372)), (35, (.int .u32 1396182291)), (36, (.int .u32 1695183700)), (37, (.int .u32 1986661051)), (38, (.int .u32 2177026350)), (39, (.int .u32 2456956037)), (40, (.int .u32 2730485921)), (41, (.int .u32 2820302411)), (42, (.int .u32 3259730800)), (43, (.int .u32 3345764771)), (44, (.int .u32 3516065817)), (45, (.int .u32 3600352804)), (46, (.int .u32 4094571909)), (47, (.int .u32 275423344)), (48, (.int .u32 430227734)), (49, (.int .u32 506948616)), (50, (.int .u32 659060556)), (51, (.int .u32 883997877)), (52, (.int .u32 958139571)), (53, (.int .u32 1322822218)), (54, (.int .u32 1537002063)), (55, (.int .u32 1747873779)), (56, (.int .u32 1955562222)), (57, (.int .u32 2024104815)), (58, (.int .u32 2227730452)), (59, (.int .u32 2361852424)), (60, (.int .u32 2428436474)), (61, (.int .u32 2756734187)), (62, (.int .u32 3204031479)), (63, (.int .u32 3329325298))]) w fun t_0 w =>
  K t_0 w
theorem B65_eq (w : World) (K : Value → World → Prop) : denFn prog Tryd.f65 T65 [] w K = B65  w K := by kernel_rfl
theorem c65 {w : World} {K : Value → World → Prop} (h : B65  w K) : Calls prog 65 #[] w (Ret K) :=
  denFn_calls Tryd.func65 T65_ok (Eq.mpr (B65_eq  w K) h)

-- 82 strconv.toError
def T82 : Ann := (.seq .none (.seq (.seq .none (.block (.seq .none (.seq (.seq .none .none) (.seq .none (.seq (.seq .none .none) (.seq .none (.seq (.seq .none .none) (.seq .none (.seq (.seq .none .none) .none)))))))))) (.seq .none .none)))
theorem T82_ok : chkFn prog Tryd.f82 T82 = true := by kernel_rfl
def B82 (fn_p0 s_p1 base_p2 bitSize_p3 err_p4 : Value) (w : World) (K : Value → World → Prop) : Prop :=
  pvv prog (Instr.makeInterface 131 (.int .i64 2)) w fun t_0 w =>
  pvv prog (oEq .eql 98 (.tmp 11) (.tmp 13) err_p4 t_0) w fun t_1 w =>
  cd t_1 (
    Calls prog 94 #[fn_p0, s_p1] w (Ret fun t_2 w =>
    pvv prog (Instr.makeInterface 134 t_2) w fun t_3 w =>
    K t_3 w)) <|
  pvv prog (Instr.makeInterface 131 (.int .i64 1)) w fun t_4 w =>
  pvv prog (oEq .eql 98 (.tmp 11) (.tmp 20) err_p4 t_4) w fun t_5 w =>
  cd t_5 (
    Calls prog 95 #[fn_p0, s_p1] w (Ret fun t_6 w =>
    pvv prog (Instr.makeInterface 134 t_6) w fun t_7 w =>
    K t_7 w)) <|
  pvv prog (Instr.makeInterface 131 (.int .i64 3)) w fun t_8 w =>
  pvv prog (oEq .eql 98 (.tmp 11) (.tmp 27) err_p4 t_8) w fun t_9 w =>
  cd t_9 (
    Calls prog 96 #[fn_p0, s_p1, base_p2] w (Ret fun t_10 w =>
    pvv prog (Instr.makeInterface 134 t_10) w fun t_11 w =>
    K t_11 w)) <|
  pvv prog (Instr.makeInterface 131 (.int .i64 4)) w fun t_12 w =>
  pvv prog (oEq .eql 98 (.tmp 11) (.tmp 35) err_p4 t_12) w fun t_13 w =>
  cd t_13 (
    Calls prog 97 #[fn_p0, s_p1, bitSize_p3] w (Ret fun t_14 w =>
    pvv prog (Instr.makeInterface 134 t_14) w fun t_15 w =>
    K t_15 w)) <|
  K err_p4 w
theorem B82_eq (fn_p0 s_p1 base_p2 bitSize_p3 err_p4 : Value) (w : World) (K : Value → World → Prop) : denFn prog Tryd.f82 T82 [fn_p0, s_p1, base_p2, bitSize_p3, err_p4] w K = B82 fn_p0 s_p1 base_p2 bitSize_p3 err_p4 w K := by kernel_rfl
theorem c82 {fn_p0 s_p1 base_p2 bitSize_p3 err_p4 : Value} {w : World} {K : Value → World → Prop} (h : B82 fn_p0 s_p1 base_p2 bitSize_p3 err_p4 w K) : Calls prog 82 #[fn_p0, s_p1, base_p2, bitSize_p3, err_p4] w (Ret K) :=
  denFn_calls Tryd.func82 T82_ok (Eq.mpr (B82_eq fn_p0 s_p1 base_p2 bitSize_p3 err_p4 w K) h)

-- 84 internal/strconv.small
def T84 : Ann := (.seq .none (.seq (.seq .none (.seq (.seq .none .none) .none)) (.seq .none .none)))
theorem T84_ok : chkFn prog Tryd.f84 T84 = true := by kernel_rfl
def B84 (i_p0 : Value) (w : World) (K : Value → World → Prop) : Prop :=
  pvv prog (binOp .lss 3 i_p0 (.int .i64 10)) w fun t_0 w =>
  cd t_0 (
    pvv prog (binOp .add 3 i_p0 (.int .i64 1)) w fun t_1 w =>
    pvv prog (Instr.sliceAt 9 (.string ⟨#[48, 49, 50, 51, 52, 53, 54, 55, 56, 57, 97, 98, 99, 100, 101, 102, 103, 104, 105, 106, 107, 108, 109, 110, 111, 112, 113, 114, 115, 116, 117, 118, 119, 120, 121, 122]⟩) (some i_p0) (some t_1) none) w fun t_2 w =>
    K t_2 w) <|
  pvv prog (binOp .mul 3 i_p0 (.int .i64 2)) w fun t_3 w =>
  pvv prog (binOp .mul 3 i_p0 (.int .i64 2)) w fun t_4 w =>
  pvv prog (binOp .add 3 t_4 (.int .i64 2)) w fun t_5 w =>
  pvv prog (Instr.sliceAt 9 (.string ⟨#[48, 48, 48, 49, 48, 50, 48, 51, 48, 52, 48, 53, 48, 54, 48, 55, 48, 56, 48, 57, 49, 48, 49, 49, 49, 50, 49, 51, 49, 52, 49, 53, 49, 54, 49, 55, 49, 56, 49, 57, 50, 48, 50, 49, 50, 50, 50, 51, 50, 52, 50, 53, 50, 54, 50, 55, 50, 56, 50, 57, 51, 48, 51, 49, 51, 50, 51, 51, 51, 52, 51, 53, 51, 54, 51, 55, 51, 56, 51, 57, 52, 48, 52, 49, 52, 50, 52, 51, 52, 52, 52, 53, 52, 54, 52, 55, 52, 56, 52, 57, 53, 48, 53, 49, 53, 50, 53, 51, 53, 52, 53, 53, 53, 54, 53, 55, 53, 56, 53, 57, 54, 48, 54, 49, 54, 50, 54, 51, 54, 52, 54, 53, 54, 54, 54, 55, 54, 56, 54, 57, 55, 48, 55, 49, 55, 50, 55, 51, 55, 52, 55, 53, 55, 54, 55, 55, 55, 56, 55, 57, 56, 48, 56, 49, 56, 50, 56, 51, 56, 52, 56, 53, 56, 54, 56, 55, 56, 56, 56, 57, 57, 48, 57, 49, 57, 50, 57, 51, 57, 52, 57, 53, 57, 54, 57, 55, 57, 56, 57, 57]⟩) (some t_3) (some t_5) none) w fun t_6 w =>
  K t_6 w
theorem B84_eq (i_p0 : Value) (w : World) (K : Value → World → Prop) : denFn prog Tryd.f84 T84 [i_p0] w K = B84 i_p0 w K := by kernel_rfl
theorem c84 {i_p0 : Value} {w : World} {K : Value → World → Prop} (h : B84 i_p0 w K) : Calls prog 84 #[i_p0] w (Ret K) :=
  denFn_calls Tryd.func84 T84_ok (Eq.mpr (B84_eq i_p0 w K) h)

-- 76 strings.makeASCIISet
def T76 : Ann := (.seq .none (.seq (.seq .none (.block (.loop 1048568 [4] (.seq (.seq .none (.seq .none .none)) (.seq (.block (.seq .none (.seq (.seq .none (.seq (.seq .none .none) .none)) .none))) .none))))) (.seq .none .none)))
theorem T76_ok : chkFn prog Tryd.f76 T76 = true := by kernel_rfl
def B76 (chars_p0 : Value) (w : World) (K : Value → World → Prop) : Prop :=
  efv prog (Instr.alloc 115 true (.tuple #[])) w fun as_0 w =>
  lp (fun σ w again_2 => pop σ fun i_1 σ => fin σ <|
    pv prog (oBi .len #[9] 3 #[false] #[chars_p0]) w fun t_3 w =>
    pvv prog (binOp .lss 3 i_1 t_3) w fun t_4 w =>
    cd t_4 (
      pvv prog (Instr.index 9 chars_p0 i_1) w fun t_5 w =>
      pvv prog (binOp .geq 5 t_5 (.int .u8 128)) w fun t_6 w =>
      cd t_6 (
        ldv prog (Instr.loadAt 115 as_0) w fun t_7 w =>
        efu prog (Instr.storeAt 115 as_0 t_7) w fun u_8 w =>
        ∃ r_9, (do loadVar 115 (← asAddr as_0)).run prog w = .ok r_9 w ∧ K (.tuple #[r_9, (.bool false)]) w) <|
      pvv prog (Instr.indexAt 115 as_0 t_5) w fun t_10 w =>
      efu prog (Instr.storeAt 4 t_10 (.bool true)) w fun u_11 w =>
      pvv prog (binOp .add 3 i_1 (.int .i64 1)) w fun t_12 w =>
      again_2 [t_12] w) <|
    ldv prog (Instr.loadAt 115 as_0) w fun t_13 w =>
    efu prog (Instr.storeAt 115 as_0 t_13) w fun u_14 w =>
    ∃ r_15, (do loadVar 115 (← asAddr as_0)).run prog w = .ok r_15 w ∧ K (.tuple #[r_15, (.bool true)]) w) [(.int .i64 0)] w
theorem B76_eq (chars_p0 : Value) (w : World) (K : Value → World → Prop) : denFn prog Tryd.f76 T76 [chars_p0] w K = B76 chars_p0 w K := by kernel_rfl
theorem c76 {chars_p0 : Value} {w : World} {K : Value → World → Prop} (h : B76 chars_p0 w K) : Calls prog 76 #[chars_p0] w (Ret K) :=
  denFn_calls Tryd.func76 T76_ok (Eq.mpr (B76_eq chars_p0 w K) h)

-- 78 strings.trimRightASCII
def T78 : Ann := (.seq .none (.meet 2097121 [0] (.block (.loop 2097121 [0] (.seq (.seq .none (.seq .none .none)) (.block (.seq (.seq .none (.seq .none .none)) .none))))) (.seq .none .none)))
theorem T78_ok : chkFn prog Tryd.f78 T78 = true := by kernel_rfl
def B78 (s_p0 as_p1 : Value) (w : World) (K : Value → World → Prop) : Prop :=
  jn (fun σ w => pop σ fun s_0 σ => fin σ <|
    K s_0 w) fun k_1 =>
  lp (fun σ w again_3 => pop σ fun s_2 σ => fin σ <|
    pv prog (oBi .len #[9] 3 #[false] #[s_2]) w fun t_4 w =>
    pvv prog (binOp .gtr 3 t_4 (.int .i64 0)) w fun t_5 w =>
    cd t_5 (
      pv prog (oBi .len #[9] 3 #[false] #[s_2]) w fun t_6 w =>
      pvv prog (binOp .sub 3 t_6 (.int .i64 1)) w fun t_7 w =>
      pvv prog (Instr.index 9 s_2 t_7) w fun t_8 w =>
      Calls prog 88 #[as_p1, t_8] w (Ret fun t_9 w =>
      pvv prog (Op.unary .not t_9) w fun t_10 w =>
      cd t_10 (
        k_1 [s_2] w) <|
      pv prog (oBi .len #[9] 3 #[false] #[s_2]) w fun t_11 w =>
      pvv prog (binOp .sub 3 t_11 (.int .i64 1)) w fun t_12 w =>
      pvv prog (Instr.sliceAt 9 s_2 none (some t_12) none) w fun t_13 w =>
      again_3 [t_13] w)) <|
    k_1 [s_2] w) [s_p0] w
theorem B78_eq (s_p0 as_p1 : Value) (w : World) (K : Value → World → Prop) : denFn prog Tryd.f78 T78 [s_p0, as_p1] w K = B78 s_p0 as_p1 w K := by kernel_rfl
theorem c78 {s_p0 as_p1 : Value} {w : World} {K : Value → World → Prop} (h : B78 s_p0 as_p1 w K) : Calls prog 78 #[s_p0, as_p1] w (Ret K) :=
  denFn_calls Tryd.func78 T78_ok (Eq.mpr (B78_eq s_p0 as_p1 w K) h)

-- 74 strings.trimLeftByte
def T74 : Ann := (.seq .none (.seq (.block (.loop 65505 [0] (.seq (.seq .none (.seq .none .none)) (.block .none)))) (.seq .none .none)))
theorem T74_ok : chkFn prog Tryd.f74 T74 = true := by kernel_rfl
def B74 (s_p0 c_p1 : Value) (w : World) (K : Value → World → Prop) : Prop :=
  lp (fun σ w again_1 => pop σ fun s_0 σ => fin σ <|
    pv prog (oBi .len #[9] 3 #[false] #[s_0]) w fun t_2 w =>
    pvv prog (binOp .gtr 3 t_2 (.int .i64 0)) w fun t_3 w =>
    gate (some (t_3, true)) (fun K => K s_0 w) w fun t_4 w =>
    gate (some (t_3, true)) (fun K => pvv prog (Instr.index 9 t_4 (.int .i64 0)) w K) w fun t_5 w =>
    gate (some (t_3, true)) (fun K => K c_p1 w) w fun t_6 w =>
    gate (some (t_3, true)) (fun K => pvv prog (oEq .eql 5 (.tmp 10) (.tmp 11) t_5 t_6) w K) w fun t_7 w =>
    pv prog (oPick t_3 t_7 (.bool false)) w fun t_8 w =>
    cd t_8 (
      pvv prog (Instr.sliceAt 9 s_0 (some (.int .i64 1)) none none) w fun t_9 w =>
      again_1 [t_9] w) <|
    K s_0 w) [s_p0] w
theorem B74_eq (s_p0 c_p1 : Value) (w : World) (K : Value → World → Prop) : denFn prog Tryd.f74 T74 [s_p0, c_p1] w K = B74 s_p0 c_p1 w K := by kernel_rfl
theorem c74 {s_p0 c_p1 : Value} {w : World} {K : Value → World → Prop} (h : B74 s_p0 c_p1 w K) : Calls prog 74 #[s_p0, c_p1] w (Ret K) :=
  denFn_calls Tryd.func74 T74_ok (Eq.mpr (B74_eq s_p0 c_p1 w K) h)

-- 77 strings.trimLeftASCII
def T77 : Ann := (.seq .none (.meet 32737 [0] (.block (.loop 32737 [0] (.seq (.seq .none (.seq .none .none)) (.block (.seq (.seq .none (.seq .none .none)) .none))))) (.seq .none .none)))
theorem T77_ok : chkFn prog Tryd.f77 T77 = true := by kernel_rfl
def B77 (s_p0 as_p1 : Value) (w : World) (K : Value → World → Prop) : Prop :=
  jn (fun σ w => pop σ fun s_0 σ => fin σ <|
    K s_0 w) fun k_1 =>
  lp (fun σ w again_3 => pop σ fun s_2 σ => fin σ <|
    pv prog (oBi .len #[9] 3 #[false] #[s_2]) w fun t_4 w =>
    pvv prog (binOp .gtr 3 t_4 (.int .i64 0)) w fun t_5 w =>
    cd t_5 (
      pvv prog (Instr.index 9 s_2 (.int .i64 0)) w fun t_6 w =>
      Calls prog 88 #[as_p1, t_6] w (Ret fun t_7 w =>
      pvv prog (Op.unary .not t_7) w fun t_8 w =>
      cd t_8 (
        k_1 [s_2] w) <|
      pvv prog (Instr.sliceAt 9 s_2 (some (.int .i64 1)) none none) w fun t_9 w =>
      again_3 [t_9] w)) <|
    k_1 [s_2] w) [s_p0] w
theorem B77_eq (s_p0 as_p1 : Value) (w : World) (K : Value → World → Prop) : denFn prog Tryd.f77 T77 [s_p0, as_p1] w K = B77 s_p0 as_p1 w K := by kernel_rfl
theorem c77 {s_p0 as_p1 : Value} {w : World} {K : Value → World → Prop} (h : B77 s_p0 as_p1 w K) : Calls prog 77 #[s_p0, as_p1] w (Ret K) :=
  denFn_calls Tryd.func77 T77_ok (Eq.mpr (B77_eq s_p0 as_p1 w K) h)

-- 21 (*holdfast/audit.Chain).Fork
def T21 : Ann := (.seq .none (.seq (.seq .none (.seq (.seq .none .none) .none)) (.seq .none (.seq .none (.seq .none .none)))))
theorem T21_ok : chkFn prog Tryd.f21 T21 = true := by kernel_rfl
def B21 (c_p0 : Value) (w : World) (K : Value → World → Prop) : Prop :=
  pvv prog (oEq .eql 23 (.tmp 4) (.const (.pointer none)) c_p0 (.pointer none)) w fun t_0 w =>
  cd t_0 (
    K (.pointer none) w) <|
  pv prog (oNil c_p0) w fun t_1 w =>
  ldv prog (Instr.loadAt 59 t_1) w fun t_2 w =>
  efv prog (Instr.alloc 59 true (.tuple #[])) w fun f_3 w =>
  efu prog (Instr.storeAt 59 f_3 t_2) w fun u_4 w =>
  pv prog (oNil c_p0) w fun t_5 w =>
  pvv prog (Instr.fieldAt 59 t_5 4) w fun t_6 w =>
  ldv prog (Instr.loadAt 31 t_6) w fun t_7 w =>
  Calls prog 30 #[t_7] w (Ret fun t_8 w =>
  pvv prog (Instr.fieldAt 59 f_3 4) w fun t_9 w =>
  efu prog (Instr.storeAt 31 t_9 t_8) w fun u_10 w =>
  K f_3 w)
theorem B21_eq (c_p0 : Value) (w : World) (K : Value → World → Prop) : denFn prog Tryd.f21 T21 [c_p0] w K = B21 c_p0 w K := by kernel_rfl
theorem c21 {c_p0 : Value} {w : World} {K : Value → World → Prop} (h : B21 c_p0 w K) : Calls prog 21 #[c_p0] w (Ret K) :=
  denFn_calls Tryd.func21 T21_ok (Eq.mpr (B21_eq c_p0 w K) h)

-- 64 strconv.ParseUint
def T64 : Ann := (.seq .none (.seq .none (.seq (.seq .none (.seq (.seq .none .none) .none)) (.seq .none .none))))
theorem T64_ok : chkFn prog Tryd.f64 T64 = true := by kernel_rfl
def B64 (s_p0 base_p1 bitSize_p2 : Value) (w : World) (K : Value → World → Prop) : Prop :=
  Calls prog 81 #[s_p0, base_p1, bitSize_p2] w (Ret fun t_0 w =>
  pvv prog (Instr.extract t_0 0) w fun t_1 w =>
  pvv prog (Instr.extract t_0 1) w fun t_2 w =>
  pvv prog (oEq .neq 98 (.tmp 17) (.const .nilIface) t_2 .nilIface) w fun t_3 w =>
  cd t_3 (
    Calls prog 82 #[(.string ⟨#[80, 97, 114, 115, 101, 85, 105, 110, 116]⟩), s_p0, base_p1, bitSize_p2, t_2] w (Ret fun t_4 w =>
    K (.tuple #[t_1, t_4]) w)) <|
  K (.tuple #[t_1, .nilIface]) w)
theorem B64_eq (s_p0 base_p1 bitSize_p2 : Value) (w : World) (K : Value → World → Prop) : denFn prog Tryd.f64 T64 [s_p0, base_p1, bitSize_p2] w K = B64 s_p0 base_p1 bitSize_p2 w K := by kernel_rfl
theorem c64 {s_p0 base_p1 bitSize_p2 : Value} {w : World} {K : Value → World → Prop} (h : B64 s_p0 base_p1 bitSize_p2 w K) : Calls prog 64 #[s_p0, base_p1, bitSize_p2] w (Ret K) :=
  denFn_calls Tryd.func64 T64_ok (Eq.mpr (B64_eq s_p0 base_p1 bitSize_p2 w K) h)

-- 97 strconv.bitSizeError
def T97 : Ann := (.seq .none (.seq .none .none))
theorem T97_ok : chkFn prog Tryd.f97 T97 = true := by kernel_rfl
def B97 (fn_p0 str_p1 bitSize_p2 : Value) (w : World) (K : Value → World → Prop) : Prop :=
  Calls prog 106 #[str_p1] w (Ret fun t_0 w =>
  Calls prog 108 #[bitSize_p2] w (Ret fun t_1 w =>
  pvv prog (binOp .add 9 (.string ⟨#[105, 110, 118, 97, 108, 105, 100, 32, 98, 105, 116, 32, 115, 105, 122, 101, 32]⟩) t_1) w fun t_2 w =>
  Calls prog 107 #[t_2] w (Ret fun t_3 w =>
  pvv prog (Instr.build 146 #[(0, fn_p0), (1, t_0), (2, t_3)]) w fun t_4 w =>
  efv prog (Instr.box 146 t_4) w fun t_5 w =>
  K t_5 w)))
theorem B97_eq (fn_p0 str_p1 bitSize_p2 : Value) (w : World) (K : Value → World → Prop) : denFn prog Tryd.f97 T97 [fn_p0, str_p1, bitSize_p2] w K = B97 fn_p0 str_p1 bitSize_p2 w K := by kernel_rfl
theorem c97 {fn_p0 str_p1 bitSize_p2 : Value} {w : World} {K : Value → World → Prop} (h : B97 fn_p0 str_p1 bitSize_p2 w K) : Calls prog 97 #[fn_p0, str_p1, bitSize_p2] w (Ret K) :=
  denFn_calls Tryd.func97 T97_ok (Eq.mpr (B97_eq fn_p0 str_p1 bitSize_p2 w K) h)

-- 96 strconv.baseError
def T96 : Ann := (.seq .none (.seq .none .none))
theorem T96_ok : chkFn prog Tryd.f96 T96 = true := by kernel_rfl
def B96 (fn_p0 str_p1 base_p2 : Value) (w : World) (K : Value → World → Prop) : Prop :=
  Calls prog 106 #[str_p1] w (Ret fun t_0 w =>
  Calls prog 108 #[base_p2] w (Ret fun t_1 w =>
  pvv prog (binOp .add 9 (.string ⟨#[105, 110, 118, 97, 108, 105, 100, 32, 98, 97, 115, 101, 32]⟩) t_1) w fun t_2 w =>
  Calls prog 107 #[t_2] w (Ret fun t_3 w =>
  pvv prog (Instr.build 146 #[(0, fn_p0), (1, t_0), (2, t_3)]) w fun t_4 w =>
  efv prog (Instr.box 146 t_4) w fun t_5 w =>
  K t_5 w)))
theorem B96_eq (fn_p0 str_p1 base_p2 : Value) (w : World) (K : Value → World → Prop) : denFn prog Tryd.f96 T96 [fn_p0, str_p1, base_p2] w K = B96 fn_p0 str_p1 base_p2 w K := by kernel_rfl
theorem c96 {fn_p0 str_p1 base_p2 : Value} {w : World} {K : Value → World → Prop} (h : B96 fn_p0 str_p1 base_p2 w K) : Calls prog 96 #[fn_p0, str_p1, base_p2] w (Ret K) :=
  denFn_calls Tryd.func96 T96_ok (Eq.mpr (B96_eq fn_p0 str_p1 base_p2 w K) h)

-- 66 holdfast/holdfastref07.turn
def T66 : Ann := (.seq .none (.seq (.draw [(0, .pure), (1, .pure), (2, .pure), (3, .pure), (4, .pure), (5, .pure), (6, .pure), (7, .pure), (8, .pure)]) .none))
theorem T66_ok : chkFn prog Tryd.f66 T66 = true := by kernel_rfl
def B66 (x_p0 n_p1 : Value) (w : World) (K : Value → World → Prop) : Prop :=
  dr w fun w =>
  pvv prog (binOp .shr 101 x_p0 n_p1) w fun t_0 w =>
  pvv prog (binOp .sub 3 (.int .i64 32) n_p1) w fun t_1 w =>
  pvv prog (binOp .shl 101 x_p0 t_1) w fun t_2 w =>
  pvv prog (binOp .or 101 t_0 t_2) w fun t_3 w =>
  K t_3 w
theorem B66_eq (x_p0 n_p1 : Value) (w : World) (K : Value → World → Prop) : denFn prog Tryd.f66 T66 [x_p0, n_p1] w K = B66 x_p0 n_p1 w K := by kernel_rfl
theorem c66 {x_p0 n_p1 : Value} {w : World} {K : Value → World → Prop} (h : B66 x_p0 n_p1 w K) : Calls prog 66 #[x_p0, n_p1] w (Ret K) :=
  denFn_calls Tryd.func66 T66_ok (Eq.mpr (B66_eq x_p0 n_p1 w K) h)

-- 71 internal/stringslite.TrimPrefix
def T71 : Ann := (.seq .none (.seq (.seq .none (.seq (.seq .none .none) .none)) (.seq .none .none)))
theorem T71_ok : chkFn prog Tryd.f71 T71 = true := by kernel_rfl
def B71 (s_p0 prefix_p1 : Value) (w : World) (K : Value → World → Prop) : Prop :=
  Calls prog 73 #[s_p0, prefix_p1] w (Ret fun t_0 w =>
  cd t_0 (
    pv prog (oBi .len #[9] 3 #[false] #[prefix_p1]) w fun t_1 w =>
    pvv prog (Instr.sliceAt 9 s_p0 (some t_1) none none) w fun t_2 w =>
    K t_2 w) <|
  K s_p0 w)
theorem B71_eq (s_p0 prefix_p1 : Value) (w : World) (K : Value → World → Prop) : denFn prog Tryd.f71 T71 [s_p0, prefix_p1] w K = B71 s_p0 prefix_p1 w K := by kernel_rfl
theorem c71 {s_p0 prefix_p1 : Value} {w : World} {K : Value → World → Prop} (h : B71 s_p0 prefix_p1 w K) : Calls prog 71 #[s_p0, prefix_p1] w (Ret K) :=
  denFn_calls Tryd.func71 T71_ok (Eq.mpr (B71_eq s_p0 prefix_p1 w K) h)

-- 101 internal/strconv.isPowerOfTwo
def T101 : Ann := (.seq .none (.seq .none .none))
theorem T101_ok : chkFn prog Tryd.f101 T101 = true := by kernel_rfl
def B101 (x_p0 : Value) (w : World) (K : Value → World → Prop) : Prop :=
  pvv prog (binOp .sub 3 x_p0 (.int .i64 1)) w fun t_0 w =>
  pvv prog (binOp .and 3 x_p0 t_0) w fun t_1 w =>
  pvv prog (oEq .eql 3 (.tmp 6) (.const (.int .i64 0)) t_1 (.int .i64 0)) w fun t_2 w =>
  K t_2 w
theorem B101_eq (x_p0 : Value) (w : World) (K : Value → World → Prop) : denFn prog Tryd.f101 T101 [x_p0] w K = B101 x_p0 w K := by kernel_rfl
theorem c101 {x_p0 : Value} {w : World} {K : Value → World → Prop} (h : B101 x_p0 w K) : Calls prog 101 #[x_p0] w (Ret K) :=
  denFn_calls Tryd.func101 T101_ok (Eq.mpr (B101_eq x_p0 w K) h)

-- 105 unicode/utf8.RuneStart
def T105 : Ann := (.seq .none (.seq .none .none))
theorem T105_ok : chkFn prog Tryd.f105 T105 = true := by kernel_rfl
def B105 (b_p0 : Value) (w : World) (K : Value → World → Prop) : Prop :=
  pvv prog (binOp .and 5 b_p0 (.int .u8 192)) w fun t_0 w =>
  pvv prog (oEq .neq 5 (.tmp 4) (.const (.int .u8 128)) t_0 (.int .u8 128)) w fun t_1 w =>
  K t_1 w
theorem B105_eq (b_p0 : Value) (w : World) (K : Value → World → Prop) : denFn prog Tryd.f105 T105 [b_p0] w K = B105 b_p0 w K := by kernel_rfl
theorem c105 {b_p0 : Value} {w : World} {K : Value → World → Prop} (h : B105 b_p0 w K) : Calls prog 105 #[b_p0] w (Ret K) :=
  denFn_calls Tryd.func105 T105_ok (Eq.mpr (B105_eq b_p0 w K) h)

-- 59 holdfast/holdfastref07.Bytes
def T59 : Ann := (.seq .none (.seq .none .none))
theorem T59_ok : chkFn prog Tryd.f59 T59 = true := by kernel_rfl
def B59 (h_p0 : Value) (w : World) (K : Value → World → Prop) : Prop :=
  efv prog (Instr.box 36 h_p0) w fun h_0 w =>
  ldv prog (Instr.loadAt 36 h_0) w fun t_1 w =>
  Calls prog 54 #[t_1] w (Ret fun t_2 w =>
  K t_2 w)
theorem B59_eq (h_p0 : Value) (w : World) (K : Value → World → Prop) : denFn prog Tryd.f59 T59 [h_p0] w K = B59 h_p0 w K := by kernel_rfl
theorem c59 {h_p0 : Value} {w : World} {K : Value → World → Prop} (h : B59 h_p0 w K) : Calls prog 59 #[h_p0] w (Ret K) :=
  denFn_calls Tryd.func59 T59_ok (Eq.mpr (B59_eq h_p0 w K) h)

-- 70 holdfast/holdfastref02.digit
def T70 : Ann := (.seq .none (.seq .none .none))
theorem T70_ok : chkFn prog Tryd.f70 T70 = true := by kernel_rfl
def B70 (n_p0 : Value) (w : World) (K : Value → World → Prop) : Prop :=
  pvv prog (Instr.index 9 (.string ⟨#[48, 49, 50, 51, 52, 53, 54, 55, 56, 57, 97, 98, 99, 100, 101, 102]⟩) n_p0) w fun t_0 w =>
  K t_0 w
theorem B70_eq (n_p0 : Value) (w : World) (K : Value → World → Prop) : denFn prog Tryd.f70 T70 [n_p0] w K = B70 n_p0 w K := by kernel_rfl
theorem c70 {n_p0 : Value} {w : World} {K : Value → World → Prop} (h : B70 n_p0 w K) : Calls prog 70 #[n_p0] w (Ret K) :=
  denFn_calls Tryd.func70 T70_ok (Eq.mpr (B70_eq n_p0 w K) h)

-- 32 (*holdfast/audit.Chain).links
def T32 : Ann := (.seq .none (.seq .none .none))
theorem T32_ok : chkFn prog Tryd.f32 T32 = true := by kernel_rfl
def B32 (c_p0 : Value) (w : World) (K : Value → World → Prop) : Prop :=
  efv prog (Instr.box 23 c_p0) w fun c_0 w =>
  pvv prog (Instr.makeFunc (.func 47) #[] #[c_0]) w fun t_1 w =>
  K t_1 w
theorem B32_eq (c_p0 : Value) (w : World) (K : Value → World → Prop) : denFn prog Tryd.f32 T32 [c_p0] w K = B32 c_p0 w K := by kernel_rfl
theorem c32 {c_p0 : Value} {w : World} {K : Value → World → Prop} (h : B32 c_p0 w K) : Calls prog 32 #[c_p0] w (Ret K) :=
  denFn_calls Tryd.func32 T32_ok (Eq.mpr (B32_eq c_p0 w K) h)

-- 92 internal/strconv.lower
def T92 : Ann := (.seq .none (.seq .none .none))
theorem T92_ok : chkFn prog Tryd.f92 T92 = true := by kernel_rfl
def B92 (c_p0 : Value) (w : World) (K : Value → World → Prop) : Prop :=
  pvv prog (binOp .or 5 c_p0 (.int .u8 32)) w fun t_0 w =>
  K t_0 w
theorem B92_eq (c_p0 : Value) (w : World) (K : Value → World → Prop) : denFn prog Tryd.f92 T92 [c_p0] w K = B92 c_p0 w K := by kernel_rfl
theorem c92 {c_p0 : Value} {w : World} {K : Value → World → Prop} (h : B92 c_p0 w K) : Calls prog 92 #[c_p0] w (Ret K) :=
  denFn_calls Tryd.func92 T92_ok (Eq.mpr (B92_eq c_p0 w K) h)


end Go.Proofs.YtjeiojibnmfibaaDoor
