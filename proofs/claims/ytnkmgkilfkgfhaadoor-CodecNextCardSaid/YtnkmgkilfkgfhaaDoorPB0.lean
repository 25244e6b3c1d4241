import Derived.Test.YtnkmgkilfkgfhaaDoorPI
set_option linter.all false
set_option maxRecDepth 100000
namespace Go.Proofs.YtnkmgkilfkgfhaaDoor
open Go Hold
-- 60 internal/strconv.formatBase10
def T60 : Ann := (.seq .none (.seq (.block (.loop 79228162514264337593543430130 [1, 4] (.seq (.seq .none (.seq .none .none)) (.block (.seq .none (.seq .none (.seq .none (.seq .none (.seq .none (.seq (.draw [.op 0 .pure, .op 1 .pure, .op 2 .pure, .op 3 .pure, .op 4 .pure, .op 5 .pure, .op 6 .pure, .op 7 .pure, .op 8 .pure, .op 9 .pure, .op 10 .pure, .op 11 .pure, .op 12 .eff, .op 13 .pure, .op 14 .eff]) (.seq (.draw [.op 0 .pure, .op 1 .pure, .op 2 .pure, .op 3 .pure, .op 4 .pure, .op 5 .pure, .op 6 .pure, .op 7 .pure, .op 8 .pure, .op 9 .pure, .op 10 .pure, .op 11 .pure, .op 12 .eff, .op 13 .pure, .op 14 .eff]) (.seq (.draw [.op 0 .pure, .op 1 .pure, .op 2 .pure, .op 3 .pure, .op 4 .pure, .op 5 .pure, .op 6 .pure, .op 7 .pure, .op 8 .pure, .op 9 .pure, .op 10 .pure, .op 11 .pure, .op 12 .eff, .op 13 .pure, .op 14 .eff]) (.seq (.draw [.op 0 .pure, .op 1 .pure, .op 2 .pure, .op 3 .pure, .op 4 .pure, .op 5 .pure, .op 6 .pure, .op 7 .pure, .op 8 .pure, .op 9 .pure, .op 10 .pure, .op 11 .pure, .op 12 .eff, .op 13 .pure, .op 14 .eff]) .none))))))))))))) (.seq .none (.meet 348449143726724073936438540659756472791056 [4, 12] (.seq .none (.seq (.seq .none (.seq .none (.seq .none (.seq (.draw [.op 0 .pure, .op 1 .pure, .op 2 .pure, .op 3 .pure, .op 4 .pure, .op 5 .pure, .op 6 .pure, .op 7 .pure, .op 8 .pure, .op 9 .pure, .op 10 .pure, .op 11 .pure, .op 12 .eff, .op 13 .pure, .op 14 .eff]) (.seq (.draw [.op 0 .pure, .op 1 .pure, .op 2 .pure, .op 3 .pure, .op 4 .pure, .op 5 .pure, .op 6 .pure, .op 7 .pure, .op 8 .pure, .op 9 .pure, .op 10 .pure, .op 11 .pure, .op 12 .eff, .op 13 .pure, .op 14 .eff]) .none))))) .none)) (.meet 1461501288881759191162698246220685009525284081680 [4, 12] (.seq .none (.seq (.seq .none (.seq .none (.seq (.draw [.op 0 .pure, .op 1 .pure, .op 2 .pure, .op 3 .pure, .op 4 .pure, .op 5 .pure, .op 6 .pure, .op 7 .pure, .op 8 .pure, .op 9 .pure, .op 10 .pure, .op 11 .pure, .op 12 .eff, .op 13 .pure, .op 14 .eff]) .none))) .none)) (.seq .none (.seq .none .none)))))))
theorem T60_ok : chkFn prog Tryd.f60 T60 = true := by kernel_rfl
def B60 (a_p0 u_p1 : Value) (w : World) (K : Value → World → Prop) : Prop :=
  pv prog (oBi .len #[23] 3 #[false] #[a_p0]) w fun t_0 w =>
  lp (fun σ w again_3 => pop σ fun u_1 σ => pop σ fun nd_2 σ => fin σ <|
    pvv prog (binOp .geq 3 nd_2 (.int .i64 8)) w fun t_4 w =>
    cd t_4 (
      pvv prog (binOp .rem 49 u_1 (.int .u64 100000000)) w fun t_5 w =>
      pvv prog (convert 49 96 t_5) w fun t_6 w =>
      pvv prog (binOp .quo 49 u_1 (.int .u64 100000000)) w fun t_7 w =>
      pvv prog (binOp .quo 96 t_6 (.int .u32 10000)) w fun t_8 w =>
      pvv prog (binOp .rem 96 t_6 (.int .u32 10000)) w fun t_9 w =>
      pvv prog (binOp .quo 96 t_9 (.int .u32 100)) w fun t_10 w =>
      pvv prog (binOp .mul 96 t_10 (.int .u32 2)) w fun t_11 w =>
      pvv prog (binOp .rem 96 t_9 (.int .u32 100)) w fun t_12 w =>
      pvv prog (binOp .mul 96 t_12 (.int .u32 2)) w fun t_13 w =>
      pvv prog (binOp .quo 96 t_8 (.int .u32 100)) w fun t_14 w =>
      pvv prog (binOp .mul 96 t_14 (.int .u32 2)) w fun t_15 w =>
      pvv prog (binOp .rem 96 t_8 (.int .u32 100)) w fun t_16 w =>
      pvv prog (binOp .mul 96 t_16 (.int .u32 2)) w fun t_17 w =>
      dr w fun w =>
      pvv prog (binOp .sub 3 nd_2 (.int .i64 1)) w fun t_18 w =>
      pvv prog (binOp .sub 3 nd_2 (.int .i64 2)) w fun t_19 w =>
      pvv prog (binOp .add 96 t_13 (.int .u32 1)) w fun t_20 w =>
      pvv prog (Instr.index 9 (.string ⟨#[48, 48, 48, 49, 48, 50, 48, 51, 48, 52, 48, 53, 48, 54, 48, 55, 48, 56, 48, 57, 49, 48, 49, 49, 49, 50, 49, 51, 49, 52, 49, 53, 49, 54, 49, 55, 49, 56, 49, 57, 50, 48, 50, 49, 50, 50, 50, 51, 50, 52, 50, 53, 50, 54, 50, 55, 50, 56, 50, 57, 51, 48, 51, 49, 51, 50, 51, 51, 51, 52, 51, 53, 51, 54, 51, 55, 51, 56, 51, 57, 52, 48, 52, 49, 52, 50, 52, 51, 52, 52, 52, 53, 52, 54, 52, 55, 52, 56, 52, 57, 53, 48, 53, 49, 53, 50, 53, 51, 53, 52, 53, 53, 53, 54, 53, 55, 53, 56, 53, 57, 54, 48, 54, 49, 54, 50, 54, 51, 54, 52, 54, 53, 54, 54, 54, 55, 54, 56, 54, 57, 55, 48, 55, 49, 55, 50, 55, 51, 55, 52, 55, 53, 55, 54, 55, 55, 55, 56, 55, 57, 56, 48, 56, 49, 56, 50, 56, 51, 56, 52, 56, 53, 56, 54, 56, 55, 56, 56, 56, 57, 57, 48, 57, 49, 57, 50, 57, 51, 57, 52, 57, 53, 57, 54, 57, 55, 57, 56, 57, 57]⟩) t_20) w fun t_21 w =>
      pvv prog (Instr.index 9 (.string ⟨#[48, 48, 48, 49, 48, 50, 48, 51, 48, 52, 48, 53, 48, 54, 48, 55, 48, 56, 48, 57, 49, 48, 49, 49, 49, 50, 49, 51, 49, 52, 49, 53, 49, 54, 49, 55, 49, 56, 49, 57, 50, 48, 50, 49, 50, 50, 50, 51, 50, 52, 50, 53, 50, 54, 50, 55, 50, 56, 50, 57, 51, 48, 51, 49, 51, 50, 51, 51, 51, 52, 51, 53, 51, 54, 51, 55, 51, 56, 51, 57, 52, 48, 52, 49, 52, 50, 52, 51, 52, 52, 52, 53, 52, 54, 52, 55, 52, 56, 52, 57, 53, 48, 53, 49, 53, 50, 53, 51, 53, 52, 53, 53, 53, 54, 53, 55, 53, 56, 53, 57, 54, 48, 54, 49, 54, 50, 54, 51, 54, 52, 54, 53, 54, 54, 54, 55, 54, 56, 54, 57, 55, 48, 55, 49, 55, 50, 55, 51, 55, 52, 55, 53, 55, 54, 55, 55, 55, 56, 55, 57, 56, 48, 56, 49, 56, 50, 56, 51, 56, 52, 56, 53, 56, 54, 56, 55, 56, 56, 56, 57, 57, 48, 57, 49, 57, 50, 57, 51, 57, 52, 57, 53, 57, 54, 57, 55, 57, 56, 57, 57]⟩) t_13) w fun t_22 w =>
      pvv prog (Instr.indexAt 23 a_p0 t_18) w fun t_23 w =>
      efu prog (Instr.storeAt 5 t_23 t_21) w fun u_24 w =>
      pvv prog (Instr.indexAt 23 a_p0 t_19) w fun t_25 w =>
      efu prog (Instr.storeAt 5 t_25 t_22) w fun u_26 w =>
      dr w fun w =>
      pvv prog (binOp .sub 3 nd_2 (.int .i64 3)) w fun t_27 w =>
      pvv prog (binOp .sub 3 nd_2 (.int .i64 4)) w fun t_28 w =>
      pvv prog (binOp .add 96 t_11 (.int .u32 1)) w fun t_29 w =>
      pvv prog (Instr.index 9 (.string ⟨#[48, 48, 48, 49, 48, 50, 48, 51, 48, 52, 48, 53, 48, 54, 48, 55, 48, 56, 48, 57, 49, 48, 49, 49, 49, 50, 49, 51, 49, 52, 49, 53, 49, 54, 49, 55, 49, 56, 49, 57, 50, 48, 50, 49, 50, 50, 50, 51, 50, 52, 50, 53, 50, 54, 50, 55, 50, 56, 50, 57, 51, 48, 51, 49, 51, 50, 51, 51, 51, 52, 51, 53, 51, 54, 51, 55, 51, 56, 51, 57, 52, 48, 52, 49, 52, 50, 52, 51, 52, 52, 52, 53, 52, 54, 52, 55, 52, 56, 52, 57, 53, 48, 53, 49, 53, 50, 53, 51, 53, 52, 53, 53, 53, 54, 53, 55, 53, 56, 53, 57, 54, 48, 54, 49, 54, 50, 54, 51, 54, 52, 54, 53, 54, 54, 54, 55, 54, 56, 54, 57, 55, 48, 55, 49, 55, 50, 55, 51, 55, 52, 55, 53, 55, 54, 55, 55, 55, 56, 55, 57, 56, 48, 56, 49, 56, 50, 56, 51, 56, 52, 56, 53, 56, 54, 56, 55, 56, 56, 56, 57, 57, 48, 57, 49, 57, 50, 57, 51, 57, 52, 57, 53, 57, 54, 57, 55, 57, 56, 57, 57]⟩) t_29) w fun t_30 w =>
      pvv prog (Instr.index 9 (.string ⟨#[48, 48, 48, 49, 48, 50, 48, 51, 48, 52, 48, 53, 48, 54, 48, 55, 48, 56, 48, 57, 49, 48, 49, 49, 49, 50, 49, 51, 49, 52, 49, 53, 49, 54, 49, 55, 49, 56, 49, 57, 50, 48, 50, 49, 50, 50, 50, 51, 50, 52, 50, 53, 50, 54, 50, 55, 50, 56, 50, 57, 51, 48, 51, 49, 51, 50, 51, 51, 51, 52, 51, 53, 51, 54, 51, 55, 51, 56, 51, 57, 52, 48, 52, 49, 52, 50, 52, 51, 52, 52, 52, 53, 52, 54, 52, 55, 52, 56, 52, 57, 53, 48, 53, 49, 53, 50, 53, 51, 53, 52, 53, 53, 53, 54, 53, 55, 53, 56, 53, 57, 54, 48, 54, 49, 54, 50, 54, 51, 54, 52, 54, 53, 54, 54, 54, 55, 54, 56, 54, 57, 55, 48, 55, 49, 55, 50, 55, 51, 55, 52, 55, 53, 55, 54, 55, 55, 55, 56, 55, 57, 56, 48, 56, 49, 56, 50, 56, 51, 56, 52, 56, 53, 56, 54, 56, 55, 56, 56, 56, 57, 57, 48, 57, 49, 57, 50, 57, 51, 57, 52, 57, 53, 57, 54, 57, 55, 57, 56, 57, 57]⟩) t_11) w fun t_31 w =>
      pvv prog (Instr.indexAt 23 a_p0 t_27) w fun t_32 w =>
      efu prog (Instr.storeAt 5 t_32 t_30) w fun u_33 w =>
      pvv prog (Instr.indexAt 23 a_p0 t_28) w fun t_34 w =>
      efu prog (Instr.storeAt 5 t_34 t_31) w fun u_35 w =>
      dr w fun w =>
      pvv prog (binOp .sub 3 nd_2 (.int .i64 5)) w fun t_36 w =>
      pvv prog (binOp .sub 3 nd_2 (.int .i64 6)) w fun t_37 w =>
      pvv prog (binOp .add 96 t_17 (.int .u32 1)) w fun t_38 w =>
      pvv prog (Instr.index 9 (.string ⟨#[48, 48, 48, 49, 48, 50, 48, 51, 48, 52, 48, 53, 48, 54, 48, 55, 48, 56, 48, 57, 49, 48, 49, 49, 49, 50, 49, 51, 49, 52, 49, 53, 49, 54, 49, 55, 49, 56, 49, 57, 50, 48, 50, 49, 50, 50, 50, 51, 50, 52, 50, 53, 50, 54, 50, 55, 50, 56, 50, 57, 51, 48, 51, 49, 51, 50, 51, 51, 51, 52, 51, 53, 51, 54, 51, 55, 51, 56, 51, 57, 52, 48, 52, 49, 52, 50, 52, 51, 52, 52, 52, 53, 52, 54, 52, 55, 52, 56, 52, 57, 53, 48, 53, 49, 53, 50, 53, 51, 53, 52, 53, 53, 53, 54, 53, 55, 53, 56, 53, 57, 54, 48, 54, 49, 54, 50, 54, 51, 54, 52, 54, 53, 54, 54, 54, 55, 54, 56, 54, 57, 55, 48, 55, 49, 55, 50, 55, 51, 55, 52, 55, 53, 55, 54, 55, 55, 55, 56, 55, 57, 56, 48, 56, 49, 56, 50, 56, 51, 56, 52, 56, 53, 56, 54, 56, 55, 56, 56, 56, 57, 57, 48, 57, 49, 57, 50, 57, 51, 57, 52, 57, 53, 57, 54, 57, 55, 57, 56, 57, 57]⟩) t_38) w fun t_39 w =>
      pvv prog (Instr.index 9 (.string ⟨#[48, 48, 48, 49, 48, 50, 48, 51, 48, 52, 48, 53, 48, 54, 48, 55, 48, 56, 48, 57, 49, 48, 49, 49, 49, 50, 49, 51, 49, 52, 49, 53, 49, 54, 49, 55, 49, 56, 49, 57, 50, 48, 50, 49, 50, 50, 50, 51, 50, 52, 50, 53, 50, 54, 50, 55, 50, 56, 50, 57, 51, 48, 51, 49, 51, 50, 51, 51, 51, 52, 51, 53, 51, 54, 51, 55, 51, 56, 51, 57, 52, 48, 52, 49, 52, 50, 52, 51, 52, 52, 52, 53, 52, 54, 52, 55, 52, 56, 52, 57, 53, 48, 53, 49, 53, 50, 53, 51, 53, 52, 53, 53, 53, 54, 53, 55, 53, 56, 53, 57, 54, 48, 54, 49, 54, 50, 54, 51, 54, 52, 54, 53, 54, 54, 54, 55, 54, 56, 54, 57, 55, 48, 55, 49, 55, 50, 55, 51, 55, 52, 55, 53, 55, 54, 55, 55, 55, 56, 55, 57, 56, 48, 56, 49, 56, 50, 56, 51, 56, 52, 56, 53, 56, 54, 56, 55, 56, 56, 56, 57, 57, 48, 57, 49, 57, 50, 57, 51, 57, 52, 57, 53, 57, 54, 57, 55, 57, 56, 57, 57]⟩) t_17) w fun t_40 w =>
      pvv prog (Instr.indexAt 23 a_p0 t_36) w fun t_41 w =>
      efu prog (Instr.storeAt 5 t_41 t_39) w fun u_42 w =>
      pvv prog (Instr.indexAt 23 a_p0 t_37) w fun t_43 w =>
      efu prog (Instr.storeAt 5 t_43 t_40) w fun u_44 w =>
      dr w fun w =>
      pvv prog (binOp .sub 3 nd_2 (.int .i64 7)) w fun t_45 w =>
      pvv prog (binOp .sub 3 nd_2 (.int .i64 8)) w fun t_46 w =>
      pvv prog (binOp .add 96 t_15 (.int .u32 1)) w fun t_47 w =>
      pvv prog (Instr.index 9 (.string ⟨#[48, 48, 48, 49, 48, 50, 48, 51, 48, 52, 48, 53, 48, 54, 48, 55, 48, 56, 48, 57, 49, 48, 49, 49, 49, 50, 49, 51, 49, 52, 49, 53, 49, 54, 49, 55, 49, 56, 49, 57, 50, 48, 50, 49, 50, 50, 50, 51, 50, 52, 50, 53, 50, 54, 50, 55, 50, 56, 50, 57, 51, 48, 51, 49, 51, 50, 51, 51, 51, 52, 51, 53, 51, 54, 51, 55, 51, 56, 51, 57, 52, 48, 52, 49, 52, 50, 52, 51, 52, 52, 52, 53, 52, 54, 52, 55, 52, 56, 52, 57, 53, 48, 53, 49, 53, 50, 53, 51, 53, 52, 53, 53, 53, 54, 53, 55, 53, 56, 53, 57, 54, 48, 54, 49, 54, 50, 54, 51, 54, 52, 54, 53, 54, 54, 54, 55, 54, 56, 54, 57, 55, 48, 55, 49, 55, 50, 55, 51, 55, 52, 55, 53, 55, 54, 55, 55, 55, 56, 55, 57, 56, 48, 56, 49, 56, 50, 56, 51, 56, 52, 56, 53, 56, 54, 56, 55, 56, 56, 56, 57, 57, 48, 57, 49, 57, 50, 57, 51, 57, 52, 57, 53, 57, 54, 57, 55, 57, 56, 57, 57]⟩) t_47) w fun t_48 w =>
      pvv prog (Instr.index 9 (.string ⟨#[48, 48, 48, 49, 48, 50, 48, 51, 48, 52, 48, 53, 48, 54, 48, 55, 48, 56, 48, 57, 49, 48, 49, 49, 49, 50, 49, 51, 49, 52, 49, 53, 49, 54, 49, 55, 49, 56, 49, 57, 50, 48, 50, 49, 50, 50, 50, 51, 50, 52, 50, 53, 50, 54, 50, 55, 50, 56, 50, 57, 51, 48, 51, 49, 51, 50, 51, 51, 51, 52, 51, 53, 51, 54, 51, 55, 51, 56, 51, 57, 52, 48, 52, 49, 52, 50, 52, 51, 52, 52, 52, 53, 52, 54, 52, 55, 52, 56, 52, 57, 53, 48, 53, 49, 53, 50, 53, 51, 53, 52, 53, 53, 53, 54, 53, 55, 53, 56, 53, 57, 54, 48, 54, 49, 54, 50, 54, 51, 54, 52, 54, 53, 54, 54, 54, 55, 54, 56, 54, 57, 55, 48, 55, 49, 55, 50, 55, 51, 55, 52, 55, 53, 55, 54, 55, 55, 55, 56, 55, 57, 56, 48, 56, 49, 56, 50, 56, 51, 56, 52, 56, 53, 56, 54, 56, 55, 56, 56, 56, 57, 57, 48, 57, 49, 57, 50, 57, 51, 57, 52, 57, 53, 57, 54, 57, 55, 57, 56, 57, 57]⟩) t_15) w fun t_49 w =>
      pvv prog (Instr.indexAt 23 a_p0 t_45) w fun t_50 w =>
      efu prog (Instr.storeAt 5 t_50 t_48) w fun u_51 w =>
      pvv prog (Instr.indexAt 23 a_p0 t_46) w fun t_52 w =>
      efu prog (Instr.storeAt 5 t_52 t_49) w fun u_53 w =>
      pvv prog (binOp .sub 3 nd_2 (.int .i64 8)) w fun t_54 w =>
      again_3 [t_7, t_54] w) <|
    pvv prog (convert 49 96 u_1) w fun t_63 w =>
    jn (fun σ w => pop σ fun nd_64 σ => pop σ fun x_65 σ => fin σ <|
      jn (fun σ w => pop σ fun nd_66 σ => pop σ fun x_67 σ => fin σ <|
        pvv prog (binOp .gtr 3 nd_66 (.int .i64 0)) w fun t_68 w =>
        cd t_68 (
          pvv prog (binOp .add 96 (.int .u32 48) x_67) w fun t_69 w =>
          pvv prog (convert 96 5 t_69) w fun t_70 w =>
          pvv prog (Instr.indexAt 23 a_p0 (.int .i64 0)) w fun t_71 w =>
          efu prog (Instr.storeAt 5 t_71 t_70) w fun u_72 w =>
          K (.tuple #[]) w) <|
        K (.tuple #[]) w) fun k_73 =>
      pvv prog (binOp .geq 3 nd_64 (.int .i64 2)) w fun t_74 w =>
      cd t_74 (
        pvv prog (binOp .rem 96 x_65 (.int .u32 100)) w fun t_75 w =>
        pvv prog (binOp .mul 96 t_75 (.int .u32 2)) w fun t_76 w =>
        pvv prog (binOp .quo 96 x_65 (.int .u32 100)) w fun t_77 w =>
        dr w fun w =>
        pvv prog (binOp .sub 3 nd_64 (.int .i64 1)) w fun t_78 w =>
        pvv prog (binOp .sub 3 nd_64 (.int .i64 2)) w fun t_79 w =>
        pvv prog (binOp .add 96 t_76 (.int .u32 1)) w fun t_80 w =>
        pvv prog (Instr.index 9 (.string ⟨#[48, 48, 48, 49, 48, 50, 48, 51, 48, 52, 48, 53, 48, 54, 48, 55, 48, 56, 48, 57, 49, 48, 49, 49, 49, 50, 49, 51, 49, 52, 49, 53, 49, 54, 49, 55, 49, 56, 49, 57, 50, 48, 50, 49, 50, 50, 50, 51, 50, 52, 50, 53, 50, 54, 50, 55, 50, 56, 50, 57, 51, 48, 51, 49, 51, 50, 51, 51, 51, 52, 51, 53, 51, 54, 51, 55, 51, 56, 51, 57, 52, 48, 52, 49, 52, 50, 52, 51, 52, 52, 52, 53, 52, 54, 52, 55, 52, 56, 52, 57, 53, 48, 53, 49, 53, 50, 53, 51, 53, 52, 53, 53, 53, 54, 53, 55, 53, 56, 53, 57, 54, 48, 54, 49, 54, 50, 54, 51, 54, 52, 54, 53, 54, 54, 54, 55, 54, 56, 54, 57, 55, 48, 55, 49, 55, 50, 55, 51, 55, 52, 55, 53, 55, 54, 55, 55, 55, 56, 55, 57, 56, 48, 56, 49, 56, 50, 56, 51, 56, 52, 56, 53, 56, 54, 56, 55, 56, 56, 56, 57, 57, 48, 57, 49, 57, 50, 57, 51, 57, 52, 57, 53, 57, 54, 57, 55, 57, 56, 57, 57]⟩) t_80) w fun t_81 w =>
        pvv prog (Instr.index 9 (.string ⟨#[48, 48, 48, 49, 48, 50, 48, 51, 48, 52, 48, 53, 48, 54, 48, 55, 48, 56, 48, 57, 49, 48, 49, 49, 49, 50, 49, 51, 49, 52, 49, 53, 49, 54, 49, 55, 49, 56, 49, 57, 50, 48, 50, 49, 50, 50, 50, 51, 50, 52, 50, 53, 50, 54, 50, 55, 50, 56, 50, 57, 51, 48, 51, 49, 51, 50, 51, 51, 51, 52, 51, 53, 51, 54, 51, 55, 51, 56, 51, 57, 52, 48, 52, 49, 52, 50, 52, 51, 52, 52, 52, 53, 52, 54, 52, 55, 52, 56, 52, 57, 53, 48, 53, 49, 53, 50, 53, 51, 53, 52, 53, 53, 53, 54, 53, 55, 53, 56, 53, 57, 54, 48, 54, 49, 54, 50, 54, 51, 54, 52, 54, 53, 54, 54, 54, 55, 54, 56, 54, 57, 55, 48, 55, 49, 55, 50, 55, 51, 55, 52, 55, 53, 55, 54, 55, 55, 55, 56, 55, 57, 56, 48, 56, 49, 56, 50, 56, 51, 56, 52, 56, 53, 56, 54, 56, 55, 56, 56, 56, 57, 57, 48, 57, 49, 57, 50, 57, 51, 57, 52, 57, 53, 57, 54, 57, 55, 57, 56, 57, 57]⟩) t_76) w fun t_82 w =>
        pvv prog (Instr.indexAt 23 a_p0 t_78) w fun t_83 w =>
        efu prog (Instr.storeAt 5 t_83 t_81) w fun u_84 w =>
        pvv prog (Instr.indexAt 23 a_p0 t_79) w fun t_85 w =>
        efu prog (Instr.storeAt 5 t_85 t_82) w fun u_86 w =>
        pvv prog (binOp .sub 3 nd_64 (.int .i64 2)) w fun t_87 w =>
        k_73 [t_87, t_77] w) <|
      k_73 [nd_64, x_65] w) fun k_90 =>
    pvv prog (binOp .geq 3 nd_2 (.int .i64 4)) w fun t_91 w =>
    cd t_91 (
      pvv prog (binOp .rem 96 t_63 (.int .u32 10000)) w fun t_92 w =>
      pvv prog (binOp .quo 96 t_63 (.int .u32 10000)) w fun t_93 w =>
      pvv prog (binOp .quo 96 t_92 (.int .u32 100)) w fun t_94 w =>
      pvv prog (binOp .mul 96 t_94 (.int .u32 2)) w fun t_95 w =>
      pvv prog (binOp .rem 96 t_92 (.int .u32 100)) w fun t_96 w =>
      pvv prog (binOp .mul 96 t_96 (.int .u32 2)) w fun t_97 w =>
      dr w fun w =>
      pvv prog (binOp .sub 3 nd_2 (.int .i64 1)) w fun t_98 w =>
      pvv prog (binOp .sub 3 nd_2 (.int .i64 2)) w fun t_99 w =>
      pvv prog (binOp .add 96 t_97 (.int .u32 1)) w fun t_100 w =>
      pvv prog (Instr.index 9 (.string ⟨#[48, 48, 48, 49, 48, 50, 48, 51, 48, 52, 48, 53, 48, 54, 48, 55, 48, 56, 48, 57, 49, 48, 49, 49, 49, 50, 49, 51, 49, 52, 49, 53, 49, 54, 49, 55, 49, 56, 49, 57, 50, 48, 50, 49, 50, 50, 50, 51, 50, 52, 50, 53, 50, 54, 50, 55, 50, 56, 50, 57, 51, 48, 51, 49, 51, 50, 51, 51, 51, 52, 51, 53, 51, 54, 51, 55, 51, 56, 51, 57, 52, 48, 52, 49, 52, 50, 52, 51, 52, 52, 52, 53, 52, 54, 52, 55, 52, 56, 52, 57, 53, 48, 53, 49, 53, 50, 53, 51, 53, 52, 53, 53, 53, 54, 53, 55, 53, 56, 53, 57, 54, 48, 54, 49, 54, 50, 54, 51, 54, 52, 54, 53, 54, 54, 54, 55, 54, 56, 54, 57, 55, 48, 55, 49, 55, 50, 55, 51, 55, 52, 55, 53, 55, 54, 55, 55, 55, 56, 55, 57, 56, 48, 56, 49, 56, 50, 56, 51, 56, 52, 56, 53, 56, 54, 56, 55, 56, 56, 56, 57, 57, 48, 57, 49, 57, 50, 57, 51, 57, 52, 57, 53, 57, 54, 57, 55, 57, 56, 57, 57]⟩) t_100) w fun t_101 w =>
      pvv prog (Instr.index 9 (.string ⟨#[48, 48, 48, 49, 48, 50, 48, 51, 48, 52, 48, 53, 48, 54, 48, 55, 48, 56, 48, 57, 49, 48, 49, 49, 49, 50, 49, 51, 49, 52, 49, 53, 49, 54, 49, 55, 49, 56, 49, 57, 50, 48, 50, 49, 50, 50, 50, 51, 50, 52, 50, 53, 50, 54, 50, 55, 50, 56, 50, 57, 51, 48, 51, 49, 51, 50, 51, 51, 51, 52, 51, 53, 51, 54, 51, 55, 51, 56, 51, 57, 52, 48, 52, 49, 52, 50, 52, 51, 52, 52, 52, 53, 52, 54, 52, 55, 52, 56, 52, 57, 53, 48, 53, 49, 53, 50, 53, 51, 53, 52, 53, 53, 53, 54, 53, 55, 53, 56, 53, 57, 54, 48, 54, 49, 54, 50, 54, 51, 54, 52, 54, 53, 54, 54, 54, 55, 54, 56, 54, 57, 55, 48, 55, 49, 55, 50, 55, 51, 55, 52, 55, 53, 55, 54, 55, 55, 55, 56, 55, 57, 56, 48, 56, 49, 56, 50, 56, 51, 56, 52, 56, 53, 56, 54, 56, 55, 56, 56, 56, 57, 57, 48, 57, 49, 57, 50, 57, 51, 57, 52, 57, 53, 57, 54, 57, 55, 57, 56, 57, 57]⟩) t_97) w fun t_102 w =>
      pvv prog (Instr.indexAt 23 a_p0 t_98) w fun t_103 w =>
      efu prog (Instr.storeAt 5 t_103 t_101) w fun u_104 w =>
      pvv prog (Instr.indexAt 23 a_p0 t_99) w fun t_105 w =>
      efu prog (Instr.storeAt 5 t_105 t_102) w fun u_106 w =>
      dr w fun w =>
      pvv prog (binOp .sub 3 nd_2 (.int .i64 3)) w fun t_107 w =>
      pvv prog (binOp .sub 3 nd_2 (.int .i64 4)) w fun t_108 w =>
      pvv prog (binOp .add 96 t_95 (.int .u32 1)) w fun t_109 w =>
      pvv prog (Instr.index 9 (.string ⟨#[48, 48, 48, 49, 48, 50, 48, 51, 48, 52, 48, 53, 48, 54, 48, 55, 48, 56, 48, 57, 49, 48, 49, 49, 49, 50, 49, 51, 49, 52, 49, 53, 49, 54, 49, 55, 49, 56, 49, 57, 50, 48, 50, 49, 50, 50, 50, 51, 50, 52, 50, 53, 50, 54, 50, 55, 50, 56, 50, 57, 51, 48, 51, 49, 51, 50, 51, 51, 51, 52, 51, 53, 51, 54, 51, 55, 51, 56, 51, 57, 52, 48, 52, 49, 52, 50, 52, 51, 52, 52, 52, 53, 52, 54, 52, 55, 52, 56, 52, 57, 53, 48, 53, 49, 53, 50, 53, 51, 53, 52, 53, 53, 53, 54, 53, 55, 53, 56, 53, 57, 54, 48, 54, 49, 54, 50, 54, 51, 54, 52, 54, 53, 54, 54, 54, 55, 54, 56, 54, 57, 55, 48, 55, 49, 55, 50, 55, 51, 55, 52, 55, 53, 55, 54, 55, 55, 55, 56, 55, 57, 56, 48, 56, 49, 56, 50, 56, 51, 56, 52, 56, 53, 56, 54, 56, 55, 56, 56, 56, 57, 57, 48, 57, 49, 57, 50, 57, 51, 57, 52, 57, 53, 57, 54, 57, 55, 57, 56, 57, 57]⟩) t_109) w fun t_110 w =>
      pvv prog (Instr.index 9 (.string ⟨#[48, 48, 48, 49, 48, 50, 48, 51, 48, 52, 48, 53, 48, 54, 48, 55, 48, 56, 48, 57, 49, 48, 49, 49, 49, 50, 49, 51, 49, 52, 49, 53, 49, 54, 49, 55, 49, 56, 49, 57, 50, 48, 50, 49, 50, 50, 50, 51, 50, 52, 50, 53, 50, 54, 50, 55, 50, 56, 50, 57, 51, 48, 51, 49, 51, 50, 51, 51, 51, 52, 51, 53, 51, 54, 51, 55, 51, 56, 51, 57, 52, 48, 52, 49, 52, 50, 52, 51, 52, 52, 52, 53, 52, 54, 52, 55, 52, 56, 52, 57, 53, 48, 53, 49, 53, 50, 53, 51, 53, 52, 53, 53, 53, 54, 53, 55, 53, 56, 53, 57, 54, 48, 54, 49, 54, 50, 54, 51, 54, 52, 54, 53, 54, 54, 54, 55, 54, 56, 54, 57, 55, 48, 55, 49, 55, 50, 55, 51, 55, 52, 55, 53, 55, 54, 55, 55, 55, 56, 55, 57, 56, 48, 56, 49, 56, 50, 56, 51, 56, 52, 56, 53, 56, 54, 56, 55, 56, 56, 56, 57, 57, 48, 57, 49, 57, 50, 57, 51, 57, 52, 57, 53, 57, 54, 57, 55, 57, 56, 57, 57]⟩) t_95) w fun t_111 w =>
      pvv prog (Instr.indexAt 23 a_p0 t_107) w fun t_112 w =>
      efu prog (Instr.storeAt 5 t_112 t_110) w fun u_113 w =>
      pvv prog (Instr.indexAt 23 a_p0 t_108) w fun t_114 w =>
      efu prog (Instr.storeAt 5 t_114 t_111) w fun u_115 w =>
      pvv prog (binOp .sub 3 nd_2 (.int .i64 4)) w fun t_116 w =>
      k_90 [t_116, t_93] w) <|
    k_90 [nd_2, t_63] w) [u_p1, t_0] w
theorem B60_eq (a_p0 u_p1 : Value) (w : World) (K : Value → World → Prop) : denFn prog Tryd.f60 T60 [a_p0, u_p1] w K = B60 a_p0 u_p1 w K := by kernel_rfl
theorem c60 {a_p0 u_p1 : Value} {w : World} {K : Value → World → Prop} (h : B60 a_p0 u_p1 w K) : Calls prog 60 #[a_p0, u_p1] w (Ret K) :=
  denFn_calls Tryd.func60 T60_ok (Eq.mpr (B60_eq a_p0 u_p1 w K) h)

-- 35 strings.Trim
def T35 : Ann := (.seq .none (.seq (.seq .none (.seq (.seq .none .none) .none)) (.seq (.seq .none (.seq (.seq (.draw [.op 0 .pure, .op 1 .pure, .op 2 .pure, .op 4 .pure, .op 5 .pure, .op 3 .eff, .op 6 .eff, .op 7 .pure]) .none) .none)) (.seq (.seq .none (.seq .none (.seq (.seq .none .none) .none))) (.seq .none .none)))))
theorem T35_ok : chkFn prog Tryd.f35 T35 = true := by kernel_rfl
def B35 (s_p0 cutset_p1 : Value) (w : World) (K : Value → World → Prop) : Prop :=
  pvv prog (oEq .eql 9 (.tmp 7) (.const (.string ⟨#[]⟩)) s_p0 (.string ⟨#[]⟩)) w fun t_0 w =>
  gate (some (t_0, false)) (fun K => K cutset_p1 w) w fun t_1 w =>
  gate (some (t_0, false)) (fun K => pvv prog (oEq .eql 9 (.tmp 10) (.const (.string ⟨#[]⟩)) t_1 (.string ⟨#[]⟩)) w K) w fun t_2 w =>
  pv prog (oPick t_0 (.bool true) t_2) w fun t_3 w =>
  cd t_3 (
    K s_p0 w) <|
  pv prog (oBi .len #[9] 3 #[false] #[cutset_p1]) w fun t_4 w =>
  pvv prog (oEq .eql 3 (.tmp 15) (.const (.int .i64 1)) t_4 (.int .i64 1)) w fun t_5 w =>
  gate (some (t_5, true)) (fun K => K cutset_p1 w) w fun t_6 w =>
  gate (some (t_5, true)) (fun K => pvv prog (Instr.index 9 t_6 (.int .i64 0)) w K) w fun t_7 w =>
  gate (some (t_5, true)) (fun K => pvv prog (binOp .lss 5 t_7 (.int .u8 128)) w K) w fun t_8 w =>
  pv prog (oPick t_5 t_8 (.bool false)) w fun t_9 w =>
  cd t_9 (
    dr w fun w =>
    pvv prog (Instr.index 9 cutset_p1 (.int .i64 0)) w fun t_10 w =>
    pvv prog (Instr.index 9 cutset_p1 (.int .i64 0)) w fun t_11 w =>
    Calls prog 44 #[s_p0, t_10] w (Ret fun t_12 w =>
    Calls prog 43 #[t_12, t_11] w (Ret fun t_13 w =>
    K t_13 w))) <|
  Calls prog 45 #[cutset_p1] w (Ret fun t_16 w =>
  pvv prog (Instr.extract t_16 0) w fun t_17 w =>
  pvv prog (Instr.extract t_16 1) w fun t_18 w =>
  efv prog (Instr.alloc 59 true (.tuple #[])) w fun as_19 w =>
  efu prog (Instr.storeAt 59 as_19 t_17) w fun u_20 w =>
  cd t_18 (
    Calls prog 47 #[s_p0, as_19] w (Ret fun t_21 w =>
    Calls prog 46 #[t_21, as_19] w (Ret fun t_22 w =>
    K t_22 w))) <|
  Calls prog 49 #[s_p0, cutset_p1] w (Ret fun t_23 w =>
  Calls prog 48 #[t_23, cutset_p1] w (Ret fun t_24 w =>
  K t_24 w)))
theorem B35_eq (s_p0 cutset_p1 : Value) (w : World) (K : Value → World → Prop) : denFn prog Tryd.f35 T35 [s_p0, cutset_p1] w K = B35 s_p0 cutset_p1 w K := by kernel_rfl
theorem c35 {s_p0 cutset_p1 : Value} {w : World} {K : Value → World → Prop} (h : B35 s_p0 cutset_p1 w K) : Calls prog 35 #[s_p0, cutset_p1] w (Ret K) :=
  denFn_calls Tryd.func35 T35_ok (Eq.mpr (B35_eq s_p0 cutset_p1 w K) h)

-- 49 strings.trimRightUnicode
def T49 : Ann := (.seq .none (.meet 8589934561 [0] (.block (.loop 8589934561 [0] (.seq (.seq .none (.seq .none .none)) (.block (.seq .none (.meet 8323168 [5, 6] (.seq .none (.seq .none .none)) (.seq (.seq .none (.seq .none .none)) .none))))))) (.seq .none .none)))
theorem T49_ok : chkFn prog Tryd.f49 T49 = true := by kernel_rfl
def B49 (s_p0 cutset_p1 : Value) (w : World) (K : Value → World → Prop) : Prop :=
  jn (fun σ w => pop σ fun s_0 σ => fin σ <|
    K s_0 w) fun k_1 =>
  lp (fun σ w again_3 => pop σ fun s_2 σ => fin σ <|
    pv prog (oBi .len #[9] 3 #[false] #[s_2]) w fun t_4 w =>
    pvv prog (binOp .gtr 3 t_4 (.int .i64 0)) w fun t_5 w =>
    cd t_5 (
      pv prog (oBi .len #[9] 3 #[false] #[s_2]) w fun t_6 w =>
      pvv prog (binOp .sub 3 t_6 (.int .i64 1)) w fun t_7 w =>
      pvv prog (Instr.index 9 s_2 t_7) w fun t_8 w =>
      pvv prog (convert 5 21 t_8) w fun t_9 w =>
      jn (fun σ w => pop σ fun r_10 σ => pop σ fun n_11 σ => fin σ <|
        Calls prog 64 #[cutset_p1, r_10] w (Ret fun t_12 w =>
        pvv prog (Op.unary .not t_12) w fun t_13 w =>
        cd t_13 (
          k_1 [s_2] w) <|
        pv prog (oBi .len #[9] 3 #[false] #[s_2]) w fun t_14 w =>
        pvv prog (binOp .sub 3 t_14 n_11) w fun t_15 w =>
        pvv prog (Instr.sliceAt 9 s_2 none (some t_15) none) w fun t_16 w =>
        again_3 [t_16] w)) fun k_17 =>
      pvv prog (binOp .geq 21 t_9 (.int .i32 128)) w fun t_18 w =>
      cd t_18 (
        Calls prog 65 #[s_2] w (Ret fun t_19 w =>
        pvv prog (Instr.extract t_19 0) w fun t_20 w =>
        pvv prog (Instr.extract t_19 1) w fun t_21 w =>
        k_17 [t_20, t_21] w)) <|
      k_17 [t_9, (.int .i64 1)] w) <|
    k_1 [s_2] w) [s_p0] w
theorem B49_eq (s_p0 cutset_p1 : Value) (w : World) (K : Value → World → Prop) : denFn prog Tryd.f49 T49 [s_p0, cutset_p1] w K = B49 s_p0 cutset_p1 w K := by kernel_rfl
theorem c49 {s_p0 cutset_p1 : Value} {w : World} {K : Value → World → Prop} (h : B49 s_p0 cutset_p1 w K) : Calls prog 49 #[s_p0, cutset_p1] w (Ret K) :=
  denFn_calls Tryd.func49 T49_ok (Eq.mpr (B49_eq s_p0 cutset_p1 w K) h)

-- 53 (*strings.Builder).Grow
def T53 : Ann := (.seq .none (.meet 448 [] (.seq .none (.seq .none .none)) (.seq (.draw [.op 0 .pure, .op 1 .pure, .op 2 .pure, .op 5 .pure, .op 6 .pure, .op 7 .pure, .op 11 .pure, .op 3 .load, .op 4 .pure, .op 8 .load, .op 9 .pure, .op 10 .pure, .op 12 .pure]) (.seq .none .none))))
theorem T53_ok : chkFn prog Tryd.f53 T53 = true := by kernel_rfl
def B53 (b_p0 n_p1 : Value) (w : World) (K : Value → World → Prop) : Prop :=
  Calls prog 74 #[b_p0] w (Ret fun t_0 w =>
  jn (fun σ w => fin σ <|
    dr w fun w =>
    pv prog (oNil b_p0) w fun t_1 w =>
    pvv prog (Instr.fieldAt 68 t_1 1) w fun t_2 w =>
    pv prog (oNil b_p0) w fun t_3 w =>
    pvv prog (Instr.fieldAt 68 t_3 1) w fun t_4 w =>
    bindS (vN (Instr.loadAt 23 t_2)) fun m_6 => ldv prog (Instr.loadAt 23 t_2) w fun t_5 w =>
    pv prog (oBi .cap #[23] 3 #[false] #[t_5]) w fun t_7 w =>
    bindS (vN (Instr.loadAt 23 t_4)) fun m_9 => ldv prog (Instr.loadAt 23 t_4) w fun t_8 w =>
    pv prog (oBi .len #[23] 3 #[false] #[t_8]) w fun t_10 w =>
    pvv prog (binOp .sub 3 t_7 t_10) w fun t_11 w =>
    pvv prog (binOp .lss 3 t_11 n_p1) w fun t_12 w =>
    cd t_12 (
      Calls prog 75 #[b_p0, n_p1] w (Ret fun t_13 w =>
      K (.tuple #[]) w)) <|
    K (.tuple #[]) w) fun k_14 =>
  pvv prog (binOp .lss 3 n_p1 (.int .i64 0)) w fun t_15 w =>
  cd t_15 (
    pvv prog (Instr.makeInterface 9 (.string ⟨#[115, 116, 114, 105, 110, 103, 115, 46, 66, 117, 105, 108, 100, 101, 114, 46, 71, 114, 111, 119, 58, 32, 110, 101, 103, 97, 116, 105, 118, 101, 32, 99, 111, 117, 110, 116]⟩)) w fun t_16 w =>
    efv prog (Instr.panic t_16) w fun u_17 w =>
    k_14 [] w) <|
  k_14 [] w)
theorem B53_eq (b_p0 n_p1 : Value) (w : World) (K : Value → World → Prop) : denFn prog Tryd.f53 T53 [b_p0, n_p1] w K = B53 b_p0 n_p1 w K := by kernel_rfl
theorem c53 {b_p0 n_p1 : Value} {w : World} {K : Value → World → Prop} (h : B53 b_p0 n_p1 w K) : Calls prog 53 #[b_p0, n_p1] w (Ret K) :=
  denFn_calls Tryd.func53 T53_ok (Eq.mpr (B53_eq b_p0 n_p1 w K) h)

-- 12 holdfast/holdfastlaw02.live
def T12 : Ann := (.seq .none (.seq .none (.seq .none (.seq .none .none))))
theorem T12_ok : chkFn prog Tryd.f12 T12 = true := by kernel_rfl
def B12 (w : World) (K : Value → World → Prop) : Prop :=
  efv prog (Instr.buildSlice 22 2 #[(0, (.string ⟨#[97]⟩)), (1, (.string ⟨#[98]⟩))]) w fun t_0 w =>
  Calls prog 11 #[t_0] w (Ret fun t_1 w =>
  pvv prog (Instr.extract t_1 0) w fun t_2 w =>
  pvv prog (Instr.extract t_1 1) w fun t_3 w =>
  Calls prog 15 #[(.int .i64 255)] w (Ret fun t_4 w =>
  pvv prog (Instr.extract t_4 0) w fun t_5 w =>
  pvv prog (Instr.extract t_4 1) w fun t_6 w =>
  pvv prog (oEq .eql 24 (.tmp 14) (.const (.int .i64 0)) t_3 (.int .i64 0)) w fun t_7 w =>
  gate (some (t_7, true)) (fun K => K t_2 w) w fun t_8 w =>
  gate (some (t_7, true)) (fun K => efv prog (convert 23 9 t_8) w K) w fun t_9 w =>
  gate (some (t_7, true)) (fun K => pvv prog (oEq .eql 9 (.tmp 18) (.const (.string ⟨#[97, 0, 1, 98, 0, 1]⟩)) t_9 (.string ⟨#[97, 0, 1, 98, 0, 1]⟩)) w K) w fun t_10 w =>
  pv prog (oPick t_7 t_10 (.bool false)) w fun t_11 w =>
  gate (some (t_11, true)) (fun K => K t_6 w) w fun t_12 w =>
  gate (some (t_11, true)) (fun K => pvv prog (oEq .eql 24 (.tmp 22) (.const (.int .i64 0)) t_12 (.int .i64 0)) w K) w fun t_13 w =>
  pv prog (oPick t_11 t_13 (.bool false)) w fun t_14 w =>
  gate (some (t_14, true)) (fun K => K t_5 w) w fun t_15 w =>
  gate (some (t_14, true)) (fun K => pvv prog (oEq .eql 9 (.tmp 26) (.const (.string ⟨#[99, 102, 102]⟩)) t_15 (.string ⟨#[99, 102, 102]⟩)) w K) w fun t_16 w =>
  pv prog (oPick t_14 t_16 (.bool false)) w fun t_17 w =>
  K t_17 w))
theorem B12_eq (w : World) (K : Value → World → Prop) : denFn prog Tryd.f12 T12 [] w K = B12  w K := by kernel_rfl
theorem c12 {w : World} {K : Value → World → Prop} (h : B12  w K) : Calls prog 12 #[] w (Ret K) :=
  denFn_calls Tryd.func12 T12_ok (Eq.mpr (B12_eq  w K) h)

-- 45 strings.makeASCIISet
def T45 : Ann := (.seq .none (.seq (.seq .none (.block (.loop 1048568 [4] (.seq (.seq .none (.seq .none .none)) (.seq (.block (.seq .none (.seq (.seq .none (.seq (.seq .none .none) .none)) .none))) .none))))) (.seq .none .none)))
theorem T45_ok : chkFn prog Tryd.f45 T45 = true := by kernel_rfl
def B45 (chars_p0 : Value) (w : World) (K : Value → World → Prop) : Prop :=
  efv prog (Instr.alloc 59 true (.tuple #[])) w fun as_0 w =>
  lp (fun σ w again_2 => pop σ fun i_1 σ => fin σ <|
    pv prog (oBi .len #[9] 3 #[false] #[chars_p0]) w fun t_3 w =>
    pvv prog (binOp .lss 3 i_1 t_3) w fun t_4 w =>
    cd t_4 (
      pvv prog (Instr.index 9 chars_p0 i_1) w fun t_5 w =>
      pvv prog (binOp .geq 5 t_5 (.int .u8 128)) w fun t_6 w =>
      cd t_6 (
        ldv prog (Instr.loadAt 59 as_0) w fun t_7 w =>
        efu prog (Instr.storeAt 59 as_0 t_7) w fun u_8 w =>
        ∃ r_9, (do loadVar 59 (← asAddr as_0)).run prog w = .ok r_9 w ∧ K (.tuple #[r_9, (.bool false)]) w) <|
      pvv prog (Instr.indexAt 59 as_0 t_5) w fun t_10 w =>
      efu prog (Instr.storeAt 4 t_10 (.bool true)) w fun u_11 w =>
      pvv prog (binOp .add 3 i_1 (.int .i64 1)) w fun t_12 w =>
      again_2 [t_12] w) <|
    ldv prog (Instr.loadAt 59 as_0) w fun t_13 w =>
    efu prog (Instr.storeAt 59 as_0 t_13) w fun u_14 w =>
    ∃ r_15, (do loadVar 59 (← asAddr as_0)).run prog w = .ok r_15 w ∧ K (.tuple #[r_15, (.bool true)]) w) [(.int .i64 0)] w
theorem B45_eq (chars_p0 : Value) (w : World) (K : Value → World → Prop) : denFn prog Tryd.f45 T45 [chars_p0] w K = B45 chars_p0 w K := by kernel_rfl
theorem c45 {chars_p0 : Value} {w : World} {K : Value → World → Prop} (h : B45 chars_p0 w K) : Calls prog 45 #[chars_p0] w (Ret K) :=
  denFn_calls Tryd.func45 T45_ok (Eq.mpr (B45_eq chars_p0 w K) h)

-- 74 (*strings.Builder).copyCheck
def T74 : Ann := (.seq .none (.seq .none (.seq .none (.seq .none .none))))
theorem T74_ok : chkFn prog Tryd.f74 T74 = true := by kernel_rfl
def B74 (b_p0 : Value) (w : World) (K : Value → World → Prop) : Prop :=
  pv prog (oNil b_p0) w fun t_0 w =>
  pvv prog (Instr.fieldAt 68 t_0 0) w fun t_1 w =>
  ldv prog (Instr.loadAt 66 t_1) w fun t_2 w =>
  pvv prog (oEq .eql 66 (.tmp 5) (.const (.pointer none)) t_2 (.pointer none)) w fun t_3 w =>
  cd t_3 (
    efv prog (convert 66 104 b_p0) w fun t_4 w =>
    ef prog (oCall (.func (.func 88) #[] #[]) #[t_4]) w fun t_5 w =>
    efv prog (convert 104 66 t_5) w fun t_6 w =>
    pv prog (oNil b_p0) w fun t_7 w =>
    pvv prog (Instr.fieldAt 68 t_7 0) w fun t_8 w =>
    efu prog (Instr.storeAt 66 t_8 t_6) w fun u_9 w =>
    K (.tuple #[]) w) <|
  pv prog (oNil b_p0) w fun t_10 w =>
  pvv prog (Instr.fieldAt 68 t_10 0) w fun t_11 w =>
  ldv prog (Instr.loadAt 66 t_11) w fun t_12 w =>
  pvv prog (oEq .neq 66 (.tmp 17) (.tmp 18) t_12 b_p0) w fun t_13 w =>
  cd t_13 (
    False) <|
  K (.tuple #[]) w
theorem B74_eq (b_p0 : Value) (w : World) (K : Value → World → Prop) : denFn prog Tryd.f74 T74 [b_p0] w K = B74 b_p0 w K := by kernel_rfl
theorem c74 {b_p0 : Value} {w : World} {K : Value → World → Prop} (h : B74 b_p0 w K) : Calls prog 74 #[b_p0] w (Ret K) :=
  denFn_calls Tryd.func74 T74_ok (Eq.mpr (B74_eq b_p0 w K) h)

-- 43 strings.trimLeftByte
def T43 : Ann := (.seq .none (.seq (.block (.loop 65505 [0] (.seq (.seq .none (.seq .none .none)) (.block .none)))) (.seq .none .none)))
theorem T43_ok : chkFn prog Tryd.f43 T43 = true := by kernel_rfl
def B43 (s_p0 c_p1 : Value) (w : World) (K : Value → World → Prop) : Prop :=
  lp (fun σ w again_1 => pop σ fun s_0 σ => fin σ <|
    pv prog (oBi .len #[9] 3 #[false] #[s_0]) w fun t_2 w =>
    pvv prog (binOp .gtr 3 t_2 (.int .i64 0)) w fun t_3 w =>
    gate (some (t_3, true)) (fun K => K s_0 w) w fun t_4 w =>
    gate (some (t_3, true)) (fun K => pvv prog (Instr.index 9 t_4 (.int .i64 0)) w K) w fun t_5 w =>
    gate (some (t_3, true)) (fun K => K c_p1 w) w fun t_6 w =>
    gate (some (t_3, true)) (fun K => pvv prog (oEq .eql 5 (.tmp 10) (.tmp 11) t_5 t_6) w K) w fun t_7 w =>
    pv prog (oPick t_3 t_7 (.bool false)) w fun t_8 w =>
    cd t_8 (
      pvv prog (Instr.sliceAt 9 s_0 (some (.int .i64 1)) none none) w fun t_9 w =>
      again_1 [t_9] w) <|
    K s_0 w) [s_p0] w
theorem B43_eq (s_p0 c_p1 : Value) (w : World) (K : Value → World → Prop) : denFn prog Tryd.f43 T43 [s_p0, c_p1] w K = B43 s_p0 c_p1 w K := by kernel_rfl
theorem c43 {s_p0 c_p1 : Value} {w : World} {K : Value → World → Prop} (h : B43 s_p0 c_p1 w K) : Calls prog 43 #[s_p0, c_p1] w (Ret K) :=
  denFn_calls Tryd.func43 T43_ok (Eq.mpr (B43_eq s_p0 c_p1 w K) h)

-- 97 unicode/utf8.ValidRune
def T97 : Ann := (.seq .none (.seq (.block (.seq .none (.seq (.seq .none .none) (.seq .none (.seq (.seq .none .none) .none))))) (.seq .none .none)))
theorem T97_ok : chkFn prog Tryd.f97 T97 = true := by kernel_rfl
def B97 (r_p0 : Value) (w : World) (K : Value → World → Prop) : Prop :=
  pvv prog (binOp .leq 21 (.int .i32 0) r_p0) w fun t_0 w =>
  gate (some (t_0, true)) (fun K => K r_p0 w) w fun t_1 w =>
  gate (some (t_0, true)) (fun K => pvv prog (binOp .lss 21 t_1 (.int .i32 55296)) w K) w fun t_2 w =>
  pv prog (oPick t_0 t_2 (.bool false)) w fun t_3 w =>
  cd t_3 (
    K (.bool true) w) <|
  pvv prog (binOp .lss 21 (.int .i32 57343) r_p0) w fun t_4 w =>
  gate (some (t_4, true)) (fun K => K r_p0 w) w fun t_5 w =>
  gate (some (t_4, true)) (fun K => pvv prog (binOp .leq 21 t_5 (.int .i32 1114111)) w K) w fun t_6 w =>
  pv prog (oPick t_4 t_6 (.bool false)) w fun t_7 w =>
  cd t_7 (
    K (.bool true) w) <|
  K (.bool false) w
theorem B97_eq (r_p0 : Value) (w : World) (K : Value → World → Prop) : denFn prog Tryd.f97 T97 [r_p0] w K = B97 r_p0 w K := by kernel_rfl
theorem c97 {r_p0 : Value} {w : World} {K : Value → World → Prop} (h : B97 r_p0 w K) : Calls prog 97 #[r_p0] w (Ret K) :=
  denFn_calls Tryd.func97 T97_ok (Eq.mpr (B97_eq r_p0 w K) h)

-- 55 (*strings.Builder).WriteString
def T55 : Ann := (.seq .none (.seq .none (.seq .none (.seq .none .none))))
theorem T55_ok : chkFn prog Tryd.f55 T55 = true := by kernel_rfl
def B55 (b_p0 s_p1 : Value) (w : World) (K : Value → World → Prop) : Prop :=
  Calls prog 74 #[b_p0] w (Ret fun t_0 w =>
  pv prog (oNil b_p0) w fun t_1 w =>
  pvv prog (Instr.fieldAt 68 t_1 1) w fun t_2 w =>
  ldv prog (Instr.loadAt 23 t_2) w fun t_3 w =>
  ef prog (oBi .append #[23, 9] 23 #[false, false] #[t_3, s_p1]) w fun t_4 w =>
  pv prog (oNil b_p0) w fun t_5 w =>
  pvv prog (Instr.fieldAt 68 t_5 1) w fun t_6 w =>
  efu prog (Instr.storeAt 23 t_6 t_4) w fun u_7 w =>
  pv prog (oBi .len #[9] 3 #[false] #[s_p1]) w fun t_8 w =>
  K (.tuple #[t_8, .nilIface]) w)
theorem B55_eq (b_p0 s_p1 : Value) (w : World) (K : Value → World → Prop) : denFn prog Tryd.f55 T55 [b_p0, s_p1] w K = B55 b_p0 s_p1 w K := by kernel_rfl
theorem c55 {b_p0 s_p1 : Value} {w : World} {K : Value → World → Prop} (h : B55 b_p0 s_p1 w K) : Calls prog 55 #[b_p0, s_p1] w (Ret K) :=
  denFn_calls Tryd.func55 T55_ok (Eq.mpr (B55_eq b_p0 s_p1 w K) h)

-- 70 strconv.baseError
def T70 : Ann := (.seq .none (.seq .none .none))
theorem T70_ok : chkFn prog Tryd.f70 T70 = true := by kernel_rfl
def B70 (fn_p0 str_p1 base_p2 : Value) (w : World) (K : Value → World → Prop) : Prop :=
  Calls prog 85 #[str_p1] w (Ret fun t_0 w =>
  Calls prog 87 #[base_p2] w (Ret fun t_1 w =>
  pvv prog (binOp .add 9 (.string ⟨#[105, 110, 118, 97, 108, 105, 100, 32, 98, 97, 115, 101, 32]⟩) t_1) w fun t_2 w =>
  Calls prog 86 #[t_2] w (Ret fun t_3 w =>
  pvv prog (Instr.build 102 #[(0, fn_p0), (1, t_0), (2, t_3)]) w fun t_4 w =>
  efv prog (Instr.box 102 t_4) w fun t_5 w =>
  K t_5 w)))
theorem B70_eq (fn_p0 str_p1 base_p2 : Value) (w : World) (K : Value → World → Prop) : denFn prog Tryd.f70 T70 [fn_p0, str_p1, base_p2] w K = B70 fn_p0 str_p1 base_p2 w K := by kernel_rfl
theorem c70 {fn_p0 str_p1 base_p2 : Value} {w : World} {K : Value → World → Prop} (h : B70 fn_p0 str_p1 base_p2 w K) : Calls prog 70 #[fn_p0, str_p1, base_p2] w (Ret K) :=
  denFn_calls Tryd.func70 T70_ok (Eq.mpr (B70_eq fn_p0 str_p1 base_p2 w K) h)

-- 38 internal/stringslite.TrimPrefix
def T38 : Ann := (.seq .none (.seq (.seq .none (.seq (.seq .none .none) .none)) (.seq .none .none)))
theorem T38_ok : chkFn prog Tryd.f38 T38 = true := by kernel_rfl
def B38 (s_p0 prefix_p1 : Value) (w : World) (K : Value → World → Prop) : Prop :=
  Calls prog 42 #[s_p0, prefix_p1] w (Ret fun t_0 w =>
  cd t_0 (
    pv prog (oBi .len #[9] 3 #[false] #[prefix_p1]) w fun t_1 w =>
    pvv prog (Instr.sliceAt 9 s_p0 (some t_1) none none) w fun t_2 w =>
    K t_2 w) <|
  K s_p0 w)
theorem B38_eq (s_p0 prefix_p1 : Value) (w : World) (K : Value → World → Prop) : denFn prog Tryd.f38 T38 [s_p0, prefix_p1] w K = B38 s_p0 prefix_p1 w K := by kernel_rfl
theorem c38 {s_p0 prefix_p1 : Value} {w : World} {K : Value → World → Prop} (h : B38 s_p0 prefix_p1 w K) : Calls prog 38 #[s_p0, prefix_p1] w (Ret K) :=
  denFn_calls Tryd.func38 T38_ok (Eq.mpr (B38_eq s_p0 prefix_p1 w K) h)

-- 29 strings.ReplaceAll
def T29 : Ann := (.seq .none (.seq .none .none))
theorem T29_ok : chkFn prog Tryd.f29 T29 = true := by kernel_rfl
def B29 (s_p0 old_p1 new_p2 : Value) (w : World) (K : Value → World → Prop) : Prop :=
  Calls prog 37 #[s_p0, old_p1, new_p2, (.int .i64 (-1))] w (Ret fun t_0 w =>
  K t_0 w)
theorem B29_eq (s_p0 old_p1 new_p2 : Value) (w : World) (K : Value → World → Prop) : denFn prog Tryd.f29 T29 [s_p0, old_p1, new_p2] w K = B29 s_p0 old_p1 new_p2 w K := by kernel_rfl
theorem c29 {s_p0 old_p1 new_p2 : Value} {w : World} {K : Value → World → Prop} (h : B29 s_p0 old_p1 new_p2 w K) : Calls prog 29 #[s_p0, old_p1, new_p2] w (Ret K) :=
  denFn_calls Tryd.func29 T29_ok (Eq.mpr (B29_eq s_p0 old_p1 new_p2 w K) h)

-- 30 strings.TrimPrefix
def T30 : Ann := (.seq .none (.seq .none .none))
theorem T30_ok : chkFn prog Tryd.f30 T30 = true := by kernel_rfl
def B30 (s_p0 prefix_p1 : Value) (w : World) (K : Value → World → Prop) : Prop :=
  Calls prog 38 #[s_p0, prefix_p1] w (Ret fun t_0 w =>
  K t_0 w)
theorem B30_eq (s_p0 prefix_p1 : Value) (w : World) (K : Value → World → Prop) : denFn prog Tryd.f30 T30 [s_p0, prefix_p1] w K = B30 s_p0 prefix_p1 w K := by kernel_rfl
theorem c30 {s_p0 prefix_p1 : Value} {w : World} {K : Value → World → Prop} (h : B30 s_p0 prefix_p1 w K) : Calls prog 30 #[s_p0, prefix_p1] w (Ret K) :=
  denFn_calls Tryd.func30 T30_ok (Eq.mpr (B30_eq s_p0 prefix_p1 w K) h)

-- 54 strings.Index
def T54 : Ann := (.seq .none (.seq .none .none))
theorem T54_ok : chkFn prog Tryd.f54 T54 = true := by kernel_rfl
def B54 (s_p0 substr_p1 : Value) (w : World) (K : Value → World → Prop) : Prop :=
  Calls prog 76 #[s_p0, substr_p1] w (Ret fun t_0 w =>
  K t_0 w)
theorem B54_eq (s_p0 substr_p1 : Value) (w : World) (K : Value → World → Prop) : denFn prog Tryd.f54 T54 [s_p0, substr_p1] w K = B54 s_p0 substr_p1 w K := by kernel_rfl
theorem c54 {s_p0 substr_p1 : Value} {w : World} {K : Value → World → Prop} (h : B54 s_p0 substr_p1 w K) : Calls prog 54 #[s_p0, substr_p1] w (Ret K) :=
  denFn_calls Tryd.func54 T54_ok (Eq.mpr (B54_eq s_p0 substr_p1 w K) h)

-- 31 strconv.FormatInt
def T31 : Ann := (.seq .none (.seq .none .none))
theorem T31_ok : chkFn prog Tryd.f31 T31 = true := by kernel_rfl
def B31 (i_p0 base_p1 : Value) (w : World) (K : Value → World → Prop) : Prop :=
  Calls prog 39 #[i_p0, base_p1] w (Ret fun t_0 w =>
  K t_0 w)
theorem B31_eq (i_p0 base_p1 : Value) (w : World) (K : Value → World → Prop) : denFn prog Tryd.f31 T31 [i_p0, base_p1] w K = B31 i_p0 base_p1 w K := by kernel_rfl
theorem c31 {i_p0 base_p1 : Value} {w : World} {K : Value → World → Prop} (h : B31 i_p0 base_p1 w K) : Calls prog 31 #[i_p0, base_p1] w (Ret K) :=
  denFn_calls Tryd.func31 T31_ok (Eq.mpr (B31_eq i_p0 base_p1 w K) h)

-- 80 internal/strconv.bool2[int]
def T80 : Ann := (.seq .none (.seq (.seq .none (.seq (.seq .none .none) .none)) (.seq .none .none)))
theorem T80_ok : chkFn prog Tryd.f80 T80 = true := by kernel_rfl
def B80 (b_p0 : Value) (w : World) (K : Value → World → Prop) : Prop :=
  cd b_p0 (
    K (.int .i64 1) w) <|
  K (.int .i64 0) w
theorem B80_eq (b_p0 : Value) (w : World) (K : Value → World → Prop) : denFn prog Tryd.f80 T80 [b_p0] w K = B80 b_p0 w K := by kernel_rfl
theorem c80 {b_p0 : Value} {w : World} {K : Value → World → Prop} (h : B80 b_p0 w K) : Calls prog 80 #[b_p0] w (Ret K) :=
  denFn_calls Tryd.func80 T80_ok (Eq.mpr (B80_eq b_p0 w K) h)


end Go.Proofs.YtnkmgkilfkgfhaaDoor
