import Derived.Test.YtmnaalpjhkkglaaGreatDoorPI
set_option linter.all false
set_option maxRecDepth 100000
namespace Go.Proofs.YtmnaalpjhkkglaaGreatDoor
open Go Hold
-- 119 internal/strconv.formatBase10
def T119 : Ann := (.seq .none (.seq (.block (.loop 79228162514264337593543430130 [1, 4] (.seq (.seq .none (.seq .none .none)) (.block (.seq .none (.seq .none (.seq .none (.seq .none (.seq .none (.seq (.draw [.op 0 .pure, .op 1 .pure, .op 2 .pure, .op 3 .pure, .op 4 .pure, .op 5 .pure, .op 6 .pure, .op 7 .pure, .op 8 .pure, .op 9 .pure, .op 10 .pure, .op 11 .pure, .op 12 .eff, .op 13 .pure, .op 14 .eff]) (.seq (.draw [.op 0 .pure, .op 1 .pure, .op 2 .pure, .op 3 .pure, .op 4 .pure, .op 5 .pure, .op 6 .pure, .op 7 .pure, .op 8 .pure, .op 9 .pure, .op 10 .pure, .op 11 .pure, .op 12 .eff, .op 13 .pure, .op 14 .eff]) (.seq (.draw [.op 0 .pure, .op 1 .pure, .op 2 .pure, .op 3 .pure, .op 4 .pure, .op 5 .pure, .op 6 .pure, .op 7 .pure, .op 8 .pure, .op 9 .pure, .op 10 .pure, .op 11 .pure, .op 12 .eff, .op 13 .pure, .op 14 .eff]) (.seq (.draw [.op 0 .pure, .op 1 .pure, .op 2 .pure, .op 3 .pure, .op 4 .pure, .op 5 .pure, .op 6 .pure, .op 7 .pure, .op 8 .pure, .op 9 .pure, .op 10 .pure, .op 11 .pure, .op 12 .eff, .op 13 .pure, .op 14 .eff]) .none))))))))))))) (.seq .none (.meet 348449143726724073936438540659756472791056 [4, 12] (.seq .none (.seq (.seq .none (.seq .none (.seq .none (.seq (.draw [.op 0 .pure, .op 1 .pure, .op 2 .pure, .op 3 .pure, .op 4 .pure, .op 5 .pure, .op 6 .pure, .op 7 .pure, .op 8 .pure, .op 9 .pure, .op 10 .pure, .op 11 .pure, .op 12 .eff, .op 13 .pure, .op 14 .eff]) (.seq (.draw [.op 0 .pure, .op 1 .pure, .op 2 .pure, .op 3 .pure, .op 4 .pure, .op 5 .pure, .op 6 .pure, .op 7 .pure, .op 8 .pure, .op 9 .pure, .op 10 .pure, .op 11 .pure, .op 12 .eff, .op 13 .pure, .op 14 .eff]) .none))))) .none)) (.meet 1461501288881759191162698246220685009525284081680 [4, 12] (.seq .none (.seq (.seq .none (.seq .none (.seq (.draw [.op 0 .pure, .op 1 .pure, .op 2 .pure, .op 3 .pure, .op 4 .pure, .op 5 .pure, .op 6 .pure, .op 7 .pure, .op 8 .pure, .op 9 .pure, .op 10 .pure, .op 11 .pure, .op 12 .eff, .op 13 .pure, .op 14 .eff]) .none))) .none)) (.seq .none (.seq .none .none)))))))
theorem T119_ok : chkFn prog Tryz.f119 T119 = true := by kernel_rfl
def B119 (a_p0 u_p1 : Value) (w : World) (K : Value → World → Prop) : Prop :=
  pv prog (oBi .len #[22] 3 #[false] #[a_p0]) w fun t_0 w =>
  lp (fun σ w again_3 => pop σ fun u_1 σ => pop σ fun nd_2 σ => fin σ <|
    pvv prog (binOp .geq 3 nd_2 (.int .i64 8)) w fun t_4 w =>
    cd t_4 (
      pvv prog (binOp .rem 79 u_1 (.int .u64 100000000)) w fun t_5 w =>
      pvv prog (convert 79 74 t_5) w fun t_6 w =>
      pvv prog (binOp .quo 79 u_1 (.int .u64 100000000)) w fun t_7 w =>
      pvv prog (binOp .quo 74 t_6 (.int .u32 10000)) w fun t_8 w =>
      pvv prog (binOp .rem 74 t_6 (.int .u32 10000)) w fun t_9 w =>
      pvv prog (binOp .quo 74 t_9 (.int .u32 100)) w fun t_10 w =>
      pvv prog (binOp .mul 74 t_10 (.int .u32 2)) w fun t_11 w =>
      pvv prog (binOp .rem 74 t_9 (.int .u32 100)) w fun t_12 w =>
      pvv prog (binOp .mul 74 t_12 (.int .u32 2)) w fun t_13 w =>
      pvv prog (binOp .quo 74 t_8 (.int .u32 100)) w fun t_14 w =>
      pvv prog (binOp .mul 74 t_14 (.int .u32 2)) w fun t_15 w =>
      pvv prog (binOp .rem 74 t_8 (.int .u32 100)) w fun t_16 w =>
      pvv prog (binOp .mul 74 t_16 (.int .u32 2)) w fun t_17 w =>
      dr w fun w =>
      pvv prog (binOp .sub 3 nd_2 (.int .i64 1)) w fun t_18 w =>
      pvv prog (binOp .sub 3 nd_2 (.int .i64 2)) w fun t_19 w =>
      pvv prog (binOp .add 74 t_13 (.int .u32 1)) w fun t_20 w =>
      pvv prog (Instr.index 9 (.string ⟨#[48, 48, 48, 49, 48, 50, 48, 51, 48, 52, 48, 53, 48, 54, 48, 55, 48, 56, 48, 57, 49, 48, 49, 49, 49, 50, 49, 51, 49, 52, 49, 53, 49, 54, 49, 55, 49, 56, 49, 57, 50, 48, 50, 49, 50, 50, 50, 51, 50, 52, 50, 53, 50, 54, 50, 55, 50, 56, 50, 57, 51, 48, 51, 49, 51, 50, 51, 51, 51, 52, 51, 53, 51, 54, 51, 55, 51, 56, 51, 57, 52, 48, 52, 49, 52, 50, 52, 51, 52, 52, 52, 53, 52, 54, 52, 55, 52, 56, 52, 57, 53, 48, 53, 49, 53, 50, 53, 51, 53, 52, 53, 53, 53, 54, 53, 55, 53, 56, 53, 57, 54, 48, 54, 49, 54, 50, 54, 51, 54, 52, 54, 53, 54, 54, 54, 55, 54, 56, 54, 57, 55, 48, 55, 49, 55, 50, 55, 51, 55, 52, 55, 53, 55, 54, 55, 55, 55, 56, 55, 57, 56, 48, 56, 49, 56, 50, 56, 51, 56, 52, 56, 53, 56, 54, 56, 55, 56, 56, 56, 57, 57, 48, 57, 49, 57, 50, 57, 51, 57, 52, 57, 53, 57, 54, 57, 55, 57, 56, 57, 57]⟩) t_20) w fun t_21 w =>
      pvv prog (Instr.index 9 (.string ⟨#[48, 48, 48, 49, 48, 50, 48, 51, 48, 52, 48, 53, 48, 54, 48, 55, 48, 56, 48, 57, 49, 48, 49, 49, 49, 50, 49, 51, 49, 52, 49, 53, 49, 54, 49, 55, 49, 56, 49, 57, 50, 48, 50, 49, 50, 50, 50, 51, 50, 52, 50, 53, 50, 54, 50, 55, 50, 56, 50, 57, 51, 48, 51, 49, 51, 50, 51, 51, 51, 52, 51, 53, 51, 54, 51, 55, 51, 56, 51, 57, 52, 48, 52, 49, 52, 50, 52, 51, 52, 52, 52, 53, 52, 54, 52, 55, 52, 56, 52, 57, 53, 48, 53, 49, 53, 50, 53, 51, 53, 52, 53, 53, 53, 54, 53, 55, 53, 56, 53, 57, 54, 48, 54, 49, 54, 50, 54, 51, 54, 52, 54, 53, 54, 54, 54, 55, 54, 56, 54, 57, 55, 48, 55, 49, 55, 50, 55, 51, 55, 52, 55, 53, 55, 54, 55, 55, 55, 56, 55, 57, 56, 48, 56, 49, 56, 50, 56, 51, 56, 52, 56, 53, 56, 54, 56, 55, 56, 56, 56, 57, 57, 48, 57, 49, 57, 50, 57, 51, 57, 52, 57, 53, 57, 54, 57, 55, 57, 56, 57, 57]⟩) t_13) w fun t_22 w =>
      pvv prog (Instr.indexAt 22 a_p0 t_18) w fun t_23 w =>
      efu prog (Instr.storeAt 5 t_23 t_21) w fun u_24 w =>
      pvv prog (Instr.indexAt 22 a_p0 t_19) w fun t_25 w =>
      efu prog (Instr.storeAt 5 t_25 t_22) w fun u_26 w =>
      dr w fun w =>
      pvv prog (binOp .sub 3 nd_2 (.int .i64 3)) w fun t_27 w =>
      pvv prog (binOp .sub 3 nd_2 (.int .i64 4)) w fun t_28 w =>
      pvv prog (binOp .add 74 t_11 (.int .u32 1)) w fun t_29 w =>
      pvv prog (Instr.index 9 (.string ⟨#[48, 48, 48, 49, 48, 50, 48, 51, 48, 52, 48, 53, 48, 54, 48, 55, 48, 56, 48, 57, 49, 48, 49, 49, 49, 50, 49, 51, 49, 52, 49, 53, 49, 54, 49, 55, 49, 56, 49, 57, 50, 48, 50, 49, 50, 50, 50, 51, 50, 52, 50, 53, 50, 54, 50, 55, 50, 56, 50, 57, 51, 48, 51, 49, 51, 50, 51, 51, 51, 52, 51, 53, 51, 54, 51, 55, 51, 56, 51, 57, 52, 48, 52, 49, 52, 50, 52, 51, 52, 52, 52, 53, 52, 54, 52, 55, 52, 56, 52, 57, 53, 48, 53, 49, 53, 50, 53, 51, 53, 52, 53, 53, 53, 54, 53, 55, 53, 56, 53, 57, 54, 48, 54, 49, 54, 50, 54, 51, 54, 52, 54, 53, 54, 54, 54, 55, 54, 56, 54, 57, 55, 48, 55, 49, 55, 50, 55, 51, 55, 52, 55, 53, 55, 54, 55, 55, 55, 56, 55, 57, 56, 48, 56, 49, 56, 50, 56, 51, 56, 52, 56, 53, 56, 54, 56, 55, 56, 56, 56, 57, 57, 48, 57, 49, 57, 50, 57, 51, 57, 52, 57, 53, 57, 54, 57, 55, 57, 56, 57, 57]⟩) t_29) w fun t_30 w =>
      pvv prog (Instr.index 9 (.string ⟨#[48, 48, 48, 49, 48, 50, 48, 51, 48, 52, 48, 53, 48, 54, 48, 55, 48, 56, 48, 57, 49, 48, 49, 49, 49, 50, 49, 51, 49, 52, 49, 53, 49, 54, 49, 55, 49, 56, 49, 57, 50, 48, 50, 49, 50, 50, 50, 51, 50, 52, 50, 53, 50, 54, 50, 55, 50, 56, 50, 57, 51, 48, 51, 49, 51, 50, 51, 51, 51, 52, 51, 53, 51, 54, 51, 55, 51, 56, 51, 57, 52, 48, 52, 49, 52, 50, 52, 51, 52, 52, 52, 53, 52, 54, 52, 55, 52, 56, 52, 57, 53, 48, 53, 49, 53, 50, 53, 51, 53, 52, 53, 53, 53, 54, 53, 55, 53, 56, 53, 57, 54, 48, 54, 49, 54, 50, 54, 51, 54, 52, 54, 53, 54, 54, 54, 55, 54, 56, 54, 57, 55, 48, 55, 49, 55, 50, 55, 51, 55, 52, 55, 53, 55, 54, 55, 55, 55, 56, 55, 57, 56, 48, 56, 49, 56, 50, 56, 51, 56, 52, 56, 53, 56, 54, 56, 55, 56, 56, 56, 57, 57, 48, 57, 49, 57, 50, 57, 51, 57, 52, 57, 53, 57, 54, 57, 55, 57, 56, 57, 57]⟩) t_11) w fun t_31 w =>
      pvv prog (Instr.indexAt 22 a_p0 t_27) w fun t_32 w =>
      efu prog (Instr.storeAt 5 t_32 t_30) w fun u_33 w =>
      pvv prog (Instr.indexAt 22 a_p0 t_28) w fun t_34 w =>
      efu prog (Instr.storeAt 5 t_34 t_31) w fun u_35 w =>
      dr w fun w =>
      pvv prog (binOp .sub 3 nd_2 (.int .i64 5)) w fun t_36 w =>
      pvv prog (binOp .sub 3 nd_2 (.int .i64 6)) w fun t_37 w =>
      pvv prog (binOp .add 74 t_17 (.int .u32 1)) w fun t_38 w =>
      pvv prog (Instr.index 9 (.string ⟨#[48, 48, 48, 49, 48, 50, 48, 51, 48, 52, 48, 53, 48, 54, 48, 55, 48, 56, 48, 57, 49, 48, 49, 49, 49, 50, 49, 51, 49, 52, 49, 53, 49, 54, 49, 55, 49, 56, 49, 57, 50, 48, 50, 49, 50, 50, 50, 51, 50, 52, 50, 53, 50, 54, 50, 55, 50, 56, 50, 57, 51, 48, 51, 49, 51, 50, 51, 51, 51, 52, 51, 53, 51, 54, 51, 55, 51, 56, 51, 57, 52, 48, 52, 49, 52, 50, 52, 51, 52, 52, 52, 53, 52, 54, 52, 55, 52, 56, 52, 57, 53, 48, 53, 49, 53, 50, 53, 51, 53, 52, 53, 53, 53, 54, 53, 55, 53, 56, 53, 57, 54, 48, 54, 49, 54, 50, 54, 51, 54, 52, 54, 53, 54, 54, 54, 55, 54, 56, 54, 57, 55, 48, 55, 49, 55, 50, 55, 51, 55, 52, 55, 53, 55, 54, 55, 55, 55, 56, 55, 57, 56, 48, 56, 49, 56, 50, 56, 51, 56, 52, 56, 53, 56, 54, 56, 55, 56, 56, 56, 57, 57, 48, 57, 49, 57, 50, 57, 51, 57, 52, 57, 53, 57, 54, 57, 55, 57, 56, 57, 57]⟩) t_38) w fun t_39 w =>
      pvv prog (Instr.index 9 (.string ⟨#[48, 48, 48, 49, 48, 50, 48, 51, 48, 52, 48, 53, 48, 54, 48, 55, 48, 56, 48, 57, 49, 48, 49, 49, 49, 50, 49, 51, 49, 52, 49, 53, 49, 54, 49, 55, 49, 56, 49, 57, 50, 48, 50, 49, 50, 50, 50, 51, 50, 52, 50, 53, 50, 54, 50, 55, 50, 56, 50, 57, 51, 48, 51, 49, 51, 50, 51, 51, 51, 52, 51, 53, 51, 54, 51, 55, 51, 56, 51, 57, 52, 48, 52, 49, 52, 50, 52, 51, 52, 52, 52, 53, 52, 54, 52, 55, 52, 56, 52, 57, 53, 48, 53, 49, 53, 50, 53, 51, 53, 52, 53, 53, 53, 54, 53, 55, 53, 56, 53, 57, 54, 48, 54, 49, 54, 50, 54, 51, 54, 52, 54, 53, 54, 54, 54, 55, 54, 56, 54, 57, 55, 48, 55, 49, 55, 50, 55, 51, 55, 52, 55, 53, 55, 54, 55, 55, 55, 56, 55, 57, 56, 48, 56, 49, 56, 50, 56, 51, 56, 52, 56, 53, 56, 54, 56, 55, 56, 56, 56, 57, 57, 48, 57, 49, 57, 50, 57, 51, 57, 52, 57, 53, 57, 54, 57, 55, 57, 56, 57, 57]⟩) t_17) w fun t_40 w =>
      pvv prog (Instr.indexAt 22 a_p0 t_36) w fun t_41 w =>
      efu prog (Instr.storeAt 5 t_41 t_39) w fun u_42 w =>
      pvv prog (Instr.indexAt 22 a_p0 t_37) w fun t_43 w =>
      efu prog (Instr.storeAt 5 t_43 t_40) w fun u_44 w =>
      dr w fun w =>
      pvv prog (binOp .sub 3 nd_2 (.int .i64 7)) w fun t_45 w =>
      pvv prog (binOp .sub 3 nd_2 (.int .i64 8)) w fun t_46 w =>
      pvv prog (binOp .add 74 t_15 (.int .u32 1)) w fun t_47 w =>
      pvv prog (Instr.index 9 (.string ⟨#[48, 48, 48, 49, 48, 50, 48, 51, 48, 52, 48, 53, 48, 54, 48, 55, 48, 56, 48, 57, 49, 48, 49, 49, 49, 50, 49, 51, 49, 52, 49, 53, 49, 54, 49, 55, 49, 56, 49, 57, 50, 48, 50, 49, 50, 50, 50, 51, 50, 52, 50, 53, 50, 54, 50, 55, 50, 56, 50, 57, 51, 48, 51, 49, 51, 50, 51, 51, 51, 52, 51, 53, 51, 54, 51, 55, 51, 56, 51, 57, 52, 48, 52, 49, 52, 50, 52, 51, 52, 52, 52, 53, 52, 54, 52, 55, 52, 56, 52, 57, 53, 48, 53, 49, 53, 50, 53, 51, 53, 52, 53, 53, 53, 54, 53, 55, 53, 56, 53, 57, 54, 48, 54, 49, 54, 50, 54, 51, 54, 52, 54, 53, 54, 54, 54, 55, 54, 56, 54, 57, 55, 48, 55, 49, 55, 50, 55, 51, 55, 52, 55, 53, 55, 54, 55, 55, 55, 56, 55, 57, 56, 48, 56, 49, 56, 50, 56, 51, 56, 52, 56, 53, 56, 54, 56, 55, 56, 56, 56, 57, 57, 48, 57, 49, 57, 50, 57, 51, 57, 52, 57, 53, 57, 54, 57, 55, 57, 56, 57, 57]⟩) t_47) w fun t_48 w =>
      pvv prog (Instr.index 9 (.string ⟨#[48, 48, 48, 49, 48, 50, 48, 51, 48, 52, 48, 53, 48, 54, 48, 55, 48, 56, 48, 57, 49, 48, 49, 49, 49, 50, 49, 51, 49, 52, 49, 53, 49, 54, 49, 55, 49, 56, 49, 57, 50, 48, 50, 49, 50, 50, 50, 51, 50, 52, 50, 53, 50, 54, 50, 55, 50, 56, 50, 57, 51, 48, 51, 49, 51, 50, 51, 51, 51, 52, 51, 53, 51, 54, 51, 55, 51, 56, 51, 57, 52, 48, 52, 49, 52, 50, 52, 51, 52, 52, 52, 53, 52, 54, 52, 55, 52, 56, 52, 57, 53, 48, 53, 49, 53, 50, 53, 51, 53, 52, 53, 53, 53, 54, 53, 55, 53, 56, 53, 57, 54, 48, 54, 49, 54, 50, 54, 51, 54, 52, 54, 53, 54, 54, 54, 55, 54, 56, 54, 57, 55, 48, 55, 49, 55, 50, 55, 51, 55, 52, 55, 53, 55, 54, 55, 55, 55, 56, 55, 57, 56, 48, 56, 49, 56, 50, 56, 51, 56, 52, 56, 53, 56, 54, 56, 55, 56, 56, 56, 57, 57, 48, 57, 49, 57, 50, 57, 51, 57, 52, 57, 53, 57, 54, 57, 55, 57, 56, 57, 57]⟩) t_15) w fun t_49 w =>
      pvv prog (Instr.indexAt 22 a_p0 t_45) w fun t_50 w =>
      efu prog (Instr.storeAt 5 t_50 t_48) w fun u_51 w =>
      pvv prog (Instr.indexAt 22 a_p0 t_46) w fun t_52 w =>
      efu prog (Instr.storeAt 5 t_52 t_49) w fun u_53 w =>
      pvv prog (binOp .sub 3 nd_2 (.int .i64 8)) w fun t_54 w =>
      again_3 [t_7, t_54] w) <|
    pvv prog (convert 79 74 u_1) w fun t_63 w =>
    jn (fun σ w => pop σ fun nd_64 σ => pop σ fun x_65 σ => fin σ <|
      jn (fun σ w => pop σ fun nd_66 σ => pop σ fun x_67 σ => fin σ <|
        pvv prog (binOp .gtr 3 nd_66 (.int .i64 0)) w fun t_68 w =>
        cd t_68 (
          pvv prog (binOp .add 74 (.int .u32 48) x_67) w fun t_69 w =>
          pvv prog (convert 74 5 t_69) w fun t_70 w =>
          pvv prog (Instr.indexAt 22 a_p0 (.int .i64 0)) w fun t_71 w =>
          efu prog (Instr.storeAt 5 t_71 t_70) w fun u_72 w =>
          K (.tuple #[]) w) <|
        K (.tuple #[]) w) fun k_73 =>
      pvv prog (binOp .geq 3 nd_64 (.int .i64 2)) w fun t_74 w =>
      cd t_74 (
        pvv prog (binOp .rem 74 x_65 (.int .u32 100)) w fun t_75 w =>
        pvv prog (binOp .mul 74 t_75 (.int .u32 2)) w fun t_76 w =>
        pvv prog (binOp .quo 74 x_65 (.int .u32 100)) w fun t_77 w =>
        dr w fun w =>
        pvv prog (binOp .sub 3 nd_64 (.int .i64 1)) w fun t_78 w =>
        pvv prog (binOp .sub 3 nd_64 (.int .i64 2)) w fun t_79 w =>
        pvv prog (binOp .add 74 t_76 (.int .u32 1)) w fun t_80 w =>
        pvv prog (Instr.index 9 (.string ⟨#[48, 48, 48, 49, 48, 50, 48, 51, 48, 52, 48, 53, 48, 54, 48, 55, 48, 56, 48, 57, 49, 48, 49, 49, 49, 50, 49, 51, 49, 52, 49, 53, 49, 54, 49, 55, 49, 56, 49, 57, 50, 48, 50, 49, 50, 50, 50, 51, 50, 52, 50, 53, 50, 54, 50, 55, 50, 56, 50, 57, 51, 48, 51, 49, 51, 50, 51, 51, 51, 52, 51, 53, 51, 54, 51, 55, 51, 56, 51, 57, 52, 48, 52, 49, 52, 50, 52, 51, 52, 52, 52, 53, 52, 54, 52, 55, 52, 56, 52, 57, 53, 48, 53, 49, 53, 50, 53, 51, 53, 52, 53, 53, 53, 54, 53, 55, 53, 56, 53, 57, 54, 48, 54, 49, 54, 50, 54, 51, 54, 52, 54, 53, 54, 54, 54, 55, 54, 56, 54, 57, 55, 48, 55, 49, 55, 50, 55, 51, 55, 52, 55, 53, 55, 54, 55, 55, 55, 56, 55, 57, 56, 48, 56, 49, 56, 50, 56, 51, 56, 52, 56, 53, 56, 54, 56, 55, 56, 56, 56, 57, 57, 48, 57, 49, 57, 50, 57, 51, 57, 52, 57, 53, 57, 54, 57, 55, 57, 56, 57, 57]⟩) t_80) w fun t_81 w =>
        pvv prog (Instr.index 9 (.string ⟨#[48, 48, 48, 49, 48, 50, 48, 51, 48, 52, 48, 53, 48, 54, 48, 55, 48, 56, 48, 57, 49, 48, 49, 49, 49, 50, 49, 51, 49, 52, 49, 53, 49, 54, 49, 55, 49, 56, 49, 57, 50, 48, 50, 49, 50, 50, 50, 51, 50, 52, 50, 53, 50, 54, 50, 55, 50, 56, 50, 57, 51, 48, 51, 49, 51, 50, 51, 51, 51, 52, 51, 53, 51, 54, 51, 55, 51, 56, 51, 57, 52, 48, 52, 49, 52, 50, 52, 51, 52, 52, 52, 53, 52, 54, 52, 55, 52, 56, 52, 57, 53, 48, 53, 49, 53, 50, 53, 51, 53, 52, 53, 53, 53, 54, 53, 55, 53, 56, 53, 57, 54, 48, 54, 49, 54, 50, 54, 51, 54, 52, 54, 53, 54, 54, 54, 55, 54, 56, 54, 57, 55, 48, 55, 49, 55, 50, 55, 51, 55, 52, 55, 53, 55, 54, 55, 55, 55, 56, 55, 57, 56, 48, 56, 49, 56, 50, 56, 51, 56, 52, 56, 53, 56, 54, 56, 55, 56, 56, 56, 57, 57, 48, 57, 49, 57, 50, 57, 51, 57, 52, 57, 53, 57, 54, 57, 55, 57, 56, 57, 57]⟩) t_76) w fun t_82 w =>
        pvv prog (Instr.indexAt 22 a_p0 t_78) w fun t_83 w =>
        efu prog (Instr.storeAt 5 t_83 t_81) w fun u_84 w =>
        pvv prog (Instr.indexAt 22 a_p0 t_79) w fun t_85 w =>
        efu prog (Instr.storeAt 5 t_85 t_82) w fun u_86 w =>
        pvv prog (binOp .sub 3 nd_64 (.int .i64 2)) w fun t_87 w =>
        k_73 [t_87, t_77] w) <|
      k_73 [nd_64, x_65] w) fun k_90 =>
    pvv prog (binOp .geq 3 nd_2 (.int .i64 4)) w fun t_91 w =>
    cd t_91 (
      pvv prog (binOp .rem 74 t_63 (.int .u32 10000)) w fun t_92 w =>
      pvv prog (binOp .quo 74 t_63 (.int .u32 10000)) w fun t_93 w =>
      pvv prog (binOp .quo 74 t_92 (.int .u32 100)) w fun t_94 w =>
      pvv prog (binOp .mul 74 t_94 (.int .u32 2)) w fun t_95 w =>
      pvv prog (binOp .rem 74 t_92 (.int .u32 100)) w fun t_96 w =>
      pvv prog (binOp .mul 74 t_96 (.int .u32 2)) w fun t_97 w =>
      dr w fun w =>
      pvv prog (binOp .sub 3 nd_2 (.int .i64 1)) w fun t_98 w =>
      pvv prog (binOp .sub 3 nd_2 (.int .i64 2)) w fun t_99 w =>
      pvv prog (binOp .add 74 t_97 (.int .u32 1)) w fun t_100 w =>
      pvv prog (Instr.index 9 (.string ⟨#[48, 48, 48, 49, 48, 50, 48, 51, 48, 52, 48, 53, 48, 54, 48, 55, 48, 56, 48, 57, 49, 48, 49, 49, 49, 50, 49, 51, 49, 52, 49, 53, 49, 54, 49, 55, 49, 56, 49, 57, 50, 48, 50, 49, 50, 50, 50, 51, 50, 52, 50, 53, 50, 54, 50, 55, 50, 56, 50, 57, 51, 48, 51, 49, 51, 50, 51, 51, 51, 52, 51, 53, 51, 54, 51, 55, 51, 56, 51, 57, 52, 48, 52, 49, 52, 50, 52, 51, 52, 52, 52, 53, 52, 54, 52, 55, 52, 56, 52, 57, 53, 48, 53, 49, 53, 50, 53, 51, 53, 52, 53, 53, 53, 54, 53, 55, 53, 56, 53, 57, 54, 48, 54, 49, 54, 50, 54, 51, 54, 52, 54, 53, 54, 54, 54, 55, 54, 56, 54, 57, 55, 48, 55, 49, 55, 50, 55, 51, 55, 52, 55, 53, 55, 54, 55, 55, 55, 56, 55, 57, 56, 48, 56, 49, 56, 50, 56, 51, 56, 52, 56, 53, 56, 54, 56, 55, 56, 56, 56, 57, 57, 48, 57, 49, 57, 50, 57, 51, 57, 52, 57, 53, 57, 54, 57, 55, 57, 56, 57, 57]⟩) t_100) w fun t_101 w =>
      pvv prog (Instr.index 9 (.string ⟨#[48, 48, 48, 49, 48, 50, 48, 51, 48, 52, 48, 53, 48, 54, 48, 55, 48, 56, 48, 57, 49, 48, 49, 49, 49, 50, 49, 51, 49, 52, 49, 53, 49, 54, 49, 55, 49, 56, 49, 57, 50, 48, 50, 49, 50, 50, 50, 51, 50, 52, 50, 53, 50, 54, 50, 55, 50, 56, 50, 57, 51, 48, 51, 49, 51, 50, 51, 51, 51, 52, 51, 53, 51, 54, 51, 55, 51, 56, 51, 57, 52, 48, 52, 49, 52, 50, 52, 51, 52, 52, 52, 53, 52, 54, 52, 55, 52, 56, 52, 57, 53, 48, 53, 49, 53, 50, 53, 51, 53, 52, 53, 53, 53, 54, 53, 55, 53, 56, 53, 57, 54, 48, 54, 49, 54, 50, 54, 51, 54, 52, 54, 53, 54, 54, 54, 55, 54, 56, 54, 57, 55, 48, 55, 49, 55, 50, 55, 51, 55, 52, 55, 53, 55, 54, 55, 55, 55, 56, 55, 57, 56, 48, 56, 49, 56, 50, 56, 51, 56, 52, 56, 53, 56, 54, 56, 55, 56, 56, 56, 57, 57, 48, 57, 49, 57, 50, 57, 51, 57, 52, 57, 53, 57, 54, 57, 55, 57, 56, 57, 57]⟩) t_97) w fun t_102 w =>
      pvv prog (Instr.indexAt 22 a_p0 t_98) w fun t_103 w =>
      efu prog (Instr.storeAt 5 t_103 t_101) w fun u_104 w =>
      pvv prog (Instr.indexAt 22 a_p0 t_99) w fun t_105 w =>
      efu prog (Instr.storeAt 5 t_105 t_102) w fun u_106 w =>
      dr w fun w =>
      pvv prog (binOp .sub 3 nd_2 (.int .i64 3)) w fun t_107 w =>
      pvv prog (binOp .sub 3 nd_2 (.int .i64 4)) w fun t_108 w =>
      pvv prog (binOp .add 74 t_95 (.int .u32 1)) w fun t_109 w =>
      pvv prog (Instr.index 9 (.string ⟨#[48, 48, 48, 49, 48, 50, 48, 51, 48, 52, 48, 53, 48, 54, 48, 55, 48, 56, 48, 57, 49, 48, 49, 49, 49, 50, 49, 51, 49, 52, 49, 53, 49, 54, 49, 55, 49, 56, 49, 57, 50, 48, 50, 49, 50, 50, 50, 51, 50, 52, 50, 53, 50, 54, 50, 55, 50, 56, 50, 57, 51, 48, 51, 49, 51, 50, 51, 51, 51, 52, 51, 53, 51, 54, 51, 55, 51, 56, 51, 57, 52, 48, 52, 49, 52, 50, 52, 51, 52, 52, 52, 53, 52, 54, 52, 55, 52, 56, 52, 57, 53, 48, 53, 49, 53, 50, 53, 51, 53, 52, 53, 53, 53, 54, 53, 55, 53, 56, 53, 57, 54, 48, 54, 49, 54, 50, 54, 51, 54, 52, 54, 53, 54, 54, 54, 55, 54, 56, 54, 57, 55, 48, 55, 49, 55, 50, 55, 51, 55, 52, 55, 53, 55, 54, 55, 55, 55, 56, 55, 57, 56, 48, 56, 49, 56, 50, 56, 51, 56, 52, 56, 53, 56, 54, 56, 55, 56, 56, 56, 57, 57, 48, 57, 49, 57, 50, 57, 51, 57, 52, 57, 53, 57, 54, 57, 55, 57, 56, 57, 57]⟩) t_109) w fun t_110 w =>
      pvv prog (Instr.index 9 (.string ⟨#[48, 48, 48, 49, 48, 50, 48, 51, 48, 52, 48, 53, 48, 54, 48, 55, 48, 56, 48, 57, 49, 48, 49, 49, 49, 50, 49, 51, 49, 52, 49, 53, 49, 54, 49, 55, 49, 56, 49, 57, 50, 48, 50, 49, 50, 50, 50, 51, 50, 52, 50, 53, 50, 54, 50, 55, 50, 56, 50, 57, 51, 48, 51, 49, 51, 50, 51, 51, 51, 52, 51, 53, 51, 54, 51, 55, 51, 56, 51, 57, 52, 48, 52, 49, 52, 50, 52, 51, 52, 52, 52, 53, 52, 54, 52, 55, 52, 56, 52, 57, 53, 48, 53, 49, 53, 50, 53, 51, 53, 52, 53, 53, 53, 54, 53, 55, 53, 56, 53, 57, 54, 48, 54, 49, 54, 50, 54, 51, 54, 52, 54, 53, 54, 54, 54, 55, 54, 56, 54, 57, 55, 48, 55, 49, 55, 50, 55, 51, 55, 52, 55, 53, 55, 54, 55, 55, 55, 56, 55, 57, 56, 48, 56, 49, 56, 50, 56, 51, 56, 52, 56, 53, 56, 54, 56, 55, 56, 56, 56, 57, 57, 48, 57, 49, 57, 50, 57, 51, 57, 52, 57, 53, 57, 54, 57, 55, 57, 56, 57, 57]⟩) t_95) w fun t_111 w =>
      pvv prog (Instr.indexAt 22 a_p0 t_107) w fun t_112 w =>
      efu prog (Instr.storeAt 5 t_112 t_110) w fun u_113 w =>
      pvv prog (Instr.indexAt 22 a_p0 t_108) w fun t_114 w =>
      efu prog (Instr.storeAt 5 t_114 t_111) w fun u_115 w =>
      pvv prog (binOp .sub 3 nd_2 (.int .i64 4)) w fun t_116 w =>
      k_90 [t_116, t_93] w) <|
    k_90 [nd_2, t_63] w) [u_p1, t_0] w
theorem B119_eq (a_p0 u_p1 : Value) (w : World) (K : Value → World → Prop) : denFn prog Tryz.f119 T119 [a_p0, u_p1] w K = B119 a_p0 u_p1 w K := by kernel_rfl
theorem c119 {a_p0 u_p1 : Value} {w : World} {K : Value → World → Prop} (h : B119 a_p0 u_p1 w K) : Calls prog 119 #[a_p0, u_p1] w (Ret K) :=
  denFn_calls Tryz.func119 T119_ok (Eq.mpr (B119_eq a_p0 u_p1 w K) h)

-- 147 internal/stringslite.Index
def T147 : Ann := (.seq .none (.seq .none (.seq (.block (.seq .none (.seq (.seq .none .none) (.seq .none (.seq (.seq .none .none) (.seq .none (.seq (.seq .none .none) (.seq .none (.seq (.seq .none .none) .none))))))))) (.seq .none (.seq .none (.seq .none (.seq .none (.seq .none (.seq (.block (.loop 11150372599265311570767858992208992677149968 [8, 10] (.seq (.seq .none (.seq .none .none)) (.block (.meet 302230301982152686831888 [8] (.seq .none (.seq (.seq .none (.seq (.seq .none (.seq (.seq .none .none) .none)) .none)) .none)) (.seq (.seq .none (.seq (.seq .none .none) .none)) (.seq .none (.seq .none (.seq .none (.seq (.seq .none (.seq (.seq .none (.seq (.seq .none .none) .none)) (.seq .none .none))) (.seq .none (.seq (.seq .none (.seq (.seq .none (.seq (.seq .none .none) .none)) (.seq .none .none))) .none)))))))))))) (.seq .none .none))))))))))
theorem T147_ok : chkFn prog Tryz.f147 T147 = true := by kernel_rfl
def B147 (s_p0 substr_p1 : Value) (w : World) (K : Value → World → Prop) : Prop :=
  pv prog (oBi .len #[9] 3 #[false] #[substr_p1]) w fun t_0 w =>
  pvv prog (oEq .eql 3 (.tmp 17) (.const (.int .i64 0)) t_0 (.int .i64 0)) w fun t_1 w =>
  gate (some (t_1, false)) (fun K => K substr_p1 w) w fun t_2 w =>
  gate (some (t_1, false)) (fun K => K s_p0 w) w fun t_3 w =>
  gate (some (t_1, false)) (fun K => pvv prog (oEq .eql 9 (.tmp 20) (.tmp 21) t_2 t_3) w K) w fun t_4 w =>
  pv prog (oPick t_1 (.bool true) t_4) w fun t_5 w =>
  cd t_5 (
    K (.int .i64 0) w) <|
  pvv prog (oEq .eql 3 (.tmp 25) (.const (.int .i64 1)) t_0 (.int .i64 1)) w fun t_6 w =>
  cd t_6 (
    pvv prog (Instr.index 9 substr_p1 (.int .i64 0)) w fun t_7 w =>
    Calls prog 174 #[s_p0, t_7] w (Ret fun t_8 w =>
    K t_8 w)) <|
  pv prog (oBi .len #[9] 3 #[false] #[s_p0]) w fun t_9 w =>
  pvv prog (binOp .geq 3 t_0 t_9) w fun t_10 w =>
  cd t_10 (
    K (.int .i64 (-1)) w) <|
  ldv prog (Instr.loadAt 3 (.pointer (some ⟨3, 0, none⟩))) w fun t_11 w =>
  pvv prog (binOp .leq 3 t_0 t_11) w fun t_12 w =>
  gate (some (t_12, true)) (fun K => K s_p0 w) w fun t_13 w =>
  gate (some (t_12, true)) (fun K => pv prog (oBi .len #[9] 3 #[false] #[t_13]) w K) w fun t_14 w =>
  gate (some (t_12, true)) (fun K => pvv prog (binOp .leq 3 t_14 (.int .i64 64)) w K) w fun t_15 w =>
  pv prog (oPick t_12 t_15 (.bool false)) w fun t_16 w =>
  cd t_16 (
    ef prog (oCall (.func (.func 175) #[] #[]) #[s_p0, substr_p1]) w fun t_17 w =>
    K t_17 w) <|
  pvv prog (Instr.index 9 substr_p1 (.int .i64 0)) w fun t_18 w =>
  pvv prog (Instr.index 9 substr_p1 (.int .i64 1)) w fun t_19 w =>
  pv prog (oBi .len #[9] 3 #[false] #[s_p0]) w fun t_20 w =>
  pvv prog (binOp .sub 3 t_20 t_0) w fun t_21 w =>
  pvv prog (binOp .add 3 t_21 (.int .i64 1)) w fun t_22 w =>
  lp (fun σ w again_25 => pop σ fun i_23 σ => pop σ fun fails_24 σ => fin σ <|
    pvv prog (binOp .lss 3 i_23 t_22) w fun t_26 w =>
    cd t_26 (
      jn (fun σ w => pop σ fun i_27 σ => fin σ <|
        pvv prog (binOp .add 3 i_27 (.int .i64 1)) w fun t_28 w =>
        pvv prog (Instr.index 9 s_p0 t_28) w fun t_29 w =>
        pvv prog (oEq .eql 5 (.tmp 81) (.tmp 82) t_29 t_19) w fun t_30 w =>
        gate (some (t_30, true)) (fun K => K s_p0 w) w fun t_31 w =>
        gate (some (t_30, true)) (fun K => K i_27 w) w fun t_32 w =>
        gate (some (t_30, true)) (fun K => K i_27 w) w fun t_33 w =>
        gate (some (t_30, true)) (fun K => K t_0 w) w fun t_34 w =>
        gate (some (t_30, true)) (fun K => pvv prog (binOp .add 3 t_33 t_34) w K) w fun t_35 w =>
        gate (some (t_30, true)) (fun K => pvv prog (Instr.sliceAt 9 t_31 (some t_32) (some t_35) none) w K) w fun t_36 w =>
        gate (some (t_30, true)) (fun K => K substr_p1 w) w fun t_37 w =>
        gate (some (t_30, true)) (fun K => pvv prog (oEq .eql 9 (.tmp 90) (.tmp 91) t_36 t_37) w K) w fun t_38 w =>
        pv prog (oPick t_30 t_38 (.bool false)) w fun t_39 w =>
        cd t_39 (
          K i_27 w) <|
        pvv prog (binOp .add 3 i_27 (.int .i64 1)) w fun t_40 w =>
        pvv prog (binOp .add 3 fails_24 (.int .i64 1)) w fun t_41 w =>
        ldv prog (Instr.loadAt 3 (.pointer (some ⟨3, 0, none⟩))) w fun t_42 w =>
        pvv prog (binOp .leq 3 t_0 t_42) w fun t_43 w =>
        gate (some (t_43, true)) (fun K => K t_41 w) w fun t_44 w =>
        gate (some (t_43, true)) (fun K => K t_40 w) w fun t_45 w =>
        gate (some (t_43, true)) (fun K => Calls prog 176 #[t_45] w (Ret K)) w fun t_46 w =>
        gate (some (t_43, true)) (fun K => pvv prog (binOp .gtr 3 t_44 t_46) w K) w fun t_47 w =>
        pv prog (oPick t_43 t_47 (.bool false)) w fun t_48 w =>
        cd t_48 (
          pvv prog (Instr.sliceAt 9 s_p0 (some t_40) none none) w fun t_49 w =>
          ef prog (oCall (.func (.func 175) #[] #[]) #[t_49, substr_p1]) w fun t_50 w =>
          pvv prog (binOp .geq 3 t_50 (.int .i64 0)) w fun t_51 w =>
          cd t_51 (
            pvv prog (binOp .add 3 t_50 t_40) w fun t_52 w =>
            K t_52 w) <|
          K (.int .i64 (-1)) w) <|
        ldv prog (Instr.loadAt 3 (.pointer (some ⟨3, 0, none⟩))) w fun t_53 w =>
        pvv prog (binOp .gtr 3 t_0 t_53) w fun t_54 w =>
        gate (some (t_54, true)) (fun K => K t_41 w) w fun t_55 w =>
        gate (some (t_54, true)) (fun K => K t_40 w) w fun t_56 w =>
        gate (some (t_54, true)) (fun K => pvv prog (binOp .shr 3 t_56 (.int .u64 4)) w K) w fun t_57 w =>
        gate (some (t_54, true)) (fun K => pvv prog (binOp .add 3 (.int .i64 4) t_57) w K) w fun t_58 w =>
        gate (some (t_54, true)) (fun K => pvv prog (binOp .geq 3 t_55 t_58) w K) w fun t_59 w =>
        pv prog (oPick t_54 t_59 (.bool false)) w fun t_60 w =>
        gate (some (t_60, true)) (fun K => K t_40 w) w fun t_61 w =>
        gate (some (t_60, true)) (fun K => K t_22 w) w fun t_62 w =>
        gate (some (t_60, true)) (fun K => pvv prog (binOp .lss 3 t_61 t_62) w K) w fun t_63 w =>
        pv prog (oPick t_60 t_63 (.bool false)) w fun t_64 w =>
        cd t_64 (
          pvv prog (Instr.sliceAt 9 s_p0 (some t_40) none none) w fun t_65 w =>
          Calls prog 177 #[t_65, substr_p1] w (Ret fun t_66 w =>
          pvv prog (binOp .lss 3 t_66 (.int .i64 0)) w fun t_67 w =>
          cd t_67 (
            K (.int .i64 (-1)) w) <|
          pvv prog (binOp .add 3 t_40 t_66) w fun t_68 w =>
          K t_68 w)) <|
        again_25 [t_40, t_41] w) fun k_69 =>
      pvv prog (Instr.index 9 s_p0 i_23) w fun t_70 w =>
      pvv prog (oEq .neq 5 (.tmp 62) (.tmp 63) t_70 t_18) w fun t_71 w =>
      cd t_71 (
        pvv prog (binOp .add 3 i_23 (.int .i64 1)) w fun t_72 w =>
        pvv prog (Instr.sliceAt 9 s_p0 (some t_72) (some t_22) none) w fun t_73 w =>
        Calls prog 174 #[t_73, t_18] w (Ret fun t_74 w =>
        pvv prog (binOp .lss 3 t_74 (.int .i64 0)) w fun t_75 w =>
        cd t_75 (
          K (.int .i64 (-1)) w) <|
        pvv prog (binOp .add 3 t_74 (.int .i64 1)) w fun t_76 w =>
        pvv prog (binOp .add 3 i_23 t_76) w fun t_77 w =>
        k_69 [t_77] w)) <|
      k_69 [i_23] w) <|
    K (.int .i64 (-1)) w) [(.int .i64 0), (.int .i64 0)] w
theorem B147_eq (s_p0 substr_p1 : Value) (w : World) (K : Value → World → Prop) : denFn prog Tryz.f147 T147 [s_p0, substr_p1] w K = B147 s_p0 substr_p1 w K := by kernel_rfl
theorem c147 {s_p0 substr_p1 : Value} {w : World} {K : Value → World → Prop} (h : B147 s_p0 substr_p1 w K) : Calls prog 147 #[s_p0, substr_p1] w (Ret K) :=
  denFn_calls Tryz.func147 T147_ok (Eq.mpr (B147_eq s_p0 substr_p1 w K) h)

-- 105 slices.pdqsortCmpFunc[holdfast/api.Owner]
def T105 : Ann := (.seq .none (.seq .none (.block (.loop 356811923176489970264571492362373784095685646 [1, 2, 3, 10, 11] (.block (.seq .none (.seq (.seq .none (.seq (.seq .none .none) .none)) (.seq (.seq .none (.seq (.seq .none .none) .none)) (.meet 140462610448392 [3] (.seq .none (.seq (.seq .none .none) .none)) (.seq .none (.meet 295111876382333886464 [13, 14] (.seq .none (.seq (.seq .none (.seq .none .none)) .none)) (.meet 2417556491324078996586496 [] (.seq .none (.seq (.seq .none (.seq .none .none)) .none)) (.seq (.seq (.draw [.op 0 .pure, .op 1 .pure, .op 2 .pure, .op 3 .pure, .op 4 .pure, .op 5 .pure, .op 6 .pure, .op 7 .pure, .op 9 .pure, .op 10 .pure, .op 11 .pure, .op 8 .load, .op 12 .load, .op 13 .eff, .op 14 .pure, .op 15 .pure, .op 16 .pure]) (.seq (.seq .none (.seq .none .none)) .none)) (.seq .none (.seq .none (.seq .none (.seq .none (.seq .none (.seq (.seq .none (.seq .none .none)) (.seq .none (.seq .none .none)))))))))))))))))))))
theorem T105_ok : chkFn prog Tryz.f105 T105 = true := by kernel_rfl
def B105 (data_p0 a_p1 b_p2 limit_p3 cmp_p4 : Value) (w : World) (K : Value → World → Prop) : Prop :=
  lp (fun σ w again_5 => pop σ fun a_0 σ => pop σ fun b_1 σ => pop σ fun limit_2 σ => pop σ fun wasBalanced_3 σ => pop σ fun wasPartitioned_4 σ => fin σ <|
    pvv prog (binOp .sub 3 b_1 a_0) w fun t_6 w =>
    pvv prog (binOp .leq 3 t_6 (.int .i64 12)) w fun t_7 w =>
    cd t_7 (
      Calls prog 134 #[data_p0, a_0, b_1, cmp_p4] w (Ret fun t_8 w =>
      K (.tuple #[]) w)) <|
    pvv prog (oEq .eql 3 (.tmp 31) (.const (.int .i64 0)) limit_2 (.int .i64 0)) w fun t_9 w =>
    cd t_9 (
      Calls prog 135 #[data_p0, a_0, b_1, cmp_p4] w (Ret fun t_10 w =>
      K (.tuple #[]) w)) <|
    jn (fun σ w => pop σ fun limit_11 σ => fin σ <|
      Calls prog 137 #[data_p0, a_0, b_1, cmp_p4] w (Ret fun t_12 w =>
      pvv prog (Instr.extract t_12 0) w fun t_13 w =>
      pvv prog (Instr.extract t_12 1) w fun t_14 w =>
      jn (fun σ w => pop σ fun pivot_15 σ => pop σ fun hint_16 σ => fin σ <|
        jn (fun σ w => fin σ <|
          dr w fun w =>
          pvv prog (binOp .gtr 3 a_0 (.int .i64 0)) w fun t_17 w =>
          gate (some (t_17, true)) (fun K => K cmp_p4 w) w fun t_18 w =>
          gate (some (t_17, true)) (fun K => K data_p0 w) w fun t_19 w =>
          gate (some (t_17, true)) (fun K => K a_0 w) w fun t_20 w =>
          gate (some (t_17, true)) (fun K => pvv prog (binOp .sub 3 t_20 (.int .i64 1)) w K) w fun t_21 w =>
          gate (some (t_17, true)) (fun K => pvv prog (Instr.indexAt 136 t_19 t_21) w K) w fun t_22 w =>
          gate (some (t_17, true)) (fun K => K data_p0 w) w fun t_23 w =>
          gate (some (t_17, true)) (fun K => K pivot_15 w) w fun t_24 w =>
          gate (some (t_17, true)) (fun K => pvv prog (Instr.indexAt 136 t_23 t_24) w K) w fun t_25 w =>
          bindS (vN (Instr.loadAt 54 t_22)) fun m_27 => gate (some (t_17, true)) (fun K => ldv prog (Instr.loadAt 54 t_22) w K) w fun t_26 w =>
          bindS (vN (Instr.loadAt 54 t_25)) fun m_29 => gate (some (t_17, true)) (fun K => ldv prog (Instr.loadAt 54 t_25) w K) w fun t_28 w =>
          gate (some (t_17, true)) (fun K => ef prog (oCall t_18 #[t_26, t_28]) w fun s_48 w => K s_48 w) w fun t_30 w =>
          gate (some (t_17, true)) (fun K => pvv prog (binOp .lss 3 t_30 (.int .i64 0)) w K) w fun t_31 w =>
          gate (some (t_17, true)) (fun K => pvv prog (Op.unary .not t_31) w K) w fun t_32 w =>
          pv prog (oPick t_17 t_32 (.bool false)) w fun t_33 w =>
          cd t_33 (
            Calls prog 140 #[data_p0, a_0, b_1, pivot_15, cmp_p4] w (Ret fun t_34 w =>
            again_5 [t_34, b_1, limit_11, wasBalanced_3, wasPartitioned_4] w)) <|
          Calls prog 141 #[data_p0, a_0, b_1, pivot_15, cmp_p4] w (Ret fun t_35 w =>
          pvv prog (Instr.extract t_35 0) w fun t_36 w =>
          pvv prog (Instr.extract t_35 1) w fun t_37 w =>
          pvv prog (binOp .sub 3 t_36 a_0) w fun t_38 w =>
          pvv prog (binOp .sub 3 b_1 t_36) w fun t_39 w =>
          pvv prog (binOp .quo 3 t_6 (.int .i64 8)) w fun t_40 w =>
          pvv prog (binOp .lss 3 t_38 t_39) w fun t_41 w =>
          cd t_41 (
            pvv prog (binOp .geq 3 t_38 t_40) w fun t_42 w =>
            Calls prog 105 #[data_p0, a_0, t_36, limit_11, cmp_p4] w (Ret fun t_43 w =>
            pvv prog (binOp .add 3 t_36 (.int .i64 1)) w fun t_44 w =>
            again_5 [t_44, b_1, limit_11, t_42, t_37] w)) <|
          pvv prog (binOp .geq 3 t_39 t_40) w fun t_45 w =>
          pvv prog (binOp .add 3 t_36 (.int .i64 1)) w fun t_46 w =>
          Calls prog 105 #[data_p0, t_46, b_1, limit_11, cmp_p4] w (Ret fun t_47 w =>
          again_5 [a_0, t_36, limit_11, t_45, t_37] w))) fun k_49 =>
        gate (some (wasBalanced_3, true)) (fun K => K wasPartitioned_4 w) w fun t_50 w =>
        pv prog (oPick wasBalanced_3 t_50 (.bool false)) w fun t_51 w =>
        gate (some (t_51, true)) (fun K => K hint_16 w) w fun t_52 w =>
        gate (some (t_51, true)) (fun K => pvv prog (oEq .eql 161 (.tmp 73) (.const (.int .i64 1)) t_52 (.int .i64 1)) w K) w fun t_53 w =>
        pv prog (oPick t_51 t_53 (.bool false)) w fun t_54 w =>
        cd t_54 (
          Calls prog 139 #[data_p0, a_0, b_1, cmp_p4] w (Ret fun t_55 w =>
          cd t_55 (
            K (.tuple #[]) w) <|
          k_49 [] w)) <|
        k_49 [] w) fun k_56 =>
      pvv prog (oEq .eql 161 (.tmp 55) (.const (.int .i64 2)) t_14 (.int .i64 2)) w fun t_57 w =>
      cd t_57 (
        Calls prog 138 #[data_p0, a_0, b_1, cmp_p4] w (Ret fun t_58 w =>
        pvv prog (binOp .sub 3 b_1 (.int .i64 1)) w fun t_59 w =>
        pvv prog (binOp .sub 3 t_13 a_0) w fun t_60 w =>
        pvv prog (binOp .sub 3 t_59 t_60) w fun t_61 w =>
        k_56 [t_61, (.int .i64 1)] w)) <|
      k_56 [t_13, t_14] w)) fun k_62 =>
    pvv prog (Op.unary .not wasBalanced_3) w fun t_63 w =>
    cd t_63 (
      Calls prog 136 #[data_p0, a_0, b_1, cmp_p4] w (Ret fun t_64 w =>
      pvv prog (binOp .sub 3 limit_2 (.int .i64 1)) w fun t_65 w =>
      k_62 [t_65] w)) <|
    k_62 [limit_2] w) [a_p1, b_p2, limit_p3, (.bool true), (.bool true)] w
theorem B105_eq (data_p0 a_p1 b_p2 limit_p3 cmp_p4 : Value) (w : World) (K : Value → World → Prop) : denFn prog Tryz.f105 T105 [data_p0, a_p1, b_p2, limit_p3, cmp_p4] w K = B105 data_p0 a_p1 b_p2 limit_p3 cmp_p4 w K := by kernel_rfl
theorem c105 {data_p0 a_p1 b_p2 limit_p3 cmp_p4 : Value} {w : World} {K : Value → World → Prop} (h : B105 data_p0 a_p1 b_p2 limit_p3 cmp_p4 w K) : Calls prog 105 #[data_p0, a_p1, b_p2, limit_p3, cmp_p4] w (Ret K) :=
  denFn_calls Tryz.func105 T105_ok (Eq.mpr (B105_eq data_p0 a_p1 b_p2 limit_p3 cmp_p4 w K) h)

-- 143 slices.pdqsortOrdered[string]
def T143 : Ann := (.seq .none (.seq .none (.block (.loop 21778071482940061661655974875633165532942 [1, 2, 3, 8, 9] (.block (.seq .none (.seq (.seq .none (.seq (.seq .none .none) .none)) (.seq (.seq .none (.seq (.seq .none .none) .none)) (.meet 4380866641928 [3] (.seq .none (.seq (.seq .none .none) .none)) (.seq .none (.meet 2305280059260278784 [11, 12] (.seq .none (.seq (.seq .none (.seq .none .none)) .none)) (.meet 9442427122730076733440 [] (.seq .none (.seq (.seq .none (.seq .none .none)) .none)) (.seq (.seq (.draw [.op 0 .pure, .op 1 .pure, .op 2 .pure, .op 3 .pure, .op 4 .pure, .op 5 .pure, .op 6 .pure, .op 8 .pure, .op 9 .pure, .op 10 .pure, .op 7 .load, .op 11 .load, .op 12 .eff, .op 13 .pure, .op 14 .pure]) (.seq (.seq .none (.seq .none .none)) .none)) (.seq .none (.seq .none (.seq .none (.seq .none (.seq .none (.seq (.seq .none (.seq .none .none)) (.seq .none (.seq .none .none)))))))))))))))))))))
theorem T143_ok : chkFn prog Tryz.f143 T143 = true := by kernel_rfl
def B143 (data_p0 a_p1 b_p2 limit_p3 : Value) (w : World) (K : Value → World → Prop) : Prop :=
  lp (fun σ w again_5 => pop σ fun a_0 σ => pop σ fun b_1 σ => pop σ fun limit_2 σ => pop σ fun wasBalanced_3 σ => pop σ fun wasPartitioned_4 σ => fin σ <|
    pvv prog (binOp .sub 3 b_1 a_0) w fun t_6 w =>
    pvv prog (binOp .leq 3 t_6 (.int .i64 12)) w fun t_7 w =>
    cd t_7 (
      Calls prog 165 #[data_p0, a_0, b_1] w (Ret fun t_8 w =>
      K (.tuple #[]) w)) <|
    pvv prog (oEq .eql 3 (.tmp 28) (.const (.int .i64 0)) limit_2 (.int .i64 0)) w fun t_9 w =>
    cd t_9 (
      Calls prog 166 #[data_p0, a_0, b_1] w (Ret fun t_10 w =>
      K (.tuple #[]) w)) <|
    jn (fun σ w => pop σ fun limit_11 σ => fin σ <|
      Calls prog 168 #[data_p0, a_0, b_1] w (Ret fun t_12 w =>
      pvv prog (Instr.extract t_12 0) w fun t_13 w =>
      pvv prog (Instr.extract t_12 1) w fun t_14 w =>
      jn (fun σ w => pop σ fun pivot_15 σ => pop σ fun hint_16 σ => fin σ <|
        jn (fun σ w => fin σ <|
          dr w fun w =>
          pvv prog (binOp .gtr 3 a_0 (.int .i64 0)) w fun t_17 w =>
          gate (some (t_17, true)) (fun K => K data_p0 w) w fun t_18 w =>
          gate (some (t_17, true)) (fun K => K a_0 w) w fun t_19 w =>
          gate (some (t_17, true)) (fun K => pvv prog (binOp .sub 3 t_19 (.int .i64 1)) w K) w fun t_20 w =>
          gate (some (t_17, true)) (fun K => pvv prog (Instr.indexAt 39 t_18 t_20) w K) w fun t_21 w =>
          gate (some (t_17, true)) (fun K => K data_p0 w) w fun t_22 w =>
          gate (some (t_17, true)) (fun K => K pivot_15 w) w fun t_23 w =>
          gate (some (t_17, true)) (fun K => pvv prog (Instr.indexAt 39 t_22 t_23) w K) w fun t_24 w =>
          bindS (vN (Instr.loadAt 9 t_21)) fun m_26 => gate (some (t_17, true)) (fun K => ldv prog (Instr.loadAt 9 t_21) w K) w fun t_25 w =>
          bindS (vN (Instr.loadAt 9 t_24)) fun m_28 => gate (some (t_17, true)) (fun K => ldv prog (Instr.loadAt 9 t_24) w K) w fun t_27 w =>
          gate (some (t_17, true)) (fun K => Calls prog 171 #[t_25, t_27] w (Ret fun s_46 w => K s_46 w)) w fun t_29 w =>
          gate (some (t_17, true)) (fun K => pvv prog (Op.unary .not t_29) w K) w fun t_30 w =>
          pv prog (oPick t_17 t_30 (.bool false)) w fun t_31 w =>
          cd t_31 (
            Calls prog 172 #[data_p0, a_0, b_1, pivot_15] w (Ret fun t_32 w =>
            again_5 [t_32, b_1, limit_11, wasBalanced_3, wasPartitioned_4] w)) <|
          Calls prog 173 #[data_p0, a_0, b_1, pivot_15] w (Ret fun t_33 w =>
          pvv prog (Instr.extract t_33 0) w fun t_34 w =>
          pvv prog (Instr.extract t_33 1) w fun t_35 w =>
          pvv prog (binOp .sub 3 t_34 a_0) w fun t_36 w =>
          pvv prog (binOp .sub 3 b_1 t_34) w fun t_37 w =>
          pvv prog (binOp .quo 3 t_6 (.int .i64 8)) w fun t_38 w =>
          pvv prog (binOp .lss 3 t_36 t_37) w fun t_39 w =>
          cd t_39 (
            pvv prog (binOp .geq 3 t_36 t_38) w fun t_40 w =>
            Calls prog 143 #[data_p0, a_0, t_34, limit_11] w (Ret fun t_41 w =>
            pvv prog (binOp .add 3 t_34 (.int .i64 1)) w fun t_42 w =>
            again_5 [t_42, b_1, limit_11, t_40, t_35] w)) <|
          pvv prog (binOp .geq 3 t_37 t_38) w fun t_43 w =>
          pvv prog (binOp .add 3 t_34 (.int .i64 1)) w fun t_44 w =>
          Calls prog 143 #[data_p0, t_44, b_1, limit_11] w (Ret fun t_45 w =>
          again_5 [a_0, t_34, limit_11, t_43, t_35] w))) fun k_47 =>
        gate (some (wasBalanced_3, true)) (fun K => K wasPartitioned_4 w) w fun t_48 w =>
        pv prog (oPick wasBalanced_3 t_48 (.bool false)) w fun t_49 w =>
        gate (some (t_49, true)) (fun K => K hint_16 w) w fun t_50 w =>
        gate (some (t_49, true)) (fun K => pvv prog (oEq .eql 161 (.tmp 66) (.const (.int .i64 1)) t_50 (.int .i64 1)) w K) w fun t_51 w =>
        pv prog (oPick t_49 t_51 (.bool false)) w fun t_52 w =>
        cd t_52 (
          Calls prog 170 #[data_p0, a_0, b_1] w (Ret fun t_53 w =>
          cd t_53 (
            K (.tuple #[]) w) <|
          k_47 [] w)) <|
        k_47 [] w) fun k_54 =>
      pvv prog (oEq .eql 161 (.tmp 49) (.const (.int .i64 2)) t_14 (.int .i64 2)) w fun t_55 w =>
      cd t_55 (
        Calls prog 169 #[data_p0, a_0, b_1] w (Ret fun t_56 w =>
        pvv prog (binOp .sub 3 b_1 (.int .i64 1)) w fun t_57 w =>
        pvv prog (binOp .sub 3 t_13 a_0) w fun t_58 w =>
        pvv prog (binOp .sub 3 t_57 t_58) w fun t_59 w =>
        k_54 [t_59, (.int .i64 1)] w)) <|
      k_54 [t_13, t_14] w)) fun k_60 =>
    pvv prog (Op.unary .not wasBalanced_3) w fun t_61 w =>
    cd t_61 (
      Calls prog 167 #[data_p0, a_0, b_1] w (Ret fun t_62 w =>
      pvv prog (binOp .sub 3 limit_2 (.int .i64 1)) w fun t_63 w =>
      k_60 [t_63] w)) <|
    k_60 [limit_2] w) [a_p1, b_p2, limit_p3, (.bool true), (.bool true)] w
theorem B143_eq (data_p0 a_p1 b_p2 limit_p3 : Value) (w : World) (K : Value → World → Prop) : denFn prog Tryz.f143 T143 [data_p0, a_p1, b_p2, limit_p3] w K = B143 data_p0 a_p1 b_p2 limit_p3 w K := by kernel_rfl
theorem c143 {data_p0 a_p1 b_p2 limit_p3 : Value} {w : World} {K : Value → World → Prop} (h : B143 data_p0 a_p1 b_p2 limit_p3 w K) : Calls prog 143 #[data_p0, a_p1, b_p2, limit_p3] w (Ret K) :=
  denFn_calls Tryz.func143 T143_ok (Eq.mpr (B143_eq data_p0 a_p1 b_p2 limit_p3 w K) h)

-- 14 (*holdfast/audit.Chain).Verify
def T14 : Ann := (.seq .none (.seq (.seq .none (.seq (.seq .none .none) .none)) (.seq .none (.seq (.seq .none (.block (.range .none (.block (.seq (.seq (.draw [.op 0 .pure, .op 1 .load, .op 2 .load, .op 3 .pure, .op 4 .pure, .op 5 .pure, .op 6 .load, .op 7 .pure, .op 8 .pure, .op 9 .load, .op 10 .load, .op 11 .pure, .op 12 .pure, .op 13 .load, .op 14 .pure, .op 15 .pure]) (.seq (.seq .none .none) .none)) .none))))) (.seq (.seq (.draw [.op 0 .pure, .op 1 .load, .op 2 .load, .op 3 .pure, .op 4 .pure, .op 5 .load, .op 6 .pure]) (.seq (.seq .none .none) .none)) (.seq .none .none))))))
theorem T14_ok : chkFn prog Tryz.f14 T14 = true := by kernel_rfl
def B14 (c_p0 : Value) (w : World) (K : Value → World → Prop) : Prop :=
  efv prog (Instr.box 23 c_p0) w fun c_0 w =>
  efv prog (Instr.alloc 32 true (.tuple #[])) w fun t_1 w =>
  ldv prog (Instr.loadAt 23 c_0) w fun t_2 w =>
  pvv prog (oEq .eql 23 (.tmp 5) (.const (.pointer none)) t_2 (.pointer none)) w fun t_3 w =>
  cd t_3 (
    efu prog (Instr.storeAt 32 t_1 (.int .i64 1)) w fun u_4 w =>
    ∃ r_5, (do loadVar 32 (← asAddr t_1)).run prog w = .ok r_5 w ∧ K r_5 w) <|
  efv prog (Instr.alloc 66 true (.tuple #[])) w fun last_6 w =>
  ldv prog (Instr.loadAt 23 c_0) w fun t_7 w =>
  Calls prog 37 #[t_7] w (Ret fun t_8 w =>
  rng prog 1 t_8 (fun σ w bg_10 ex_11 => pop σ fun t_9 σ => fin σ <|
    efv prog (Instr.alloc 66 true (.tuple #[])) w fun p_12 w =>
    efu prog (Instr.storeAt 66 p_12 t_9) w fun u_13 w =>
    bg_10 w fun w =>
    dr w fun w =>
    pvv prog (Instr.fieldAt 66 p_12 0) w fun t_14 w =>
    bindS (vN (Instr.loadAt 3 t_14)) fun m_16 => ldv prog (Instr.loadAt 3 t_14) w fun t_15 w =>
    bindS (vN (Instr.loadAt 23 c_0)) fun m_18 => ldv prog (Instr.loadAt 23 c_0) w fun t_17 w =>
    pv prog (oNil t_17) w fun t_19 w =>
    pvv prog (Instr.fieldAt 69 t_19 1) w fun t_20 w =>
    pvv prog (Instr.fieldAt 66 t_20 0) w fun t_21 w =>
    bindS (vN (Instr.loadAt 3 t_21)) fun m_23 => ldv prog (Instr.loadAt 3 t_21) w fun t_22 w =>
    pvv prog (oEq .eql 3 (.tmp 11) (.tmp 16) t_15 t_22) w fun t_24 w =>
    bindS (vN (Instr.loadAt 66 p_12)) fun m_26 => gate (some (t_24, true)) (fun K => ldv prog (Instr.loadAt 66 p_12) w K) w fun t_25 w =>
    bindS (vN (Instr.loadAt 23 c_0)) fun m_28 => gate (some (t_24, true)) (fun K => ldv prog (Instr.loadAt 23 c_0) w K) w fun t_27 w =>
    gate (some (t_24, true)) (fun K => pv prog (oNil t_27) w K) w fun t_29 w =>
    gate (some (t_24, true)) (fun K => pvv prog (Instr.fieldAt 69 t_29 1) w K) w fun t_30 w =>
    bindS (vN (Instr.loadAt 66 t_30)) fun m_32 => gate (some (t_24, true)) (fun K => ldv prog (Instr.loadAt 66 t_30) w K) w fun t_31 w =>
    gate (some (t_24, true)) (fun K => pvv prog (oEq .neq 66 (.tmp 19) (.tmp 23) t_25 t_31) w K) w fun t_33 w =>
    pv prog (oPick t_24 t_33 (.bool false)) w fun t_34 w =>
    cd t_34 (
      efu prog (Instr.storeAt 32 t_1 (.int .i64 15)) w fun u_35 w =>
      ex_11 .ret w) <|
    ldv prog (Instr.loadAt 66 p_12) w fun t_36 w =>
    efu prog (Instr.storeAt 66 last_6 t_36) w fun u_37 w =>
    ex_11 .normal w) w fun p_39 D_38 w =>
  jump (
    dr w fun w =>
    pvv prog (Instr.fieldAt 66 last_6 1) w fun t_40 w =>
    bindS (vN (Instr.loadAt 28 t_40)) fun m_42 => ldv prog (Instr.loadAt 28 t_40) w fun t_41 w =>
    bindS (vN (Instr.loadAt 23 c_0)) fun m_44 => ldv prog (Instr.loadAt 23 c_0) w fun t_43 w =>
    pv prog (oNil t_43) w fun t_45 w =>
    pvv prog (Instr.fieldAt 69 t_45 2) w fun t_46 w =>
    bindS (vN (Instr.loadAt 28 t_46)) fun m_48 => ldv prog (Instr.loadAt 28 t_46) w fun t_47 w =>
    pvv prog (oEq .neq 28 (.tmp 28) (.tmp 32) t_41 t_47) w fun t_49 w =>
    cd t_49 (
      efu prog (Instr.storeAt 32 t_1 (.int .i64 15)) w fun u_50 w =>
      und [D_38] w fun w => ∃ r_51, (do loadVar 32 (← asAddr t_1)).run prog w = .ok r_51 w ∧ K r_51 w) <|
    efu prog (Instr.storeAt 32 t_1 (.int .i64 0)) w fun u_52 w =>
    und [D_38] w fun w => ∃ r_53, (do loadVar 32 (← asAddr t_1)).run prog w = .ok r_53 w ∧ K r_53 w) (
    und [D_38] w fun w => ∃ r_54, (do loadVar 32 (← asAddr t_1)).run prog w = .ok r_54 w ∧ K r_54 w) [] p_39)
theorem B14_eq (c_p0 : Value) (w : World) (K : Value → World → Prop) : denFn prog Tryz.f14 T14 [c_p0] w K = B14 c_p0 w K := by kernel_rfl
theorem c14 {c_p0 : Value} {w : World} {K : Value → World → Prop} (h : B14 c_p0 w K) : Calls prog 14 #[c_p0] w (Ret K) :=
  denFn_calls Tryz.func14 T14_ok (Eq.mpr (B14_eq c_p0 w K) h)

-- 22 (*holdfast/cred.Book).Try
def T22 : Ann := (.seq .none (.seq .none (.meet 8589869120 [] (.block (.seq .none (.seq (.seq .none .none) (.seq .none (.seq (.seq .none .none) (.seq .none (.seq .none .none))))))) (.meet 140728898420992 [8] (.seq .none (.seq (.seq .none .none) .none)) (.seq (.draw [.op 0 .pure, .op 1 .pure, .op 2 .pure, .op 3 .load, .op 4 .load, .op 5 .load, .op 6 .eff]) (.seq .none .none))))))
theorem T22_ok : chkFn prog Tryz.f22 T22 = true := by kernel_rfl
def B22 (b_p0 o_p1 now_p2 : Value) (w : World) (K : Value → World → Prop) : Prop :=
  efv prog (Instr.box 54 o_p1) w fun o_0 w =>
  ldv prog (Instr.loadAt 54 o_0) w fun t_1 w =>
  Calls prog 45 #[b_p0, t_1, now_p2] w (Ret fun t_2 w =>
  pvv prog (Instr.extract t_2 0) w fun t_3 w =>
  pvv prog (Instr.extract t_2 1) w fun t_4 w =>
  efv prog (Instr.alloc 105 true (.tuple #[])) w fun r_5 w =>
  efu prog (Instr.storeAt 105 r_5 t_3) w fun u_6 w =>
  jn (fun σ w => fin σ <|
    jn (fun σ w => pop σ fun e_7 σ => fin σ <|
      dr w fun w =>
      pv prog (oNil b_p0) w fun t_8 w =>
      pvv prog (Instr.fieldAt 100 t_8 0) w fun t_9 w =>
      bindS (vN (Instr.loadAt 98 t_9)) fun m_11 => ldv prog (Instr.loadAt 98 t_9) w fun t_10 w =>
      bindS (vN (Instr.loadAt 54 o_0)) fun m_13 => ldv prog (Instr.loadAt 54 o_0) w fun t_12 w =>
      bindS (vN (Instr.loadAt 105 r_5)) fun m_15 => ldv prog (Instr.loadAt 105 r_5) w fun t_14 w =>
      efu prog (Instr.mapUpdate 98 t_10 t_12 t_14) w fun u_16 w =>
      K e_7 w) fun k_18 =>
    pvv prog (Instr.fieldAt 105 r_5 0) w fun t_19 w =>
    pvv prog (Instr.fieldAt 102 t_19 0) w fun t_20 w =>
    ldv prog (Instr.loadAt 3 t_20) w fun t_21 w =>
    pvv prog (binOp .geq 3 t_21 (.int .i64 3)) w fun t_22 w =>
    cd t_22 (
      pvv prog (binOp .add 3 now_p2 (.int .i64 100)) w fun t_23 w =>
      pvv prog (Instr.fieldAt 105 r_5 0) w fun t_24 w =>
      pvv prog (Instr.fieldAt 102 t_24 1) w fun t_25 w =>
      efu prog (Instr.storeAt 3 t_25 t_23) w fun u_26 w =>
      k_18 [(.int .i64 11)] w) <|
    pvv prog (Instr.fieldAt 105 r_5 0) w fun t_27 w =>
    pvv prog (Instr.fieldAt 102 t_27 0) w fun t_28 w =>
    ldv prog (Instr.loadAt 3 t_28) w fun t_29 w =>
    pvv prog (binOp .add 3 t_29 (.int .i64 1)) w fun t_30 w =>
    pvv prog (Instr.fieldAt 105 r_5 0) w fun t_31 w =>
    pvv prog (Instr.fieldAt 102 t_31 0) w fun t_32 w =>
    efu prog (Instr.storeAt 3 t_32 t_30) w fun u_33 w =>
    k_18 [t_4] w) fun k_34 =>
  pvv prog (oEq .neq 32 (.tmp 17) (.const (.int .i64 0)) t_4 (.int .i64 0)) w fun t_35 w =>
  cd t_35 (
    K t_4 w) <|
  pvv prog (Instr.fieldAt 105 r_5 0) w fun t_36 w =>
  pvv prog (Instr.fieldAt 102 t_36 1) w fun t_37 w =>
  ldv prog (Instr.loadAt 3 t_37) w fun t_38 w =>
  pvv prog (binOp .lss 3 now_p2 t_38) w fun t_39 w =>
  cd t_39 (
    K (.int .i64 11) w) <|
  pvv prog (Instr.fieldAt 105 r_5 0) w fun t_40 w =>
  pvv prog (Instr.fieldAt 102 t_40 1) w fun t_41 w =>
  ldv prog (Instr.loadAt 3 t_41) w fun t_42 w =>
  pvv prog (oEq .neq 3 (.tmp 29) (.const (.int .i64 0)) t_42 (.int .i64 0)) w fun t_43 w =>
  cd t_43 (
    pvv prog (Instr.build 102 #[]) w fun t_44 w =>
    pvv prog (Instr.fieldAt 105 r_5 0) w fun t_45 w =>
    efu prog (Instr.storeAt 102 t_45 t_44) w fun u_46 w =>
    k_34 [] w) <|
  k_34 [] w)
theorem B22_eq (b_p0 o_p1 now_p2 : Value) (w : World) (K : Value → World → Prop) : denFn prog Tryz.f22 T22 [b_p0, o_p1, now_p2] w K = B22 b_p0 o_p1 now_p2 w K := by kernel_rfl
theorem c22 {b_p0 o_p1 now_p2 : Value} {w : World} {K : Value → World → Prop} (h : B22 b_p0 o_p1 now_p2 w K) : Calls prog 22 #[b_p0, o_p1, now_p2] w (Ret K) :=
  denFn_calls Tryz.func22 T22_ok (Eq.mpr (B22_eq b_p0 o_p1 now_p2 w K) h)

-- 90 strings.genSplit
def T90 : Ann := (.seq .none (.seq (.seq .none (.seq (.seq .none .none) .none)) (.seq (.seq .none (.seq (.seq .none .none) .none)) (.meet 33030152 [3] (.seq .none (.seq .none .none)) (.seq .none (.seq .none (.seq .none (.seq .none (.meet 288230358971845633 [0, 10] (.block (.loop 288230358971845633 [0, 10] (.seq (.seq .none (.seq .none .none)) (.block (.seq .none (.seq (.seq .none (.seq .none .none)) (.seq .none (.seq .none .none)))))))) (.seq .none (.seq .none .none)))))))))))
theorem T90_ok : chkFn prog Tryz.f90 T90 = true := by kernel_rfl
def B90 (s_p0 sep_p1 sepSave_p2 n_p3 : Value) (w : World) (K : Value → World → Prop) : Prop :=
  pvv prog (oEq .eql 3 (.tmp 12) (.const (.int .i64 0)) n_p3 (.int .i64 0)) w fun t_0 w =>
  cd t_0 (
    K (.slice none 0 0) w) <|
  pvv prog (oEq .eql 9 (.tmp 14) (.const (.string ⟨#[]⟩)) sep_p1 (.string ⟨#[]⟩)) w fun t_1 w =>
  cd t_1 (
    Calls prog 114 #[s_p0, n_p3] w (Ret fun t_2 w =>
    K t_2 w)) <|
  jn (fun σ w => pop σ fun n_3 σ => fin σ <|
    pv prog (oBi .len #[9] 3 #[false] #[s_p0]) w fun t_4 w =>
    pvv prog (binOp .add 3 t_4 (.int .i64 1)) w fun t_5 w =>
    pv prog (oBi .min #[3, 3] 3 #[false, false] #[n_3, t_5]) w fun t_6 w =>
    efv prog (Instr.makeSlice 39 t_6 t_6) w fun t_7 w =>
    pvv prog (binOp .sub 3 t_6 (.int .i64 1)) w fun t_8 w =>
    jn (fun σ w => pop σ fun s_9 σ => pop σ fun i_10 σ => fin σ <|
      pvv prog (Instr.indexAt 39 t_7 i_10) w fun t_11 w =>
      efu prog (Instr.storeAt 9 t_11 s_9) w fun u_12 w =>
      pvv prog (binOp .add 3 i_10 (.int .i64 1)) w fun t_13 w =>
      pvv prog (Instr.sliceAt 39 t_7 none (some t_13) none) w fun t_14 w =>
      K t_14 w) fun k_15 =>
    lp (fun σ w again_18 => pop σ fun s_16 σ => pop σ fun i_17 σ => fin σ <|
      pvv prog (binOp .lss 3 i_17 t_8) w fun t_19 w =>
      cd t_19 (
        Calls prog 116 #[s_16, sep_p1] w (Ret fun t_20 w =>
        pvv prog (binOp .lss 3 t_20 (.int .i64 0)) w fun t_21 w =>
        cd t_21 (
          k_15 [s_16, i_17] w) <|
        pvv prog (binOp .add 3 t_20 sepSave_p2) w fun t_22 w =>
        pvv prog (Instr.sliceAt 9 s_16 none (some t_22) none) w fun t_23 w =>
        pvv prog (Instr.indexAt 39 t_7 i_17) w fun t_24 w =>
        efu prog (Instr.storeAt 9 t_24 t_23) w fun u_25 w =>
        pv prog (oBi .len #[9] 3 #[false] #[sep_p1]) w fun t_26 w =>
        pvv prog (binOp .add 3 t_20 t_26) w fun t_27 w =>
        pvv prog (Instr.sliceAt 9 s_16 (some t_27) none none) w fun t_28 w =>
        pvv prog (binOp .add 3 i_17 (.int .i64 1)) w fun t_29 w =>
        again_18 [t_28, t_29] w)) <|
      k_15 [s_16, i_17] w) [s_p0, (.int .i64 0)] w) fun k_30 =>
  pvv prog (binOp .lss 3 n_p3 (.int .i64 0)) w fun t_31 w =>
  cd t_31 (
    Calls prog 115 #[s_p0, sep_p1] w (Ret fun t_32 w =>
    pvv prog (binOp .add 3 t_32 (.int .i64 1)) w fun t_33 w =>
    k_30 [t_33] w)) <|
  k_30 [n_p3] w
theorem B90_eq (s_p0 sep_p1 sepSave_p2 n_p3 : Value) (w : World) (K : Value → World → Prop) : denFn prog Tryz.f90 T90 [s_p0, sep_p1, sepSave_p2, n_p3] w K = B90 s_p0 sep_p1 sepSave_p2 n_p3 w K := by kernel_rfl
theorem c90 {s_p0 sep_p1 sepSave_p2 n_p3 : Value} {w : World} {K : Value → World → Prop} (h : B90 s_p0 sep_p1 sepSave_p2 n_p3 w K) : Calls prog 90 #[s_p0, sep_p1, sepSave_p2, n_p3] w (Ret K) :=
  denFn_calls Tryz.func90 T90_ok (Eq.mpr (B90_eq s_p0 sep_p1 sepSave_p2 n_p3 w K) h)

-- 21 holdfast/cred.Load
def T21 : Ann := (.seq .none (.seq .none (.seq (.seq .none (.block (.loop 34359737452 [10] (.seq .none (.seq (.seq .none .none) (.seq (.block (.seq .none (.seq (.draw [.op 0 .pure, .op 1 .pure, .op 2 .pure, .op 3 .pure, .op 4 .pure, .op 5 .pure, .op 6 .pure, .op 7 .pure, .op 9 .pure, .op 8 .load, .op 10 .load, .op 11 .pure, .op 12 .pure, .op 13 .pure, .op 14 .pure, .op 15 .load, .op 16 .eff, .op 17 .pure, .op 18 .pure]) (.seq (.seq .none .none) .none)))) .none)))))) (.seq .none .none))))
theorem T21_ok : chkFn prog Tryz.f21 T21 = true := by kernel_rfl
def B21 (rows_p0 : Value) (w : World) (K : Value → World → Prop) : Prop :=
  Calls prog 16 #[] w (Ret fun t_0 w =>
  pv prog (oBi .len #[37] 3 #[false] #[rows_p0]) w fun t_1 w =>
  lp (fun σ w again_3 => pop σ fun t_2 σ => fin σ <|
    pvv prog (binOp .lss 3 t_2 t_1) w fun t_4 w =>
    cd t_4 (
      pvv prog (Instr.indexAt 37 rows_p0 t_2) w fun t_5 w =>
      ldv prog (Instr.loadAt 41 t_5) w fun t_6 w =>
      efv prog (Instr.alloc 41 true (.tuple #[])) w fun r_7 w =>
      efu prog (Instr.storeAt 41 r_7 t_6) w fun u_8 w =>
      dr w fun w =>
      pvv prog (binOp .gtr 3 t_2 (.int .i64 0)) w fun t_9 w =>
      gate (some (t_9, true)) (fun K => K rows_p0 w) w fun t_10 w =>
      gate (some (t_9, true)) (fun K => K t_2 w) w fun t_11 w =>
      gate (some (t_9, true)) (fun K => pvv prog (binOp .sub 3 t_11 (.int .i64 1)) w K) w fun t_12 w =>
      gate (some (t_9, true)) (fun K => pvv prog (Instr.indexAt 37 t_10 t_12) w K) w fun t_13 w =>
      gate (some (t_9, true)) (fun K => pvv prog (Instr.fieldAt 41 t_13 0) w K) w fun t_14 w =>
      gate (some (t_9, true)) (fun K => pvv prog (Instr.fieldAt 41 r_7 0) w K) w fun t_15 w =>
      bindS (vN (Instr.loadAt 9 t_14)) fun m_17 => gate (some (t_9, true)) (fun K => ldv prog (Instr.loadAt 9 t_14) w K) w fun t_16 w =>
      bindS (vN (Instr.loadAt 9 t_15)) fun m_19 => gate (some (t_9, true)) (fun K => ldv prog (Instr.loadAt 9 t_15) w K) w fun t_18 w =>
      gate (some (t_9, true)) (fun K => pvv prog (binOp .geq 9 t_16 t_18) w K) w fun t_20 w =>
      pv prog (oPick t_9 t_20 (.bool false)) w fun t_21 w =>
      gate (some (t_21, false)) (fun K => K t_0 w) w fun t_22 w =>
      bindS (vN (Instr.loadAt 41 r_7)) fun m_24 => gate (some (t_21, false)) (fun K => ldv prog (Instr.loadAt 41 r_7) w K) w fun t_23 w =>
      gate (some (t_21, false)) (fun K => Calls prog 44 #[t_22, t_23] w (Ret fun s_29 w => stay prog (some (t_9, true)) m_19 t_18 w <| stay prog (some (t_9, true)) m_17 t_16 w <| K s_29 w)) w fun t_25 w =>
      gate (some (t_21, false)) (fun K => pvv prog (Op.unary .not t_25) w K) w fun t_26 w =>
      pv prog (oPick t_21 (.bool true) t_26) w fun t_27 w =>
      cd t_27 (
        K (.tuple #[(.pointer none), (.int .i64 3)]) w) <|
      pvv prog (binOp .add 3 t_2 (.int .i64 1)) w fun t_28 w =>
      again_3 [t_28] w) <|
    K (.tuple #[t_0, (.int .i64 0)]) w) [(.int .i64 0)] w)
theorem B21_eq (rows_p0 : Value) (w : World) (K : Value → World → Prop) : denFn prog Tryz.f21 T21 [rows_p0] w K = B21 rows_p0 w K := by kernel_rfl
theorem c21 {rows_p0 : Value} {w : World} {K : Value → World → Prop} (h : B21 rows_p0 w K) : Calls prog 21 #[rows_p0] w (Ret K) :=
  denFn_calls Tryz.func21 T21_ok (Eq.mpr (B21_eq rows_p0 w K) h)

-- 60 (*holdfast/audit.Chain).links$1
def T60 : Ann := (.seq .none (.seq (.seq .none (.seq .none .none)) (.seq .none (.block (.loop 68718952480 [19] (.seq .none (.seq (.seq .none .none) (.seq (.block (.seq .none (.seq (.draw [.op 0 .pure, .op 3 .pure, .op 1 .load, .op 2 .pure, .op 4 .load, .op 5 .load, .op 6 .eff, .op 7 .pure, .op 8 .eff]) (.seq .none (.seq .none .none))))) .none))))))))
theorem T60_ok : chkFn prog Tryz.f60 T60 = true := by kernel_rfl
def B60 (yield_p0 x_p1 : Value) (w : World) (K : Value → World → Prop) : Prop :=
  ldv prog (Instr.loadAt 23 x_p1) w fun t_0 w =>
  pv prog (oNil t_0) w fun t_1 w =>
  pvv prog (Instr.fieldAt 69 t_1 0) w fun t_2 w =>
  ldv prog (Instr.loadAt 66 t_2) w fun t_3 w =>
  efv prog (Instr.alloc 66 true (.tuple #[])) w fun p_4 w =>
  efu prog (Instr.storeAt 66 p_4 t_3) w fun u_5 w =>
  ldv prog (Instr.loadAt 66 p_4) w fun t_6 w =>
  ef prog (oCall yield_p0 #[t_6]) w fun t_7 w =>
  pvv prog (Op.unary .not t_7) w fun t_8 w =>
  cd t_8 (
    K (.tuple #[]) w) <|
  ldv prog (Instr.loadAt 23 x_p1) w fun t_9 w =>
  pv prog (oNil t_9) w fun t_10 w =>
  pvv prog (Instr.fieldAt 69 t_10 4) w fun t_11 w =>
  ldv prog (Instr.loadAt 67 t_11) w fun t_12 w =>
  pv prog (oBi .len #[67] 3 #[false] #[t_12]) w fun t_13 w =>
  lp (fun σ w again_15 => pop σ fun t_14 σ => fin σ <|
    pvv prog (binOp .lss 3 t_14 t_13) w fun t_16 w =>
    cd t_16 (
      pvv prog (Instr.indexAt 67 t_12 t_14) w fun t_17 w =>
      ldv prog (Instr.loadAt 31 t_17) w fun t_18 w =>
      efv prog (Instr.alloc 31 true (.tuple #[])) w fun x_19 w =>
      efu prog (Instr.storeAt 31 x_19 t_18) w fun u_20 w =>
      dr w fun w =>
      pvv prog (Instr.fieldAt 66 p_4 0) w fun t_21 w =>
      pvv prog (Instr.fieldAt 66 p_4 1) w fun t_22 w =>
      bindS (vN (Instr.loadAt 3 t_21)) fun m_24 => ldv prog (Instr.loadAt 3 t_21) w fun t_23 w =>
      pvv prog (binOp .add 3 t_23 (.int .i64 1)) w fun t_25 w =>
      bindS (vN (Instr.loadAt 28 t_22)) fun m_27 => ldv prog (Instr.loadAt 28 t_22) w fun t_26 w =>
      bindS (vN (Instr.loadAt 31 x_19)) fun m_29 => ldv prog (Instr.loadAt 31 x_19) w fun t_28 w =>
      Calls prog 28 #[t_26, t_28] w (Ret fun t_30 w => stay prog none m_24 t_23 w <| 
      pvv prog (Instr.build 66 #[(0, t_25), (1, t_30)]) w fun t_31 w =>
      efu prog (Instr.storeAt 66 p_4 t_31) w fun u_32 w =>
      ldv prog (Instr.loadAt 66 p_4) w fun t_33 w =>
      ef prog (oCall yield_p0 #[t_33]) w fun t_34 w =>
      pvv prog (Op.unary .not t_34) w fun t_35 w =>
      cd t_35 (
        K (.tuple #[]) w) <|
      pvv prog (binOp .add 3 t_14 (.int .i64 1)) w fun t_36 w =>
      again_15 [t_36] w)) <|
    K (.tuple #[]) w) [(.int .i64 0)] w
theorem B60_eq (yield_p0 x_p1 : Value) (w : World) (K : Value → World → Prop) : denFn prog Tryz.f60 T60 [yield_p0, x_p1] w K = B60 yield_p0 x_p1 w K := by kernel_rfl
theorem c60 {yield_p0 x_p1 : Value} {w : World} {K : Value → World → Prop} (h : B60 yield_p0 x_p1 w K) : Calls prog 60 #[yield_p0, x_p1] w (Ret K) :=
  denFn_calls Tryz.func60 T60_ok (Eq.mpr (B60_eq yield_p0 x_p1 w K) h)

-- 92 internal/strconv.FormatInt
def T92 : Ann := (.seq .none (.seq (.seq .none (.seq (.seq (.seq .none (.seq (.seq .none .none) .none)) (.seq .none (.seq .none (.meet 62914624 [6] (.seq .none (.seq .none .none)) (.seq .none (.seq .none (.seq (.seq .none (.seq (.seq .none (.seq .none .none)) .none)) (.seq .none .none)))))))) .none)) (.seq .none (.seq .none .none))))
theorem T92_ok : chkFn prog Tryz.f92 T92 = true := by kernel_rfl
def B92 (i_p0 base_p1 : Value) (w : World) (K : Value → World → Prop) : Prop :=
  pvv prog (oEq .eql 3 (.tmp 10) (.const (.int .i64 10)) base_p1 (.int .i64 10)) w fun t_0 w =>
  cd t_0 (
    pvv prog (binOp .leq 2 (.int .i64 0) i_p0) w fun t_1 w =>
    gate (some (t_1, true)) (fun K => K i_p0 w) w fun t_2 w =>
    gate (some (t_1, true)) (fun K => pvv prog (binOp .lss 2 t_2 (.int .i64 100)) w K) w fun t_3 w =>
    pv prog (oPick t_1 t_3 (.bool false)) w fun t_4 w =>
    cd t_4 (
      Calls prog 117 #[i_p0] w (Ret fun t_5 w =>
      K t_5 w)) <|
    efv prog (Instr.alloc 192 true (.tuple #[])) w fun a_6 w =>
    pvv prog (convert 2 79 i_p0) w fun t_7 w =>
    jn (fun σ w => pop σ fun u_8 σ => fin σ <|
      Calls prog 118 #[u_8] w (Ret fun t_9 w =>
      pvv prog (binOp .add 3 (.int .i64 1) t_9) w fun t_10 w =>
      pvv prog (Instr.sliceAt 192 a_6 (some (.int .i64 1)) (some t_10) none) w fun t_11 w =>
      Calls prog 119 #[t_11, u_8] w (Ret fun t_12 w =>
      pvv prog (binOp .lss 2 i_p0 (.int .i64 0)) w fun t_13 w =>
      cd t_13 (
        pvv prog (Instr.indexAt 192 a_6 (.int .i64 0)) w fun t_14 w =>
        efu prog (Instr.storeAt 5 t_14 (.int .u8 45)) w fun u_15 w =>
        pvv prog (binOp .add 3 (.int .i64 1) t_9) w fun t_16 w =>
        pvv prog (Instr.sliceAt 192 a_6 none (some t_16) none) w fun t_17 w =>
        efv prog (convert 22 9 t_17) w fun t_18 w =>
        K t_18 w) <|
      pvv prog (binOp .add 3 (.int .i64 1) t_9) w fun t_19 w =>
      pvv prog (Instr.sliceAt 192 a_6 (some (.int .i64 1)) (some t_19) none) w fun t_20 w =>
      efv prog (convert 22 9 t_20) w fun t_21 w =>
      K t_21 w))) fun k_22 =>
    pvv prog (binOp .lss 2 i_p0 (.int .i64 0)) w fun t_23 w =>
    cd t_23 (
      pvv prog (Op.unary .neg t_7) w fun t_24 w =>
      k_22 [t_24] w) <|
    k_22 [t_7] w) <|
  pvv prog (convert 2 79 i_p0) w fun t_25 w =>
  pvv prog (binOp .lss 2 i_p0 (.int .i64 0)) w fun t_26 w =>
  Calls prog 120 #[(.slice none 0 0), t_25, base_p1, t_26, (.bool false)] w (Ret fun t_27 w =>
  pvv prog (Instr.extract t_27 0) w fun t_28 w =>
  pvv prog (Instr.extract t_27 1) w fun t_29 w =>
  K t_29 w)
theorem B92_eq (i_p0 base_p1 : Value) (w : World) (K : Value → World → Prop) : denFn prog Tryz.f92 T92 [i_p0, base_p1] w K = B92 i_p0 base_p1 w K := by kernel_rfl
theorem c92 {i_p0 base_p1 : Value} {w : World} {K : Value → World → Prop} (h : B92 i_p0 base_p1 w K) : Calls prog 92 #[i_p0, base_p1] w (Ret K) :=
  denFn_calls Tryz.func92 T92_ok (Eq.mpr (B92_eq i_p0 base_p1 w K) h)

-- 19 (*holdfast/keys.Tree).Rotate
def T19 : Ann := (.seq .none (.seq .none (.seq (.block (.seq .none (.seq (.seq .none .none) (.seq .none (.seq (.seq .none .none) .none))))) (.seq .none (.seq .none .none)))))
theorem T19_ok : chkFn prog Tryz.f19 T19 = true := by kernel_rfl
def B19 (t_p0 tenant_p1 name_p2 : Value) (w : World) (K : Value → World → Prop) : Prop :=
  Calls prog 31 #[t_p0, tenant_p1, name_p2] w (Ret fun t_0 w =>
  pvv prog (Instr.extract t_0 0) w fun t_1 w =>
  pvv prog (Instr.extract t_0 1) w fun t_2 w =>
  pvv prog (oEq .neq 32 (.tmp 18) (.const (.int .i64 0)) t_2 (.int .i64 0)) w fun t_3 w =>
  cd t_3 (
    K (.tuple #[(.int .i64 0), t_2]) w) <|
  pvv prog (binOp .geq 3 t_1 (.int .i64 16)) w fun t_4 w =>
  gate (some (t_4, false)) (fun K => K t_1 w) w fun t_5 w =>
  gate (some (t_4, false)) (fun K => pvv prog (oEq .eql 3 (.tmp 25) (.const (.int .i64 1)) t_5 (.int .i64 1)) w K) w fun t_6 w =>
  gate (some (t_4, false)) (fun K => K t_6 w) w fun t_7 w =>
  gate (some (t_7, true)) (fun K => K t_p0 w) w fun t_8 w =>
  gate (some (t_7, true)) (fun K => pv prog (oNil t_8) w K) w fun t_9 w =>
  gate (some (t_7, true)) (fun K => pvv prog (Instr.fieldAt 73 t_9 3) w K) w fun t_10 w =>
  gate (some (t_7, true)) (fun K => ldv prog (Instr.loadAt 71 t_10) w K) w fun t_11 w =>
  gate (some (t_7, true)) (fun K => ld prog (oBi .len #[71] 3 #[false] #[t_11]) w K) w fun t_12 w =>
  gate (some (t_7, true)) (fun K => pvv prog (binOp .geq 3 t_12 (.int .i64 16)) w K) w fun t_13 w =>
  gate (some (t_4, false)) (fun K => pv prog (oPick t_7 t_13 (.bool false)) w K) w fun t_14 w =>
  pv prog (oPick t_4 (.bool true) t_14) w fun t_15 w =>
  cd t_15 (
    K (.tuple #[(.int .i64 0), (.int .i64 7)]) w) <|
  pv prog (oNil t_p0) w fun t_16 w =>
  pvv prog (Instr.fieldAt 73 t_16 3) w fun t_17 w =>
  ldv prog (Instr.loadAt 71 t_17) w fun t_18 w =>
  pvv prog (Instr.build 114 #[(0, tenant_p1), (1, name_p2)]) w fun t_19 w =>
  pvv prog (binOp .add 3 t_1 (.int .i64 1)) w fun t_20 w =>
  efu prog (Instr.mapUpdate 71 t_18 t_19 t_20) w fun u_21 w =>
  pvv prog (binOp .add 3 t_1 (.int .i64 1)) w fun t_22 w =>
  K (.tuple #[t_22, (.int .i64 0)]) w)
theorem B19_eq (t_p0 tenant_p1 name_p2 : Value) (w : World) (K : Value → World → Prop) : denFn prog Tryz.f19 T19 [t_p0, tenant_p1, name_p2] w K = B19 t_p0 tenant_p1 name_p2 w K := by kernel_rfl
theorem c19 {t_p0 tenant_p1 name_p2 : Value} {w : World} {K : Value → World → Prop} (h : B19 t_p0 tenant_p1 name_p2 w K) : Calls prog 19 #[t_p0, tenant_p1, name_p2] w (Ret K) :=
  denFn_calls Tryz.func19 T19_ok (Eq.mpr (B19_eq t_p0 tenant_p1 name_p2 w K) h)

-- 50 holdfast/codec.Row
def T50 : Ann := (.seq .none (.seq (.seq .none (.seq (.seq .none .none) .none)) (.seq .none (.seq (.seq .none (.block (.loop 4294901852 [4, 16] (.seq .none (.seq (.seq .none .none) (.seq (.block (.seq .none (.seq (.seq .none (.seq (.seq .none .none) .none)) .none))) .none)))))) (.seq (.seq .none (.seq (.seq .none .none) .none)) (.seq .none .none))))))
theorem T50_ok : chkFn prog Tryz.f50 T50 = true := by kernel_rfl
def B50 (columns_p0 : Value) (w : World) (K : Value → World → Prop) : Prop :=
  pv prog (oBi .len #[39] 3 #[false] #[columns_p0]) w fun t_0 w =>
  pvv prog (binOp .gtr 3 t_0 (.int .i64 8)) w fun t_1 w =>
  cd t_1 (
    K (.tuple #[(.slice none 0 0), (.int .i64 2)]) w) <|
  pv prog (oBi .len #[39] 3 #[false] #[columns_p0]) w fun t_2 w =>
  pvv prog (convert 3 5 t_2) w fun t_3 w =>
  efv prog (Instr.buildSlice 22 1 #[(0, t_3)]) w fun t_4 w =>
  pv prog (oBi .len #[39] 3 #[false] #[columns_p0]) w fun t_5 w =>
  lp (fun σ w again_8 => pop σ fun out_6 σ => pop σ fun t_7 σ => fin σ <|
    pvv prog (binOp .lss 3 t_7 t_5) w fun t_9 w =>
    cd t_9 (
      pvv prog (Instr.indexAt 39 columns_p0 t_7) w fun t_10 w =>
      ldv prog (Instr.loadAt 9 t_10) w fun t_11 w =>
      pv prog (oBi .len #[9] 3 #[false] #[t_11]) w fun t_12 w =>
      pvv prog (binOp .gtr 3 t_12 (.int .i64 70)) w fun t_13 w =>
      cd t_13 (
        K (.tuple #[(.slice none 0 0), (.int .i64 6)]) w) <|
      pv prog (oBi .len #[9] 3 #[false] #[t_11]) w fun t_14 w =>
      pvv prog (convert 3 5 t_14) w fun t_15 w =>
      efv prog (Instr.buildSlice 22 1 #[(0, t_15)]) w fun t_16 w =>
      ef prog (oBi .append #[22, 22] 22 #[false, false] #[out_6, t_16]) w fun t_17 w =>
      ef prog (oBi .append #[22, 9] 22 #[false, false] #[t_17, t_11]) w fun t_18 w =>
      pvv prog (binOp .add 3 t_7 (.int .i64 1)) w fun t_19 w =>
      again_8 [t_18, t_19] w) <|
    pv prog (oBi .len #[22] 3 #[false] #[out_6]) w fun t_20 w =>
    pvv prog (binOp .gtr 3 t_20 (.int .i64 72)) w fun t_21 w =>
    cd t_21 (
      K (.tuple #[(.slice none 0 0), (.int .i64 6)]) w) <|
    K (.tuple #[out_6, (.int .i64 0)]) w) [t_4, (.int .i64 0)] w
theorem B50_eq (columns_p0 : Value) (w : World) (K : Value → World → Prop) : denFn prog Tryz.f50 T50 [columns_p0] w K = B50 columns_p0 w K := by kernel_rfl
theorem c50 {columns_p0 : Value} {w : World} {K : Value → World → Prop} (h : B50 columns_p0 w K) : Calls prog 50 #[columns_p0] w (Ret K) :=
  denFn_calls Tryz.func50 T50_ok (Eq.mpr (B50_eq columns_p0 w K) h)

-- 28 holdfast/audit.next
def T28 : Ann := (.seq .none (.seq (.draw [.op 0 .pure, .op 3 .pure, .op 6 .pure, .op 8 .pure, .op 1 .load, .op 4 .load, .op 7 .load, .op 9 .load, .op 2 .eff, .op 5 .eff, .op 10 .eff, .op 11 .eff, .op 12 .pure, .op 13 .pure, .op 14 .pure, .op 15 .pure, .op 16 .pure]) (.seq .none .none)))
theorem T28_ok : chkFn prog Tryz.f28 T28 = true := by kernel_rfl
def B28 (h_p0 x_p1 : Value) (w : World) (K : Value → World → Prop) : Prop :=
  efv prog (Instr.box 28 h_p0) w fun h_0 w =>
  efv prog (Instr.box 31 x_p1) w fun x_1 w =>
  efv prog (Instr.alloc 28 true (.tuple #[])) w fun t_2 w =>
  dr w fun w =>
  pvv prog (Instr.fieldAt 31 x_1 0) w fun t_3 w =>
  pvv prog (Instr.fieldAt 31 x_1 1) w fun t_4 w =>
  pvv prog (Instr.fieldAt 31 x_1 2) w fun t_5 w =>
  pvv prog (Instr.fieldAt 31 x_1 3) w fun t_6 w =>
  bindS (vN (Instr.loadAt 3 t_3)) fun m_8 => ldv prog (Instr.loadAt 3 t_3) w fun t_7 w =>
  bindS (vN (Instr.loadAt 3 t_4)) fun m_10 => ldv prog (Instr.loadAt 3 t_4) w fun t_9 w =>
  bindS (vN (Instr.loadAt 9 t_5)) fun m_12 => ldv prog (Instr.loadAt 9 t_5) w fun t_11 w =>
  bindS (vN (Instr.loadAt 9 t_6)) fun m_14 => ldv prog (Instr.loadAt 9 t_6) w fun t_13 w =>
  Calls prog 30 #[t_7] w (Ret fun t_15 w => stay prog none m_14 t_13 w <| stay prog none m_12 t_11 w <| stay prog none m_10 t_9 w <| 
  Calls prog 30 #[t_9] w (Ret fun t_16 w => stay prog none m_14 t_13 w <| stay prog none m_12 t_11 w <| stay prog none m_8 t_7 w <| 
  efv prog (Instr.buildSlice 39 4 #[(0, t_15), (1, t_16), (2, t_11), (3, t_13)]) w fun t_17 w => stay prog none m_10 t_9 w <| stay prog none m_8 t_7 w <| 
  Calls prog 50 #[t_17] w (Ret fun t_18 w => stay prog none m_14 t_13 w <| stay prog none m_12 t_11 w <| stay prog none m_10 t_9 w <| stay prog none m_8 t_7 w <| 
  pvv prog (Instr.extract t_18 0) w fun t_19 w =>
  pvv prog (Instr.extract t_18 1) w fun t_20 w =>
  ldv prog (Instr.loadAt 28 h_0) w fun t_21 w =>
  Calls prog 51 #[t_21, t_19] w (Ret fun t_22 w =>
  efu prog (Instr.storeAt 28 t_2 t_22) w fun u_23 w =>
  ∃ r_24, (do loadVar 28 (← asAddr t_2)).run prog w = .ok r_24 w ∧ K r_24 w))))
theorem B28_eq (h_p0 x_p1 : Value) (w : World) (K : Value → World → Prop) : denFn prog Tryz.f28 T28 [h_p0, x_p1] w K = B28 h_p0 x_p1 w K := by kernel_rfl
theorem c28 {h_p0 x_p1 : Value} {w : World} {K : Value → World → Prop} (h : B28 h_p0 x_p1 w K) : Calls prog 28 #[h_p0, x_p1] w (Ret K) :=
  denFn_calls Tryz.func28 T28_ok (Eq.mpr (B28_eq h_p0 x_p1 w K) h)

-- 57 holdfast/seal.tagOf
def T57 : Ann := (.seq .none (.seq (.draw [.op 0 .pure, .op 2 .pure, .par [⟨1, .eff, (some 7), []⟩, ⟨5, .eff, (some 5), []⟩, ⟨3, .eff, (some 9), [(0, some 7)]⟩, ⟨4, .eff, (some 10), [(2, some 9)]⟩], .op 6 .eff]) (.seq .none .none)))
theorem T57_ok : chkFn prog Tryz.f57 T57 = true := by kernel_rfl
def B57 (key_p0 body_p1 : Value) (w : World) (K : Value → World → Prop) : Prop :=
  efv prog (Instr.box 28 key_p0) w fun key_0 w =>
  efv prog (Instr.alloc 130 true (.tuple #[])) w fun t_1 w =>
  dr w fun w =>
  pvv prog (Instr.sliceAt 28 key_0 none none none) w fun t_2 w =>
  par 4 w fun J_3 =>
    (∀ (σ : List (Option Value)) (w : World), J_3 σ w → un σ 0 (efv prog (Instr.buildSlice 22 1 #[(0, (.int .u8 116))]) w fun v_4 w => J_3 (σ.set 0 (some v_4)) w)) ∧
    (∀ (σ : List (Option Value)) (w : World), J_3 σ w → un σ 1 (efv prog (Instr.alloc 28 true (.tuple #[])) w fun v_5 w => J_3 (σ.set 1 (some v_5)) w)) ∧
    (∀ (σ : List (Option Value)) (w : World), J_3 σ w → un σ 2 (is σ 0 fun t_6 => ef prog (oBi .append #[22, 22] 22 #[false, false] #[t_6, body_p1]) w fun v_7 w => J_3 (σ.set 2 (some v_7)) w)) ∧
    (∀ (σ : List (Option Value)) (w : World), J_3 σ w → un σ 3 (is σ 2 fun t_8 => Calls prog 68 #[t_2, t_8] w (Ret fun v_9 w => J_3 (σ.set 3 (some v_9)) w))) ∧
    ∀ (σ : List (Option Value)) (w : World), J_3 σ w → is σ 0 fun t_10 => is σ 1 fun h_11 => is σ 2 fun t_12 => is σ 3 fun t_13 => 
    efu prog (Instr.storeAt 28 h_11 t_13) w fun u_14 w =>
    pvv prog (Instr.sliceAt 28 h_11 none (some (.int .i64 16)) none) w fun t_15 w =>
    efv prog (Instr.arrayAt 130 t_15) w fun t_16 w =>
    ldv prog (Instr.loadAt 130 t_16) w fun t_17 w =>
    efu prog (Instr.storeAt 130 t_1 t_17) w fun u_18 w =>
    ∃ r_19, (do loadVar 130 (← asAddr t_1)).run prog w = .ok r_19 w ∧ K r_19 w
theorem B57_eq (key_p0 body_p1 : Value) (w : World) (K : Value → World → Prop) : denFn prog Tryz.f57 T57 [key_p0, body_p1] w K = B57 key_p0 body_p1 w K := by kernel_rfl
theorem c57 {key_p0 body_p1 : Value} {w : World} {K : Value → World → Prop} (h : B57 key_p0 body_p1 w K) : Calls prog 57 #[key_p0, body_p1] w (Ret K) :=
  denFn_calls Tryz.func57 T57_ok (Eq.mpr (B57_eq key_p0 body_p1 w K) h)

-- 31 (*holdfast/keys.Tree).Current
def T31 : Ann := (.seq .none (.seq (.block (.seq .none (.seq (.seq .none .none) (.seq .none (.seq (.seq .none .none) (.seq .none (.seq (.seq .none .none) .none))))))) (.seq .none .none)))
theorem T31_ok : chkFn prog Tryz.f31 T31 = true := by kernel_rfl
def B31 (t_p0 tenant_p1 name_p2 : Value) (w : World) (K : Value → World → Prop) : Prop :=
  pvv prog (oEq .eql 25 (.tmp 9) (.const (.pointer none)) t_p0 (.pointer none)) w fun t_0 w =>
  cd t_0 (
    K (.tuple #[(.int .i64 0), (.int .i64 1)]) w) <|
  Calls prog 53 #[tenant_p1] w (Ret fun t_1 w =>
  pvv prog (Op.unary .not t_1) w fun t_2 w =>
  gate (some (t_2, false)) (fun K => K name_p2 w) w fun t_3 w =>
  gate (some (t_2, false)) (fun K => Calls prog 53 #[t_3] w (Ret K)) w fun t_4 w =>
  gate (some (t_2, false)) (fun K => pvv prog (Op.unary .not t_4) w K) w fun t_5 w =>
  pv prog (oPick t_2 (.bool true) t_5) w fun t_6 w =>
  cd t_6 (
    K (.tuple #[(.int .i64 0), (.int .i64 8)]) w) <|
  pv prog (oNil t_p0) w fun t_7 w =>
  pvv prog (Instr.fieldAt 73 t_7 2) w fun t_8 w =>
  ldv prog (Instr.loadAt 70 t_8) w fun t_9 w =>
  ldv prog (Instr.lookup 70 t_9 tenant_p1 false) w fun t_10 w =>
  cd t_10 (
    K (.tuple #[(.int .i64 0), (.int .i64 12)]) w) <|
  pv prog (oNil t_p0) w fun t_11 w =>
  pvv prog (Instr.fieldAt 73 t_11 3) w fun t_12 w =>
  ldv prog (Instr.loadAt 71 t_12) w fun t_13 w =>
  pvv prog (Instr.build 114 #[(0, tenant_p1), (1, name_p2)]) w fun t_14 w =>
  ldv prog (Instr.lookup 71 t_13 t_14 false) w fun t_15 w =>
  pv prog (oBi .max #[3, 3] 3 #[false, true] #[t_15, (.int .i64 1)]) w fun t_16 w =>
  K (.tuple #[t_16, (.int .i64 0)]) w)
theorem B31_eq (t_p0 tenant_p1 name_p2 : Value) (w : World) (K : Value → World → Prop) : denFn prog Tryz.f31 T31 [t_p0, tenant_p1, name_p2] w K = B31 t_p0 tenant_p1 name_p2 w K := by kernel_rfl
theorem c31 {t_p0 tenant_p1 name_p2 : Value} {w : World} {K : Value → World → Prop} (h : B31 t_p0 tenant_p1 name_p2 w K) : Calls prog 31 #[t_p0, tenant_p1, name_p2] w (Ret K) :=
  denFn_calls Tryz.func31 T31_ok (Eq.mpr (B31_eq t_p0 tenant_p1 name_p2 w K) h)

-- 117 internal/strconv.small
def T117 : Ann := (.seq .none (.seq (.seq .none (.seq (.seq .none .none) .none)) (.seq .none .none)))
theorem T117_ok : chkFn prog Tryz.f117 T117 = true := by kernel_rfl
def B117 (i_p0 : Value) (w : World) (K : Value → World → Prop) : Prop :=
  pvv prog (binOp .lss 3 i_p0 (.int .i64 10)) w fun t_0 w =>
  cd t_0 (
    pvv prog (binOp .add 3 i_p0 (.int .i64 1)) w fun t_1 w =>
    pvv prog (Instr.sliceAt 9 (.string ⟨#[48, 49, 50, 51, 52, 53, 54, 55, 56, 57, 97, 98, 99, 100, 101, 102, 103, 104, 105, 106, 107, 108, 109, 110, 111, 112, 113, 114, 115, 116, 117, 118, 119, 120, 121, 122]⟩) (some i_p0) (some t_1) none) w fun t_2 w =>
    K t_2 w) <|
  pvv prog (binOp .mul 3 i_p0 (.int .i64 2)) w fun t_3 w =>
  pvv prog (binOp .mul 3 i_p0 (.int .i64 2)) w fun t_4 w =>
  pvv prog (binOp .add 3 t_4 (.int .i64 2)) w fun t_5 w =>
  pvv prog (Instr.sliceAt 9 (.string ⟨#[48, 48, 48, 49, 48, 50, 48, 51, 48, 52, 48, 53, 48, 54, 48, 55, 48, 56, 48, 57, 49, 48, 49, 49, 49, 50, 49, 51, 49, 52, 49, 53, 49, 54, 49, 55, 49, 56, 49, 57, 50, 48, 50, 49, 50, 50, 50, 51, 50, 52, 50, 53, 50, 54, 50, 55, 50, 56, 50, 57, 51, 48, 51, 49, 51, 50, 51, 51, 51, 52, 51, 53, 51, 54, 51, 55, 51, 56, 51, 57, 52, 48, 52, 49, 52, 50, 52, 51, 52, 52, 52, 53, 52, 54, 52, 55, 52, 56, 52, 57, 53, 48, 53, 49, 53, 50, 53, 51, 53, 52, 53, 53, 53, 54, 53, 55, 53, 56, 53, 57, 54, 48, 54, 49, 54, 50, 54, 51, 54, 52, 54, 53, 54, 54, 54, 55, 54, 56, 54, 57, 55, 48, 55, 49, 55, 50, 55, 51, 55, 52, 55, 53, 55, 54, 55, 55, 55, 56, 55, 57, 56, 48, 56, 49, 56, 50, 56, 51, 56, 52, 56, 53, 56, 54, 56, 55, 56, 56, 56, 57, 57, 48, 57, 49, 57, 50, 57, 51, 57, 52, 57, 53, 57, 54, 57, 55, 57, 56, 57, 57]⟩) (some t_3) (some t_5) none) w fun t_6 w =>
  K t_6 w
theorem B117_eq (i_p0 : Value) (w : World) (K : Value → World → Prop) : denFn prog Tryz.f117 T117 [i_p0] w K = B117 i_p0 w K := by kernel_rfl
theorem c117 {i_p0 : Value} {w : World} {K : Value → World → Prop} (h : B117 i_p0 w K) : Calls prog 117 #[i_p0] w (Ret K) :=
  denFn_calls Tryz.func117 T117_ok (Eq.mpr (B117_eq i_p0 w K) h)

-- 33 holdfast/seal.Seal
def T33 : Ann := (.seq .none (.seq (.seq .none (.seq (.seq .none .none) .none)) (.seq (.draw [.op 0 .pure, .op 3 .pure, .op 4 .pure, .op 2 .load, .op 1 .eff, .op 5 .eff, .op 6 .eff, .op 7 .pure]) (.seq .none (.seq .none .none)))))
theorem T33_ok : chkFn prog Tryz.f33 T33 = true := by kernel_rfl
def B33 (key_p0 once_p1 plain_p2 : Value) (w : World) (K : Value → World → Prop) : Prop :=
  efv prog (Instr.box 28 key_p0) w fun key_0 w =>
  pv prog (oBi .len #[22] 3 #[false] #[plain_p2]) w fun t_1 w =>
  pvv prog (binOp .gtr 3 t_1 (.int .i64 1024)) w fun t_2 w =>
  cd t_2 (
    K (.tuple #[(.slice none 0 0), (.int .i64 6)]) w) <|
  dr w fun w =>
  bindS (vN (Instr.loadAt 28 key_0)) fun m_4 => ldv prog (Instr.loadAt 28 key_0) w fun t_3 w =>
  Calls prog 55 #[once_p1] w (Ret fun t_5 w => stay prog none m_4 t_3 w <| 
  Calls prog 56 #[t_3, once_p1, plain_p2] w (Ret fun t_6 w =>
  ef prog (oBi .append #[22, 22] 22 #[false, false] #[t_5, t_6]) w fun t_7 w => stay prog none m_4 t_3 w <| 
  ldv prog (Instr.loadAt 28 key_0) w fun t_8 w =>
  Calls prog 57 #[t_8, t_7] w (Ret fun t_9 w =>
  efv prog (Instr.alloc 130 true (.tuple #[])) w fun t_10 w =>
  efu prog (Instr.storeAt 130 t_10 t_9) w fun u_11 w =>
  pvv prog (Instr.sliceAt 130 t_10 none none none) w fun t_12 w =>
  ef prog (oBi .append #[22, 22] 22 #[false, false] #[t_7, t_12]) w fun t_13 w =>
  K (.tuple #[t_13, (.int .i64 0)]) w)))
theorem B33_eq (key_p0 once_p1 plain_p2 : Value) (w : World) (K : Value → World → Prop) : denFn prog Tryz.f33 T33 [key_p0, once_p1, plain_p2] w K = B33 key_p0 once_p1 plain_p2 w K := by kernel_rfl
theorem c33 {key_p0 once_p1 plain_p2 : Value} {w : World} {K : Value → World → Prop} (h : B33 key_p0 once_p1 plain_p2 w K) : Calls prog 33 #[key_p0, once_p1, plain_p2] w (Ret K) :=
  denFn_calls Tryz.func33 T33_ok (Eq.mpr (B33_eq key_p0 once_p1 plain_p2 w K) h)

-- 56 holdfast/seal.hidden
def T56 : Ann := (.seq .none (.seq .none (.seq (.seq .none (.block (.loop 17177773568 [21] (.seq .none (.seq (.seq .none .none) (.seq (.block (.seq .none .none)) .none)))))) (.seq .none .none))))
theorem T56_ok : chkFn prog Tryz.f56 T56 = true := by kernel_rfl
def B56 (key_p0 once_p1 b_p2 : Value) (w : World) (K : Value → World → Prop) : Prop :=
  efv prog (Instr.box 28 key_p0) w fun key_0 w =>
  ldv prog (Instr.loadAt 28 key_0) w fun t_1 w =>
  pv prog (oBi .len #[22] 3 #[false] #[b_p2]) w fun t_2 w =>
  Calls prog 73 #[t_1, once_p1, t_2] w (Ret fun t_3 w =>
  pvv prog (Instr.extract t_3 0) w fun t_4 w =>
  pvv prog (Instr.extract t_3 1) w fun t_5 w =>
  pv prog (oBi .len #[22] 3 #[false] #[b_p2]) w fun t_6 w =>
  lp (fun σ w again_8 => pop σ fun t_7 σ => fin σ <|
    pvv prog (binOp .lss 3 t_7 t_6) w fun t_9 w =>
    cd t_9 (
      pvv prog (Instr.indexAt 22 b_p2 t_7) w fun t_10 w =>
      ldv prog (Instr.loadAt 5 t_10) w fun t_11 w =>
      pvv prog (Instr.indexAt 22 t_4 t_7) w fun t_12 w =>
      ldv prog (Instr.loadAt 5 t_12) w fun t_13 w =>
      pvv prog (binOp .xor 5 t_13 t_11) w fun t_14 w =>
      pvv prog (Instr.indexAt 22 t_4 t_7) w fun t_15 w =>
      efu prog (Instr.storeAt 5 t_15 t_14) w fun u_16 w =>
      pvv prog (binOp .add 3 t_7 (.int .i64 1)) w fun t_17 w =>
      again_8 [t_17] w) <|
    K t_4 w) [(.int .i64 0)] w)
theorem B56_eq (key_p0 once_p1 b_p2 : Value) (w : World) (K : Value → World → Prop) : denFn prog Tryz.f56 T56 [key_p0, once_p1, b_p2] w K = B56 key_p0 once_p1 b_p2 w K := by kernel_rfl
theorem c56 {key_p0 once_p1 b_p2 : Value} {w : World} {K : Value → World → Prop} (h : B56 key_p0 once_p1 b_p2 w K) : Calls prog 56 #[key_p0, once_p1, b_p2] w (Ret K) :=
  denFn_calls Tryz.func56 T56_ok (Eq.mpr (B56_eq key_p0 once_p1 b_p2 w K) h)

-- 48 holdfast/hash.Same
def T48 : Ann := (.seq .none (.seq .none (.seq (.seq .none (.block (.loop 1048544 [5, 7] (.seq .none (.seq (.seq .none .none) (.seq (.block (.seq .none (.draw [.op 0 .pure, .op 1 .pure, .op 2 .pure, .op 4 .pure, .op 5 .pure, .op 3 .load, .op 6 .load, .op 7 .pure, .op 8 .pure, .op 9 .pure]))) .none)))))) (.seq .none .none))))
theorem T48_ok : chkFn prog Tryz.f48 T48 = true := by kernel_rfl
def B48 (a_p0 b_p1 : Value) (w : World) (K : Value → World → Prop) : Prop :=
  efv prog (Instr.box 28 a_p0) w fun a_0 w =>
  efv prog (Instr.box 28 b_p1) w fun b_1 w =>
  lp (fun σ w again_4 => pop σ fun d_2 σ => pop σ fun t_3 σ => fin σ <|
    pvv prog (binOp .lss 3 t_3 (.int .i64 32)) w fun t_5 w =>
    cd t_5 (
      dr w fun w =>
      pvv prog (Instr.indexAt 28 a_0 t_3) w fun t_6 w =>
      pvv prog (Instr.indexAt 28 b_1 t_3) w fun t_7 w =>
      bindS (vN (Instr.loadAt 5 t_6)) fun m_9 => ldv prog (Instr.loadAt 5 t_6) w fun t_8 w =>
      bindS (vN (Instr.loadAt 5 t_7)) fun m_11 => ldv prog (Instr.loadAt 5 t_7) w fun t_10 w =>
      pvv prog (binOp .xor 5 t_8 t_10) w fun t_12 w =>
      pvv prog (binOp .or 5 d_2 t_12) w fun t_13 w =>
      pvv prog (binOp .add 3 t_3 (.int .i64 1)) w fun t_14 w =>
      again_4 [t_13, t_14] w) <|
    pvv prog (oEq .eql 5 (.tmp 20) (.const (.int .u8 0)) d_2 (.int .u8 0)) w fun t_15 w =>
    K t_15 w) [(.int .u8 0), (.int .i64 0)] w
theorem B48_eq (a_p0 b_p1 : Value) (w : World) (K : Value → World → Prop) : denFn prog Tryz.f48 T48 [a_p0, b_p1] w K = B48 a_p0 b_p1 w K := by kernel_rfl
theorem c48 {a_p0 b_p1 : Value} {w : World} {K : Value → World → Prop} (h : B48 a_p0 b_p1 w K) : Calls prog 48 #[a_p0, b_p1] w (Ret K) :=
  denFn_calls Tryz.func48 T48_ok (Eq.mpr (B48_eq a_p0 b_p1 w K) h)

-- 39 (*holdfast/cred.Book).full
def T39 : Ann := (.seq .none (.seq .none (.seq .none .none)))
theorem T39_ok : chkFn prog Tryz.f39 T39 = true := by kernel_rfl
def B39 (b_p0 tenant_p1 : Value) (w : World) (K : Value → World → Prop) : Prop :=
  Calls prog 61 #[b_p0, tenant_p1] w (Ret fun t_0 w =>
  pv prog (oBi .len #[136] 3 #[false] #[t_0]) w fun t_1 w =>
  pvv prog (binOp .geq 3 t_1 (.int .i64 8)) w fun t_2 w =>
  gate (some (t_2, false)) (fun K => K t_1 w) w fun t_3 w =>
  gate (some (t_2, false)) (fun K => pvv prog (oEq .eql 3 (.tmp 13) (.const (.int .i64 0)) t_3 (.int .i64 0)) w K) w fun t_4 w =>
  gate (some (t_2, false)) (fun K => K t_4 w) w fun t_5 w =>
  gate (some (t_5, true)) (fun K => K b_p0 w) w fun t_6 w =>
  gate (some (t_5, true)) (fun K => Calls prog 62 #[t_6] w (Ret K)) w fun t_7 w =>
  gate (some (t_5, true)) (fun K => pv prog (oBi .len #[39] 3 #[false] #[t_7]) w K) w fun t_8 w =>
  gate (some (t_5, true)) (fun K => pvv prog (binOp .geq 3 t_8 (.int .i64 4)) w K) w fun t_9 w =>
  gate (some (t_2, false)) (fun K => pv prog (oPick t_5 t_9 (.bool false)) w K) w fun t_10 w =>
  pv prog (oPick t_2 (.bool true) t_10) w fun t_11 w =>
  K t_11 w)
theorem B39_eq (b_p0 tenant_p1 : Value) (w : World) (K : Value → World → Prop) : denFn prog Tryz.f39 T39 [b_p0, tenant_p1] w K = B39 b_p0 tenant_p1 w K := by kernel_rfl
theorem c39 {b_p0 tenant_p1 : Value} {w : World} {K : Value → World → Prop} (h : B39 b_p0 tenant_p1 w K) : Calls prog 39 #[b_p0, tenant_p1] w (Ret K) :=
  denFn_calls Tryz.func39 T39_ok (Eq.mpr (B39_eq b_p0 tenant_p1 w K) h)

-- 157 (*strings.Builder).String
def T157 : Ann := (.seq .none (.seq (.draw [.op 0 .pure, .op 1 .pure, .op 2 .pure, .op 5 .pure, .op 6 .pure, .op 7 .pure, .op 3 .load, .op 8 .load, .op 9 .pure, .op 4 .eff, .op 10 .eff, .op 11 .pure]) .none))
theorem T157_ok : chkFn prog Tryz.f157 T157 = true := by kernel_rfl
def B157 (b_p0 : Value) (w : World) (K : Value → World → Prop) : Prop :=
  dr w fun w =>
  pv prog (oNil b_p0) w fun t_0 w =>
  pvv prog (Instr.fieldAt 227 t_0 1) w fun t_1 w =>
  pv prog (oNil b_p0) w fun t_2 w =>
  pvv prog (Instr.fieldAt 227 t_2 1) w fun t_3 w =>
  bindS (vN (Instr.loadAt 22 t_1)) fun m_5 => ldv prog (Instr.loadAt 22 t_1) w fun t_4 w =>
  bindS (vN (Instr.loadAt 22 t_3)) fun m_7 => ldv prog (Instr.loadAt 22 t_3) w fun t_6 w =>
  pv prog (oBi .len #[22] 3 #[false] #[t_6]) w fun t_8 w =>
  ef prog (oBi .unsafeSliceData #[22] 250 #[false] #[t_4]) w fun t_9 w => stay prog none m_7 t_6 w <| 
  ef prog (oBi .unsafeString #[250, 3] 9 #[false, false] #[t_9, t_8]) w fun t_10 w => stay prog none m_7 t_6 w <| stay prog none m_5 t_4 w <| 
  K t_10 w
theorem B157_eq (b_p0 : Value) (w : World) (K : Value → World → Prop) : denFn prog Tryz.f157 T157 [b_p0] w K = B157 b_p0 w K := by kernel_rfl
theorem c157 {b_p0 : Value} {w : World} {K : Value → World → Prop} (h : B157 b_p0 w K) : Calls prog 157 #[b_p0] w (Ret K) :=
  denFn_calls Tryz.func157 T157_ok (Eq.mpr (B157_eq b_p0 w K) h)

-- 52 holdfast/codec.Number
def T52 : Ann := (.seq .none (.seq (.seq .none (.seq (.seq .none .none) .none)) (.seq .none (.seq .none .none))))
theorem T52_ok : chkFn prog Tryz.f52 T52 = true := by kernel_rfl
def B52 (n_p0 : Value) (w : World) (K : Value → World → Prop) : Prop :=
  pvv prog (binOp .lss 3 n_p0 (.int .i64 0)) w fun t_0 w =>
  gate (some (t_0, false)) (fun K => K n_p0 w) w fun t_1 w =>
  gate (some (t_0, false)) (fun K => pvv prog (binOp .gtr 3 t_1 (.int .i64 4611686018427387904)) w K) w fun t_2 w =>
  pv prog (oPick t_0 (.bool true) t_2) w fun t_3 w =>
  cd t_3 (
    K (.tuple #[(.string ⟨#[]⟩), (.int .i64 2)]) w) <|
  Calls prog 70 #[n_p0, (.int .i64 16)] w (Ret fun t_4 w =>
  Calls prog 69 #[t_4, (.string ⟨#[48]⟩)] w (Ret fun t_5 w =>
  pv prog (oBi .len #[9] 3 #[false] #[t_5]) w fun t_6 w =>
  pvv prog (binOp .add 3 (.int .i64 97) t_6) w fun t_7 w =>
  pvv prog (convert 3 21 t_7) w fun t_8 w =>
  pvv prog (convert 21 9 t_8) w fun t_9 w =>
  pvv prog (binOp .add 9 t_9 t_5) w fun t_10 w =>
  K (.tuple #[t_10, (.int .i64 0)]) w))
theorem B52_eq (n_p0 : Value) (w : World) (K : Value → World → Prop) : denFn prog Tryz.f52 T52 [n_p0] w K = B52 n_p0 w K := by kernel_rfl
theorem c52 {n_p0 : Value} {w : World} {K : Value → World → Prop} (h : B52 n_p0 w K) : Calls prog 52 #[n_p0] w (Ret K) :=
  denFn_calls Tryz.func52 T52_ok (Eq.mpr (B52_eq n_p0 w K) h)

-- 181 unicode/utf8.ValidRune
def T181 : Ann := (.seq .none (.seq (.block (.seq .none (.seq (.seq .none .none) (.seq .none (.seq (.seq .none .none) .none))))) (.seq .none .none)))
theorem T181_ok : chkFn prog Tryz.f181 T181 = true := by kernel_rfl
def B181 (r_p0 : Value) (w : World) (K : Value → World → Prop) : Prop :=
  pvv prog (binOp .leq 21 (.int .i32 0) r_p0) w fun t_0 w =>
  gate (some (t_0, true)) (fun K => K r_p0 w) w fun t_1 w =>
  gate (some (t_0, true)) (fun K => pvv prog (binOp .lss 21 t_1 (.int .i32 55296)) w K) w fun t_2 w =>
  pv prog (oPick t_0 t_2 (.bool false)) w fun t_3 w =>
  cd t_3 (
    K (.bool true) w) <|
  pvv prog (binOp .lss 21 (.int .i32 57343) r_p0) w fun t_4 w =>
  gate (some (t_4, true)) (fun K => K r_p0 w) w fun t_5 w =>
  gate (some (t_4, true)) (fun K => pvv prog (binOp .leq 21 t_5 (.int .i32 1114111)) w K) w fun t_6 w =>
  pv prog (oPick t_4 t_6 (.bool false)) w fun t_7 w =>
  cd t_7 (
    K (.bool true) w) <|
  K (.bool false) w
theorem B181_eq (r_p0 : Value) (w : World) (K : Value → World → Prop) : denFn prog Tryz.f181 T181 [r_p0] w K = B181 r_p0 w K := by kernel_rfl
theorem c181 {r_p0 : Value} {w : World} {K : Value → World → Prop} (h : B181 r_p0 w K) : Calls prog 181 #[r_p0] w (Ret K) :=
  denFn_calls Tryz.func181 T181_ok (Eq.mpr (B181_eq r_p0 w K) h)

-- 142 slices.AppendSeq[[]string,string]
def T142 : Ann := (.seq .none (.seq (.seq .none (.block (.range .none (.block .none)))) (.seq .none .none)))
theorem T142_ok : chkFn prog Tryz.f142 T142 = true := by kernel_rfl
def B142 (s_p0 seq_p1 : Value) (w : World) (K : Value → World → Prop) : Prop :=
  efv prog (Instr.box 39 s_p0) w fun s_0 w =>
  rng prog 1 seq_p1 (fun σ w bg_2 ex_3 => pop σ fun t_1 σ => fin σ <|
    bg_2 w fun w =>
    ldv prog (Instr.loadAt 39 s_0) w fun t_4 w =>
    efv prog (Instr.buildSlice 39 1 #[(0, t_1)]) w fun t_5 w =>
    ef prog (oBi .append #[39, 39] 39 #[false, false] #[t_4, t_5]) w fun t_6 w =>
    efu prog (Instr.storeAt 39 s_0 t_6) w fun u_7 w =>
    ex_3 .normal w) w fun p_9 D_8 w =>
  jump (
    ldv prog (Instr.loadAt 39 s_0) w fun t_10 w =>
    und [D_8] w fun w => K t_10 w) (
    und [D_8] w fun w => K (.slice none 0 0) w) [] p_9
theorem B142_eq (s_p0 seq_p1 : Value) (w : World) (K : Value → World → Prop) : denFn prog Tryz.f142 T142 [s_p0, seq_p1] w K = B142 s_p0 seq_p1 w K := by kernel_rfl
theorem c142 {s_p0 seq_p1 : Value} {w : World} {K : Value → World → Prop} (h : B142 s_p0 seq_p1 w K) : Calls prog 142 #[s_p0, seq_p1] w (Ret K) :=
  denFn_calls Tryz.func142 T142_ok (Eq.mpr (B142_eq s_p0 seq_p1 w K) h)

-- 178 math/bits.TrailingZeros32
def T178 : Ann := (.seq .none (.seq (.seq .none (.seq (.seq .none .none) .none)) (.seq .none .none)))
theorem T178_ok : chkFn prog Tryz.f178 T178 = true := by kernel_rfl
def B178 (x_p0 : Value) (w : World) (K : Value → World → Prop) : Prop :=
  pvv prog (oEq .eql 74 (.tmp 3) (.const (.int .u32 0)) x_p0 (.int .u32 0)) w fun t_0 w =>
  cd t_0 (
    K (.int .i64 32) w) <|
  pvv prog (Op.unary .neg x_p0) w fun t_1 w =>
  pvv prog (binOp .and 74 x_p0 t_1) w fun t_2 w =>
  pvv prog (binOp .mul 74 t_2 (.int .u32 125613361)) w fun t_3 w =>
  pvv prog (binOp .shr 74 t_3 (.int .u64 27)) w fun t_4 w =>
  pvv prog (Instr.indexAt 27 (.pointer (some ⟨6, 0, none⟩)) t_4) w fun t_5 w =>
  ldv prog (Instr.loadAt 5 t_5) w fun t_6 w =>
  pvv prog (convert 5 3 t_6) w fun t_7 w =>
  K t_7 w
theorem B178_eq (x_p0 : Value) (w : World) (K : Value → World → Prop) : denFn prog Tryz.f178 T178 [x_p0] w K = B178 x_p0 w K := by kernel_rfl
theorem c178 {x_p0 : Value} {w : World} {K : Value → World → Prop} (h : B178 x_p0 w K) : Calls prog 178 #[x_p0] w (Ret K) :=
  denFn_calls Tryz.func178 T178_ok (Eq.mpr (B178_eq x_p0 w K) h)

-- 133 strconv.bitSizeError
def T133 : Ann := (.seq .none (.seq .none .none))
theorem T133_ok : chkFn prog Tryz.f133 T133 = true := by kernel_rfl
def B133 (fn_p0 str_p1 bitSize_p2 : Value) (w : World) (K : Value → World → Prop) : Prop :=
  Calls prog 159 #[str_p1] w (Ret fun t_0 w =>
  Calls prog 161 #[bitSize_p2] w (Ret fun t_1 w =>
  pvv prog (binOp .add 9 (.string ⟨#[105, 110, 118, 97, 108, 105, 100, 32, 98, 105, 116, 32, 115, 105, 122, 101, 32]⟩) t_1) w fun t_2 w =>
  Calls prog 160 #[t_2] w (Ret fun t_3 w =>
  pvv prog (Instr.build 236 #[(0, fn_p0), (1, t_0), (2, t_3)]) w fun t_4 w =>
  efv prog (Instr.box 236 t_4) w fun t_5 w =>
  K t_5 w)))
theorem B133_eq (fn_p0 str_p1 bitSize_p2 : Value) (w : World) (K : Value → World → Prop) : denFn prog Tryz.f133 T133 [fn_p0, str_p1, bitSize_p2] w K = B133 fn_p0 str_p1 bitSize_p2 w K := by kernel_rfl
theorem c133 {fn_p0 str_p1 bitSize_p2 : Value} {w : World} {K : Value → World → Prop} (h : B133 fn_p0 str_p1 bitSize_p2 w K) : Calls prog 133 #[fn_p0, str_p1, bitSize_p2] w (Ret K) :=
  denFn_calls Tryz.func133 T133_ok (Eq.mpr (B133_eq fn_p0 str_p1 bitSize_p2 w K) h)

-- 58 holdfast/seal.Size
def T58 : Ann := (.seq .none (.seq (.seq .none (.seq (.seq .none .none) .none)) (.seq .none .none)))
theorem T58_ok : chkFn prog Tryz.f58 T58 = true := by kernel_rfl
def B58 (plain_p0 : Value) (w : World) (K : Value → World → Prop) : Prop :=
  pvv prog (binOp .lss 3 plain_p0 (.int .i64 0)) w fun t_0 w =>
  gate (some (t_0, false)) (fun K => K plain_p0 w) w fun t_1 w =>
  gate (some (t_0, false)) (fun K => pvv prog (binOp .gtr 3 t_1 (.int .i64 1024)) w K) w fun t_2 w =>
  pv prog (oPick t_0 (.bool true) t_2) w fun t_3 w =>
  cd t_3 (
    K (.int .i64 0) w) <|
  pvv prog (binOp .add 3 plain_p0 (.int .i64 24)) w fun t_4 w =>
  K t_4 w
theorem B58_eq (plain_p0 : Value) (w : World) (K : Value → World → Prop) : denFn prog Tryz.f58 T58 [plain_p0] w K = B58 plain_p0 w K := by kernel_rfl
theorem c58 {plain_p0 : Value} {w : World} {K : Value → World → Prop} (h : B58 plain_p0 w K) : Calls prog 58 #[plain_p0] w (Ret K) :=
  denFn_calls Tryz.func58 T58_ok (Eq.mpr (B58_eq plain_p0 w K) h)

-- 118 internal/strconv.numDigits
def T118 : Ann := (.seq .none (.seq .none (.seq .none .none)))
theorem T118_ok : chkFn prog Tryz.f118 T118 = true := by kernel_rfl
def B118 (d_p0 : Value) (w : World) (K : Value → World → Prop) : Prop :=
  Calls prog 89 #[d_p0] w (Ret fun t_0 w =>
  Calls prog 148 #[t_0] w (Ret fun t_1 w =>
  pvv prog (Instr.indexAt 221 (.pointer (some ⟨0, 0, none⟩)) t_1) w fun t_2 w =>
  ldv prog (Instr.loadAt 79 t_2) w fun t_3 w =>
  pvv prog (binOp .geq 79 d_p0 t_3) w fun t_4 w =>
  Calls prog 149 #[t_4] w (Ret fun t_5 w =>
  pvv prog (binOp .add 3 t_1 t_5) w fun t_6 w =>
  K t_6 w)))
theorem B118_eq (d_p0 : Value) (w : World) (K : Value → World → Prop) : denFn prog Tryz.f118 T118 [d_p0] w K = B118 d_p0 w K := by kernel_rfl
theorem c118 {d_p0 : Value} {w : World} {K : Value → World → Prop} (h : B118 d_p0 w K) : Calls prog 118 #[d_p0] w (Ret K) :=
  denFn_calls Tryz.func118 T118_ok (Eq.mpr (B118_eq d_p0 w K) h)

-- 76 slices.SortFunc[[]holdfast/api.Owner,holdfast/api.Owner]
def T76 : Ann := (.seq .none .none)
theorem T76_ok : chkFn prog Tryz.f76 T76 = true := by kernel_rfl
def B76 (x_p0 cmp_p1 : Value) (w : World) (K : Value → World → Prop) : Prop :=
  pv prog (oBi .len #[136] 3 #[false] #[x_p0]) w fun t_0 w =>
  pvv prog (convert 3 80 t_0) w fun t_1 w =>
  Calls prog 64 #[t_1] w (Ret fun t_2 w =>
  Calls prog 105 #[x_p0, (.int .i64 0), t_0, t_2, cmp_p1] w (Ret fun t_3 w =>
  K (.tuple #[]) w))
theorem B76_eq (x_p0 cmp_p1 : Value) (w : World) (K : Value → World → Prop) : denFn prog Tryz.f76 T76 [x_p0, cmp_p1] w K = B76 x_p0 cmp_p1 w K := by kernel_rfl
theorem c76 {x_p0 cmp_p1 : Value} {w : World} {K : Value → World → Prop} (h : B76 x_p0 cmp_p1 w K) : Calls prog 76 #[x_p0, cmp_p1] w (Ret K) :=
  denFn_calls Tryz.func76 T76_ok (Eq.mpr (B76_eq x_p0 cmp_p1 w K) h)

-- 41 slices.SortFunc[[]holdfast/api.Row,holdfast/api.Row]
def T41 : Ann := (.seq .none .none)
theorem T41_ok : chkFn prog Tryz.f41 T41 = true := by kernel_rfl
def B41 (x_p0 cmp_p1 : Value) (w : World) (K : Value → World → Prop) : Prop :=
  pv prog (oBi .len #[37] 3 #[false] #[x_p0]) w fun t_0 w =>
  pvv prog (convert 3 80 t_0) w fun t_1 w =>
  Calls prog 64 #[t_1] w (Ret fun t_2 w =>
  Calls prog 63 #[x_p0, (.int .i64 0), t_0, t_2, cmp_p1] w (Ret fun t_3 w =>
  K (.tuple #[]) w))
theorem B41_eq (x_p0 cmp_p1 : Value) (w : World) (K : Value → World → Prop) : denFn prog Tryz.f41 T41 [x_p0, cmp_p1] w K = B41 x_p0 cmp_p1 w K := by kernel_rfl
theorem c41 {x_p0 cmp_p1 : Value} {w : World} {K : Value → World → Prop} (h : B41 x_p0 cmp_p1 w K) : Calls prog 41 #[x_p0, cmp_p1] w (Ret K) :=
  denFn_calls Tryz.func41 T41_ok (Eq.mpr (B41_eq x_p0 cmp_p1 w K) h)

-- 64 math/bits.Len
def T64 : Ann := (.seq .none (.seq (.seq (.seq .none .none) .none) (.seq .none .none)))
theorem T64_ok : chkFn prog Tryz.f64 T64 = true := by kernel_rfl
def B64 (x_p0 : Value) (w : World) (K : Value → World → Prop) : Prop :=
  cd (.bool false) (
    pvv prog (convert 80 74 x_p0) w fun t_0 w =>
    Calls prog 88 #[t_0] w (Ret fun t_1 w =>
    K t_1 w)) <|
  Calls prog 89 #[x_p0] w (Ret fun t_2 w =>
  K t_2 w)
theorem B64_eq (x_p0 : Value) (w : World) (K : Value → World → Prop) : denFn prog Tryz.f64 T64 [x_p0] w K = B64 x_p0 w K := by kernel_rfl
theorem c64 {x_p0 : Value} {w : World} {K : Value → World → Prop} (h : B64 x_p0 w K) : Calls prog 64 #[x_p0] w (Ret K) :=
  denFn_calls Tryz.func64 T64_ok (Eq.mpr (B64_eq x_p0 w K) h)

-- 66 strings.SplitN
def T66 : Ann := (.seq .none (.seq .none .none))
theorem T66_ok : chkFn prog Tryz.f66 T66 = true := by kernel_rfl
def B66 (s_p0 sep_p1 n_p2 : Value) (w : World) (K : Value → World → Prop) : Prop :=
  Calls prog 90 #[s_p0, sep_p1, (.int .i64 0), n_p2] w (Ret fun t_0 w =>
  K t_0 w)
theorem B66_eq (s_p0 sep_p1 n_p2 : Value) (w : World) (K : Value → World → Prop) : denFn prog Tryz.f66 T66 [s_p0, sep_p1, n_p2] w K = B66 s_p0 sep_p1 n_p2 w K := by kernel_rfl
theorem c66 {s_p0 sep_p1 n_p2 : Value} {w : World} {K : Value → World → Prop} (h : B66 s_p0 sep_p1 n_p2 w K) : Calls prog 66 #[s_p0, sep_p1, n_p2] w (Ret K) :=
  denFn_calls Tryz.func66 T66_ok (Eq.mpr (B66_eq s_p0 sep_p1 n_p2 w K) h)

-- 148 internal/strconv.log10Pow2
def T148 : Ann := (.seq .none (.seq .none .none))
theorem T148_ok : chkFn prog Tryz.f148 T148 = true := by kernel_rfl
def B148 (x_p0 : Value) (w : World) (K : Value → World → Prop) : Prop :=
  pvv prog (binOp .mul 3 x_p0 (.int .i64 78913)) w fun t_0 w =>
  pvv prog (binOp .shr 3 t_0 (.int .u64 18)) w fun t_1 w =>
  K t_1 w
theorem B148_eq (x_p0 : Value) (w : World) (K : Value → World → Prop) : denFn prog Tryz.f148 T148 [x_p0] w K = B148 x_p0 w K := by kernel_rfl
theorem c148 {x_p0 : Value} {w : World} {K : Value → World → Prop} (h : B148 x_p0 w K) : Calls prog 148 #[x_p0] w (Ret K) :=
  denFn_calls Tryz.func148 T148_ok (Eq.mpr (B148_eq x_p0 w K) h)

-- 74 strings.HasPrefix
def T74 : Ann := (.seq .none (.seq .none .none))
theorem T74_ok : chkFn prog Tryz.f74 T74 = true := by kernel_rfl
def B74 (s_p0 prefix_p1 : Value) (w : World) (K : Value → World → Prop) : Prop :=
  Calls prog 102 #[s_p0, prefix_p1] w (Ret fun t_0 w =>
  K t_0 w)
theorem B74_eq (s_p0 prefix_p1 : Value) (w : World) (K : Value → World → Prop) : denFn prog Tryz.f74 T74 [s_p0, prefix_p1] w K = B74 s_p0 prefix_p1 w K := by kernel_rfl
theorem c74 {s_p0 prefix_p1 : Value} {w : World} {K : Value → World → Prop} (h : B74 s_p0 prefix_p1 w K) : Calls prog 74 #[s_p0, prefix_p1] w (Ret K) :=
  denFn_calls Tryz.func74 T74_ok (Eq.mpr (B74_eq s_p0 prefix_p1 w K) h)

-- 37 (*holdfast/audit.Chain).links
def T37 : Ann := (.seq .none (.seq .none .none))
theorem T37_ok : chkFn prog Tryz.f37 T37 = true := by kernel_rfl
def B37 (c_p0 : Value) (w : World) (K : Value → World → Prop) : Prop :=
  efv prog (Instr.box 23 c_p0) w fun c_0 w =>
  pvv prog (Instr.makeFunc (.func 60) #[] #[c_0]) w fun t_1 w =>
  K t_1 w
theorem B37_eq (c_p0 : Value) (w : World) (K : Value → World → Prop) : denFn prog Tryz.f37 T37 [c_p0] w K = B37 c_p0 w K := by kernel_rfl
theorem c37 {c_p0 : Value} {w : World} {K : Value → World → Prop} (h : B37 c_p0 w K) : Calls prog 37 #[c_p0] w (Ret K) :=
  denFn_calls Tryz.func37 T37_ok (Eq.mpr (B37_eq c_p0 w K) h)

-- 106 slices.Collect[string]
def T106 : Ann := (.seq .none (.seq .none .none))
theorem T106_ok : chkFn prog Tryz.f106 T106 = true := by kernel_rfl
def B106 (seq_p0 : Value) (w : World) (K : Value → World → Prop) : Prop :=
  Calls prog 142 #[(.slice none 0 0), seq_p0] w (Ret fun t_0 w =>
  K t_0 w)
theorem B106_eq (seq_p0 : Value) (w : World) (K : Value → World → Prop) : denFn prog Tryz.f106 T106 [seq_p0] w K = B106 seq_p0 w K := by kernel_rfl
theorem c106 {seq_p0 : Value} {w : World} {K : Value → World → Prop} (h : B106 seq_p0 w K) : Calls prog 106 #[seq_p0] w (Ret K) :=
  denFn_calls Tryz.func106 T106_ok (Eq.mpr (B106_eq seq_p0 w K) h)

-- 128 internal/strconv.lower
def T128 : Ann := (.seq .none (.seq .none .none))
theorem T128_ok : chkFn prog Tryz.f128 T128 = true := by kernel_rfl
def B128 (c_p0 : Value) (w : World) (K : Value → World → Prop) : Prop :=
  pvv prog (binOp .or 5 c_p0 (.int .u8 32)) w fun t_0 w =>
  K t_0 w
theorem B128_eq (c_p0 : Value) (w : World) (K : Value → World → Prop) : denFn prog Tryz.f128 T128 [c_p0] w K = B128 c_p0 w K := by kernel_rfl
theorem c128 {c_p0 : Value} {w : World} {K : Value → World → Prop} (h : B128 c_p0 w K) : Calls prog 128 #[c_p0] w (Ret K) :=
  denFn_calls Tryz.func128 T128_ok (Eq.mpr (B128_eq c_p0 w K) h)


end Go.Proofs.YtmnaalpjhkkglaaGreatDoor
