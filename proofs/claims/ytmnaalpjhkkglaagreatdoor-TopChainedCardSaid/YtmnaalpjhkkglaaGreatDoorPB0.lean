import Derived.Test.YtmnaalpjhkkglaaGreatDoorPI
set_option linter.all false
set_option maxRecDepth 100000
namespace Go.Proofs.YtmnaalpjhkkglaaGreatDoor
open Go Hold
-- 119 internal/strconv.formatBase10
def T119 : Ann := (.seq .none (.seq (.block (.loop 79228162514264337593543430130 [1, 4] (.seq (.seq .none (.seq .none .none)) (.block (.seq .none (.seq .none (.seq .none (.seq .none (.seq .none (.seq (.draw [.op 0 .pure, .op 1 .pure, .op 2 .pure, .op 3 .pure, .op 4 .pure, .op 5 .pure, .op 6 .pure, .op 7 .pure, .op 8 .pure, .op 9 .pure, .op 10 .pure, .op 11 .pure, .op 12 .eff, .op 13 .pure, .op 14 .eff]) (.seq (.draw [.op 0 .pure, .op 1 .pure, .op 2 .pure, .op 3 .pure, .op 4 .pure, .op 5 .pure, .op 6 .pure, .op 7 .pure, .op 8 .pure, .op 9 .pure, .op 10 .pure, .op 11 .pure, .op 12 .eff, .op 13 .pure, .op 14 .eff]) (.seq (.draw [.op 0 .pure, .op 1 .pure, .op 2 .pure, .op 3 .pure, .op 4 .pure, .op 5 .pure, .op 6 .pure, .op 7 .pure, .op 8 .pure, .op 9 .pure, .op 10 .pure, .op 11 .pure, .op 12 .eff, .op 13 .pure, .op 14 .eff]) (.seq (.draw [.op 0 .pure, .op 1 .pure, .op 2 .pure, .op 3 .pure, .op 4 .pure, .op 5 .pure, .op 6 .pure, .op 7 .pure, .op 8 .pure, .op 9 .pure, .op 10 .pure, .op 11 .pure, .op 12 .eff, .op 13 .pure, .op 14 .eff]) .none))))))))))))) (.seq .none (.meet 348449143726724073936438540659756472791056 [4, 12] (.seq .none (.seq (.seq .none (.seq .none (.seq .none (.seq (.draw [.op 0 .pure, .op 1 .pure, .op 2 .pure, .op 3 .pure, .op 4 .pure, .op 5 .pure, .op 6 .pure, .op 7 .pure, .op 8 .pure, .op 9 .pure, .op 10 .pure, .op 11 .pure, .op 12 .eff, .op 13 .pure, .op 14 .eff]) (.seq (.draw [.op 0 .pure, .op 1 .pure, .op 2 .pure, .op 3 .pure, .op 4 .pure, .op 5 .pure, .op 6 .pure, .op 7 .pure, .op 8 .pure, .op 9 .pure, .op 10 .pure, .op 11 .pure, .op 12 .eff, .op 13 .pure, .op 14 .eff]) .none))))) .none)) (.meet 1461501288881759191162698246220685009525284081680 [4, 12] (.seq .none (.seq (.seq .none (.seq .none (.seq (.draw [.op 0 .pure, .op 1 .pure, .op 2 .pure, .op 3 .pure, .op 4 .pure, .op 5 .pure, .op 6 .pure, .op 7 .pure, .op 8 .pure, .op 9 .pure, .op 10 .pure, .op 11 .pure, .op 12 .eff, .op 13 .pure, .op 14 .eff]) .none))) .none)) (.seq .none (.seq .none .none)))))))
theorem T119_ok : chkFn prog Tryz.f119 T119 = true := by kernel_rfl
def B119 (a_p0 u_p1 : Value) (w : World) (K : Value → World → Prop) : Prop :=
  pv prog (oBi .len #[22] 3 #[false] #[a_p0]) w fun t_0 w =>
  lp (fun σ w again_3 => pop σ fun u_1 σ => pop σ fun nd_2 σ => fin σ <|
    pvv prog (binOp .geq 3 nd_2 (.int .i64 8)) w fun t_4 w =>
    cd t_4 (
      pvv prog (binOp .rem 79 u_1 (.int .u64 100000000)) w fun t_5 w =>
      pvv prog (convert 79 74 t_5) w fun t_6 w =>
      pvv prog (binOp .quo 79 u_1 (.int .u64 100000000)) w fun t_7 w =>
      pvv prog (binOp .quo 74 t_6 (.int .u32 10000)) w fun t_8 w =>
      pvv prog (binOp .rem 74 t_6 (.int .u32 10000)) w fun t_9 w =>
      pvv prog (binOp .quo 74 t_9 (.int .u32 100)) w fun t_10 w =>
      pvv prog (binOp .mul 74 t_10 (.int .u32 2)) w fun t_11 w =>
      pvv prog (binOp .rem 74 t_9 (.int .u32 100)) w fun t_12 w =>
      pvv prog (binOp .mul 74 t_12 (.int .u32 2)) w fun t_13 w =>
      pvv prog (binOp .quo 74 t_8 (.int .u32 100)) w fun t_14 w =>
      pvv prog (binOp .mul 74 t_14 (.int .u32 2)) w fun t_15 w =>
      pvv prog (binOp .rem 74 t_8 (.int .u32 100)) w fun t_16 w =>
      pvv prog (binOp .mul 74 t_16 (.int .u32 2)) w fun t_17 w =>
      dr w fun w =>
      pvv prog (binOp .sub 3 nd_2 (.int .i64 1)) w fun t_18 w =>
      pvv prog (binOp .sub 3 nd_2 (.int .i64 2)) w fun t_19 w =>
      pvv prog (binOp .add 74 t_13 (.int .u32 1)) w fun t_20 w =>
      pvv prog (Instr.index 9 (.string ⟨#[48, 48, 48, 49, 48, 50, 48, 51, 48, 52, 48, 53, 48, 54, 48, 55, 48, 56, 48, 57, 49, 48, 49, 49, 49, 50, 49, 51, 49, 52, 49, 53, 49, 54, 49, 55, 49, 56, 49, 57, 50, 48, 50, 49, 50, 50, 50, 51, 50, 52, 50, 53, 50, 54, 50, 55, 50, 56, 50, 57, 51, 48, 51, 49, 51, 50, 51, 51, 51, 52, 51, 53, 51, 54, 51, 55, 51, 56, 51, 57, 52, 48, 52, 49, 52, 50, 52, 51, 52, 52, 52, 53, 52, 54, 52, 55, 52, 56, 52, 57, 53, 48, 53, 49, 53, 50, 53, 51, 53, 52, 53, 53, 53, 54, 53, 55, 53, 56, 53, 57, 54, 48, 54, 49, 54, 50, 54, 51, 54, 52, 54, 53, 54, 54, 54, 55, 54, 56, 54, 57, 55, 48, 55, 49, 55, 50, 55, 51, 55, 52, 55, 53, 55, 54, 55, 55, 55, 56, 55, 57, 56, 48, 56, 49, 56, 50, 56, 51, 56, 52, 56, 53, 56, 54, 56, 55, 56, 56, 56, 57, 57, 48, 57, 49, 57, 50, 57, 51, 57, 52, 57, 53, 57, 54, 57, 55, 57, 56, 57, 57]⟩) t_20) w fun t_21 w =>
      pvv prog (Instr.index 9 (.string ⟨#[48, 48, 48, 49, 48, 50, 48, 51, 48, 52, 48, 53, 48, 54, 48, 55, 48, 56, 48, 57, 49, 48, 49, 49, 49, 50, 49, 51, 49, 52, 49, 53, 49, 54, 49, 55, 49, 56, 49, 57, 50, 48, 50, 49, 50, 50, 50, 51, 50, 52, 50, 53, 50, 54, 50, 55, 50, 56, 50, 57, 51, 48, 51, 49, 51, 50, 51, 51, 51, 52, 51, 53, 51, 54, 51, 55, 51, 56, 51, 57, 52, 48, 52, 49, 52, 50, 52, 51, 52, 52, 52, 53, 52, 54, 52, 55, 52, 56, 52, 57, 53, 48, 53, 49, 53, 50, 53, 51, 53, 52, 53, 53, 53, 54, 53, 55, 53, 56, 53, 57, 54, 48, 54, 49, 54, 50, 54, 51, 54, 52, 54, 53, 54, 54, 54, 55, 54, 56, 54, 57, 55, 48, 55, 49, 55, 50, 55, 51, 55, 52, 55, 53, 55, 54, 55, 55, 55, 56, 55, 57, 56, 48, 56, 49, 56, 50, 56, 51, 56, 52, 56, 53, 56, 54, 56, 55, 56, 56, 56, 57, 57, 48, 57, 49, 57, 50, 57, 51, 57, 52, 57, 53, 57, 54, 57, 55, 57, 56, 57, 57]⟩) t_13) w fun t_22 w =>
      pvv prog (Instr.indexAt 22 a_p0 t_18) w fun t_23 w =>
      efu prog (Instr.storeAt 5 t_23 t_21) w fun u_24 w =>
      pvv prog (Instr.indexAt 22 a_p0 t_19) w fun t_25 w =>
      efu prog (Instr.storeAt 5 t_25 t_22) w fun u_26 w =>
      dr w fun w =>
      pvv prog (binOp .sub 3 nd_2 (.int .i64 3)) w fun t_27 w =>
      pvv prog (binOp .sub 3 nd_2 (.int .i64 4)) w fun t_28 w =>
      pvv prog (binOp .add 74 t_11 (.int .u32 1)) w fun t_29 w =>
      pvv prog (Instr.index 9 (.string ⟨#[48, 48, 48, 49, 48, 50, 48, 51, 48, 52, 48, 53, 48, 54, 48, 55, 48, 56, 48, 57, 49, 48, 49, 49, 49, 50, 49, 51, 49, 52, 49, 53, 49, 54, 49, 55, 49, 56, 49, 57, 50, 48, 50, 49, 50, 50, 50, 51, 50, 52, 50, 53, 50, 54, 50, 55, 50, 56, 50, 57, 51, 48, 51, 49, 51, 50, 51, 51, 51, 52, 51, 53, 51, 54, 51, 55, 51, 56, 51, 57, 52, 48, 52, 49, 52, 50, 52, 51, 52, 52, 52, 53, 52, 54, 52, 55, 52, 56, 52, 57, 53, 48, 53, 49, 53, 50, 53, 51, 53, 52, 53, 53, 53, 54, 53, 55, 53, 56, 53, 57, 54, 48, 54, 49, 54, 50, 54, 51, 54, 52, 54, 53, 54, 54, 54, 55, 54, 56, 54, 57, 55, 48, 55, 49, 55, 50, 55, 51, 55, 52, 55, 53, 55, 54, 55, 55, 55, 56, 55, 57, 56, 48, 56, 49, 56, 50, 56, 51, 56, 52, 56, 53, 56, 54, 56, 55, 56, 56, 56, 57, 57, 48, 57, 49, 57, 50, 57, 51, 57, 52, 57, 53, 57, 54, 57, 55, 57, 56, 57, 57]⟩) t_29) w fun t_30 w =>
      pvv prog (Instr.index 9 (.string ⟨#[48, 48, 48, 49, 48, 50, 48, 51, 48, 52, 48, 53, 48, 54, 48, 55, 48, 56, 48, 57, 49, 48, 49, 49, 49, 50, 49, 51, 49, 52, 49, 53, 49, 54, 49, 55, 49, 56, 49, 57, 50, 48, 50, 49, 50, 50, 50, 51, 50, 52, 50, 53, 50, 54, 50, 55, 50, 56, 50, 57, 51, 48, 51, 49, 51, 50, 51, 51, 51, 52, 51, 53, 51, 54, 51, 55, 51, 56, 51, 57, 52, 48, 52, 49, 52, 50, 52, 51, 52, 52, 52, 53, 52, 54, 52, 55, 52, 56, 52, 57, 53, 48, 53, 49, 53, 50, 53, 51, 53, 52, 53, 53, 53, 54, 53, 55, 53, 56, 53, 57, 54, 48, 54, 49, 54, 50, 54, 51, 54, 52, 54, 53, 54, 54, 54, 55, 54, 56, 54, 57, 55, 48, 55, 49, 55, 50, 55, 51, 55, 52, 55, 53, 55, 54, 55, 55, 55, 56, 55, 57, 56, 48, 56, 49, 56, 50, 56, 51, 56, 52, 56, 53, 56, 54, 56, 55, 56, 56, 56, 57, 57, 48, 57, 49, 57, 50, 57, 51, 57, 52, 57, 53, 57, 54, 57, 55, 57, 56, 57, 57]⟩) t_11) w fun t_31 w =>
      pvv prog (Instr.indexAt 22 a_p0 t_27) w fun t_32 w =>
      efu prog (Instr.storeAt 5 t_32 t_30) w fun u_33 w =>
      pvv prog (Instr.indexAt 22 a_p0 t_28) w fun t_34 w =>
      efu prog (Instr.storeAt 5 t_34 t_31) w fun u_35 w =>
      dr w fun w =>
      pvv prog (binOp .sub 3 nd_2 (.int .i64 5)) w fun t_36 w =>
      pvv prog (binOp .sub 3 nd_2 (.int .i64 6)) w fun t_37 w =>
      pvv prog (binOp .add 74 t_17 (.int .u32 1)) w fun t_38 w =>
      pvv prog (Instr.index 9 (.string ⟨#[48, 48, 48, 49, 48, 50, 48, 51, 48, 52, 48, 53, 48, 54, 48, 55, 48, 56, 48, 57, 49, 48, 49, 49, 49, 50, 49, 51, 49, 52, 49, 53, 49, 54, 49, 55, 49, 56, 49, 57, 50, 48, 50, 49, 50, 50, 50, 51, 50, 52, 50, 53, 50, 54, 50, 55, 50, 56, 50, 57, 51, 48, 51, 49, 51, 50, 51, 51, 51, 52, 51, 53, 51, 54, 51, 55, 51, 56, 51, 57, 52, 48, 52, 49, 52, 50, 52, 51, 52, 52, 52, 53, 52, 54, 52, 55, 52, 56, 52, 57, 53, 48, 53, 49, 53, 50, 53, 51, 53, 52, 53, 53, 53, 54, 53, 55, 53, 56, 53, 57, 54, 48, 54, 49, 54, 50, 54, 51, 54, 52, 54, 53, 54, 54, 54, 55, 54, 56, 54, 57, 55, 48, 55, 49, 55, 50, 55, 51, 55, 52, 55, 53, 55, 54, 55, 55, 55, 56, 55, 57, 56, 48, 56, 49, 56, 50, 56, 51, 56, 52, 56, 53, 56, 54, 56, 55, 56, 56, 56, 57, 57, 48, 57, 49, 57, 50, 57, 51, 57, 52, 57, 53, 57, 54, 57, 55, 57, 56, 57, 57]⟩) t_38) w fun t_39 w =>
      pvv prog (Instr.index 9 (.string ⟨#[48, 48, 48, 49, 48, 50, 48, 51, 48, 52, 48, 53, 48, 54, 48, 55, 48, 56, 48, 57, 49, 48, 49, 49, 49, 50, 49, 51, 49, 52, 49, 53, 49, 54, 49, 55, 49, 56, 49, 57, 50, 48, 50, 49, 50, 50, 50, 51, 50, 52, 50, 53, 50, 54, 50, 55, 50, 56, 50, 57, 51, 48, 51, 49, 51, 50, 51, 51, 51, 52, 51, 53, 51, 54, 51, 55, 51, 56, 51, 57, 52, 48, 52, 49, 52, 50, 52, 51, 52, 52, 52, 53, 52, 54, 52, 55, 52, 56, 52, 57, 53, 48, 53, 49, 53, 50, 53, 51, 53, 52, 53, 53, 53, 54, 53, 55, 53, 56, 53, 57, 54, 48, 54, 49, 54, 50, 54, 51, 54, 52, 54, 53, 54, 54, 54, 55, 54, 56, 54, 57, 55, 48, 55, 49, 55, 50, 55, 51, 55, 52, 55, 53, 55, 54, 55, 55, 55, 56, 55, 57, 56, 48, 56, 49, 56, 50, 56, 51, 56, 52, 56, 53, 56, 54, 56, 55, 56, 56, 56, 57, 57, 48, 57, 49, 57, 50, 57, 51, 57, 52, 57, 53, 57, 54, 57, 55, 57, 56, 57, 57]⟩) t_17) w fun t_40 w =>
      pvv prog (Instr.indexAt 22 a_p0 t_36) w fun t_41 w =>
      efu prog (Instr.storeAt 5 t_41 t_39) w fun u_42 w =>
      pvv prog (Instr.indexAt 22 a_p0 t_37) w fun t_43 w =>
      efu prog (Instr.storeAt 5 t_43 t_40) w fun u_44 w =>
      dr w fun w =>
      pvv prog (binOp .sub 3 nd_2 (.int .i64 7)) w fun t_45 w =>
      pvv prog (binOp .sub 3 nd_2 (.int .i64 8)) w fun t_46 w =>
      pvv prog (binOp .add 74 t_15 (.int .u32 1)) w fun t_47 w =>
      pvv prog (Instr.index 9 (.string ⟨#[48, 48, 48, 49, 48, 50, 48, 51, 48, 52, 48, 53, 48, 54, 48, 55, 48, 56, 48, 57, 49, 48, 49, 49, 49, 50, 49, 51, 49, 52, 49, 53, 49, 54, 49, 55, 49, 56, 49, 57, 50, 48, 50, 49, 50, 50, 50, 51, 50, 52, 50, 53, 50, 54, 50, 55, 50, 56, 50, 57, 51, 48, 51, 49, 51, 50, 51, 51, 51, 52, 51, 53, 51, 54, 51, 55, 51, 56, 51, 57, 52, 48, 52, 49, 52, 50, 52, 51, 52, 52, 52, 53, 52, 54, 52, 55, 52, 56, 52, 57, 53, 48, 53, 49, 53, 50, 53, 51, 53, 52, 53, 53, 53, 54, 53, 55, 53, 56, 53, 57, 54, 48, 54, 49, 54, 50, 54, 51, 54, 52, 54, 53, 54, 54, 54, 55, 54, 56, 54, 57, 55, 48, 55, 49, 55, 50, 55, 51, 55, 52, 55, 53, 55, 54, 55, 55, 55, 56, 55, 57, 56, 48, 56, 49, 56, 50, 56, 51, 56, 52, 56, 53, 56, 54, 56, 55, 56, 56, 56, 57, 57, 48, 57, 49, 57, 50, 57, 51, 57, 52, 57, 53, 57, 54, 57, 55, 57, 56, 57, 57]⟩) t_47) w fun t_48 w =>
      pvv prog (Instr.index 9 (.string ⟨#[48, 48, 48, 49, 48, 50, 48, 51, 48, 52, 48, 53, 48, 54, 48, 55, 48, 56, 48, 57, 49, 48, 49, 49, 49, 50, 49, 51, 49, 52, 49, 53, 49, 54, 49, 55, 49, 56, 49, 57, 50, 48, 50, 49, 50, 50, 50, 51, 50, 52, 50, 53, 50, 54, 50, 55, 50, 56, 50, 57, 51, 48, 51, 49, 51, 50, 51, 51, 51, 52, 51, 53, 51, 54, 51, 55, 51, 56, 51, 57, 52, 48, 52, 49, 52, 50, 52, 51, 52, 52, 52, 53, 52, 54, 52, 55, 52, 56, 52, 57, 53, 48, 53, 49, 53, 50, 53, 51, 53, 52, 53, 53, 53, 54, 53, 55, 53, 56, 53, 57, 54, 48, 54, 49, 54, 50, 54, 51, 54, 52, 54, 53, 54, 54, 54, 55, 54, 56, 54, 57, 55, 48, 55, 49, 55, 50, 55, 51, 55, 52, 55, 53, 55, 54, 55, 55, 55, 56, 55, 57, 56, 48, 56, 49, 56, 50, 56, 51, 56, 52, 56, 53, 56, 54, 56, 55, 56, 56, 56, 57, 57, 48, 57, 49, 57, 50, 57, 51, 57, 52, 57, 53, 57, 54, 57, 55, 57, 56, 57, 57]⟩) t_15) w fun t_49 w =>
      pvv prog (Instr.indexAt 22 a_p0 t_45) w fun t_50 w =>
      efu prog (Instr.storeAt 5 t_50 t_48) w fun u_51 w =>
      pvv prog (Instr.indexAt 22 a_p0 t_46) w fun t_52 w =>
      efu prog (Instr.storeAt 5 t_52 t_49) w fun u_53 w =>
      pvv prog (binOp .sub 3 nd_2 (.int .i64 8)) w fun t_54 w =>
      again_3 [t_7, t_54] w) <|
    pvv prog (convert 79 74 u_1) w fun t_63 w =>
    jn (fun σ w => pop σ fun nd_64 σ => pop σ fun x_65 σ => fin σ <|
      jn (fun σ w => pop σ fun nd_66 σ => pop σ fun x_67 σ => fin σ <|
        pvv prog (binOp .gtr 3 nd_66 (.int .i64 0)) w fun t_68 w =>
        cd t_68 (
          pvv prog (binOp .add 74 (.int .u32 48) x_67) w fun t_69 w =>
          pvv prog (convert 74 5 t_69) w fun t_70 w =>
          pvv prog (Instr.indexAt 22 a_p0 (.int .i64 0)) w fun t_71 w =>
          efu prog (Instr.storeAt 5 t_71 t_70) w fun u_72 w =>
          K (.tuple #[]) w) <|
        K (.tuple #[]) w) fun k_73 =>
      pvv prog (binOp .geq 3 nd_64 (.int .i64 2)) w fun t_74 w =>
      cd t_74 (
        pvv prog (binOp .rem 74 x_65 (.int .u32 100)) w fun t_75 w =>
        pvv prog (binOp .mul 74 t_75 (.int .u32 2)) w fun t_76 w =>
        pvv prog (binOp .quo 74 x_65 (.int .u32 100)) w fun t_77 w =>
        dr w fun w =>
        pvv prog (binOp .sub 3 nd_64 (.int .i64 1)) w fun t_78 w =>
        pvv prog (binOp .sub 3 nd_64 (.int .i64 2)) w fun t_79 w =>
        pvv prog (binOp .add 74 t_76 (.int .u32 1)) w fun t_80 w =>
        pvv prog (Instr.index 9 (.string ⟨#[48, 48, 48, 49, 48, 50, 48, 51, 48, 52, 48, 53, 48, 54, 48, 55, 48, 56, 48, 57, 49, 48, 49, 49, 49, 50, 49, 51, 49, 52, 49, 53, 49, 54, 49, 55, 49, 56, 49, 57, 50, 48, 50, 49, 50, 50, 50, 51, 50, 52, 50, 53, 50, 54, 50, 55, 50, 56, 50, 57, 51, 48, 51, 49, 51, 50, 51, 51, 51, 52, 51, 53, 51, 54, 51, 55, 51, 56, 51, 57, 52, 48, 52, 49, 52, 50, 52, 51, 52, 52, 52, 53, 52, 54, 52, 55, 52, 56, 52, 57, 53, 48, 53, 49, 53, 50, 53, 51, 53, 52, 53, 53, 53, 54, 53, 55, 53, 56, 53, 57, 54, 48, 54, 49, 54, 50, 54, 51, 54, 52, 54, 53, 54, 54, 54, 55, 54, 56, 54, 57, 55, 48, 55, 49, 55, 50, 55, 51, 55, 52, 55, 53, 55, 54, 55, 55, 55, 56, 55, 57, 56, 48, 56, 49, 56, 50, 56, 51, 56, 52, 56, 53, 56, 54, 56, 55, 56, 56, 56, 57, 57, 48, 57, 49, 57, 50, 57, 51, 57, 52, 57, 53, 57, 54, 57, 55, 57, 56, 57, 57]⟩) t_80) w fun t_81 w =>
        pvv prog (Instr.index 9 (.string ⟨#[48, 48, 48, 49, 48, 50, 48, 51, 48, 52, 48, 53, 48, 54, 48, 55, 48, 56, 48, 57, 49, 48, 49, 49, 49, 50, 49, 51, 49, 52, 49, 53, 49, 54, 49, 55, 49, 56, 49, 57, 50, 48, 50, 49, 50, 50, 50, 51, 50, 52, 50, 53, 50, 54, 50, 55, 50, 56, 50, 57, 51, 48, 51, 49, 51, 50, 51, 51, 51, 52, 51, 53, 51, 54, 51, 55, 51, 56, 51, 57, 52, 48, 52, 49, 52, 50, 52, 51, 52, 52, 52, 53, 52, 54, 52, 55, 52, 56, 52, 57, 53, 48, 53, 49, 53, 50, 53, 51, 53, 52, 53, 53, 53, 54, 53, 55, 53, 56, 53, 57, 54, 48, 54, 49, 54, 50, 54, 51, 54, 52, 54, 53, 54, 54, 54, 55, 54, 56, 54, 57, 55, 48, 55, 49, 55, 50, 55, 51, 55, 52, 55, 53, 55, 54, 55, 55, 55, 56, 55, 57, 56, 48, 56, 49, 56, 50, 56, 51, 56, 52, 56, 53, 56, 54, 56, 55, 56, 56, 56, 57, 57, 48, 57, 49, 57, 50, 57, 51, 57, 52, 57, 53, 57, 54, 57, 55, 57, 56, 57, 57]⟩) t_76) w fun t_82 w =>
        pvv prog (Instr.indexAt 22 a_p0 t_78) w fun t_83 w =>
        efu prog (Instr.storeAt 5 t_83 t_81) w fun u_84 w =>
        pvv prog (Instr.indexAt 22 a_p0 t_79) w fun t_85 w =>
        efu prog (Instr.storeAt 5 t_85 t_82) w fun u_86 w =>
        pvv prog (binOp .sub 3 nd_64 (.int .i64 2)) w fun t_87 w =>
        k_73 [t_87, t_77] w) <|
      k_73 [nd_64, x_65] w) fun k_90 =>
    pvv prog (binOp .geq 3 nd_2 (.int .i64 4)) w fun t_91 w =>
    cd t_91 (
      pvv prog (binOp .rem 74 t_63 (.int .u32 10000)) w fun t_92 w =>
      pvv prog (binOp .quo 74 t_63 (.int .u32 10000)) w fun t_93 w =>
      pvv prog (binOp .quo 74 t_92 (.int .u32 100)) w fun t_94 w =>
      pvv prog (binOp .mul 74 t_94 (.int .u32 2)) w fun t_95 w =>
      pvv prog (binOp .rem 74 t_92 (.int .u32 100)) w fun t_96 w =>
      pvv prog (binOp .mul 74 t_96 (.int .u32 2)) w fun t_97 w =>
      dr w fun w =>
      pvv prog (binOp .sub 3 nd_2 (.int .i64 1)) w fun t_98 w =>
      pvv prog (binOp .sub 3 nd_2 (.int .i64 2)) w fun t_99 w =>
      pvv prog (binOp .add 74 t_97 (.int .u32 1)) w fun t_100 w =>
      pvv prog (Instr.index 9 (.string ⟨#[48, 48, 48, 49, 48, 50, 48, 51, 48, 52, 48, 53, 48, 54, 48, 55, 48, 56, 48, 57, 49, 48, 49, 49, 49, 50, 49, 51, 49, 52, 49, 53, 49, 54, 49, 55, 49, 56, 49, 57, 50, 48, 50, 49, 50, 50, 50, 51, 50, 52, 50, 53, 50, 54, 50, 55, 50, 56, 50, 57, 51, 48, 51, 49, 51, 50, 51, 51, 51, 52, 51, 53, 51, 54, 51, 55, 51, 56, 51, 57, 52, 48, 52, 49, 52, 50, 52, 51, 52, 52, 52, 53, 52, 54, 52, 55, 52, 56, 52, 57, 53, 48, 53, 49, 53, 50, 53, 51, 53, 52, 53, 53, 53, 54, 53, 55, 53, 56, 53, 57, 54, 48, 54, 49, 54, 50, 54, 51, 54, 52, 54, 53, 54, 54, 54, 55, 54, 56, 54, 57, 55, 48, 55, 49, 55, 50, 55, 51, 55, 52, 55, 53, 55, 54, 55, 55, 55, 56, 55, 57, 56, 48, 56, 49, 56, 50, 56, 51, 56, 52, 56, 53, 56, 54, 56, 55, 56, 56, 56, 57, 57, 48, 57, 49, 57, 50, 57, 51, 57, 52, 57, 53, 57, 54, 57, 55, 57, 56, 57, 57]⟩) t_100) w fun t_101 w =>
      pvv prog (Instr.index 9 (.string ⟨#[48, 48, 48, 49, 48, 50, 48, 51, 48, 52, 48, 53, 48, 54, 48, 55, 48, 56, 48, 57, 49, 48, 49, 49, 49, 50, 49, 51, 49, 52, 49, 53, 49, 54, 49, 55, 49, 56, 49, 57, 50, 48, 50, 49, 50, 50, 50, 51, 50, 52, 50, 53, 50, 54, 50, 55, 50, 56, 50, 57, 51, 48, 51, 49, 51, 50, 51, 51, 51, 52, 51, 53, 51, 54, 51, 55, 51, 56, 51, 57, 52, 48, 52, 49, 52, 50, 52, 51, 52, 52, 52, 53, 52, 54, 52, 55, 52, 56, 52, 57, 53, 48, 53, 49, 53, 50, 53, 51, 53, 52, 53, 53, 53, 54, 53, 55, 53, 56, 53, 57, 54, 48, 54, 49, 54, 50, 54, 51, 54, 52, 54, 53, 54, 54, 54, 55, 54, 56, 54, 57, 55, 48, 55, 49, 55, 50, 55, 51, 55, 52, 55, 53, 55, 54, 55, 55, 55, 56, 55, 57, 56, 48, 56, 49, 56, 50, 56, 51, 56, 52, 56, 53, 56, 54, 56, 55, 56, 56, 56, 57, 57, 48, 57, 49, 57, 50, 57, 51, 57, 52, 57, 53, 57, 54, 57, 55, 57, 56, 57, 57]⟩) t_97) w fun t_102 w =>
      pvv prog (Instr.indexAt 22 a_p0 t_98) w fun t_103 w =>
      efu prog (Instr.storeAt 5 t_103 t_101) w fun u_104 w =>
      pvv prog (Instr.indexAt 22 a_p0 t_99) w fun t_105 w =>
      efu prog (Instr.storeAt 5 t_105 t_102) w fun u_106 w =>
      dr w fun w =>
      pvv prog (binOp .sub 3 nd_2 (.int .i64 3)) w fun t_107 w =>
      pvv prog (binOp .sub 3 nd_2 (.int .i64 4)) w fun t_108 w =>
      pvv prog (binOp .add 74 t_95 (.int .u32 1)) w fun t_109 w =>
      pvv prog (Instr.index 9 (.string ⟨#[48, 48, 48, 49, 48, 50, 48, 51, 48, 52, 48, 53, 48, 54, 48, 55, 48, 56, 48, 57, 49, 48, 49, 49, 49, 50, 49, 51, 49, 52, 49, 53, 49, 54, 49, 55, 49, 56, 49, 57, 50, 48, 50, 49, 50, 50, 50, 51, 50, 52, 50, 53, 50, 54, 50, 55, 50, 56, 50, 57, 51, 48, 51, 49, 51, 50, 51, 51, 51, 52, 51, 53, 51, 54, 51, 55, 51, 56, 51, 57, 52, 48, 52, 49, 52, 50, 52, 51, 52, 52, 52, 53, 52, 54, 52, 55, 52, 56, 52, 57, 53, 48, 53, 49, 53, 50, 53, 51, 53, 52, 53, 53, 53, 54, 53, 55, 53, 56, 53, 57, 54, 48, 54, 49, 54, 50, 54, 51, 54, 52, 54, 53, 54, 54, 54, 55, 54, 56, 54, 57, 55, 48, 55, 49, 55, 50, 55, 51, 55, 52, 55, 53, 55, 54, 55, 55, 55, 56, 55, 57, 56, 48, 56, 49, 56, 50, 56, 51, 56, 52, 56, 53, 56, 54, 56, 55, 56, 56, 56, 57, 57, 48, 57, 49, 57, 50, 57, 51, 57, 52, 57, 53, 57, 54, 57, 55, 57, 56, 57, 57]⟩) t_109) w fun t_110 w =>
      pvv prog (Instr.index 9 (.string ⟨#[48, 48, 48, 49, 48, 50, 48, 51, 48, 52, 48, 53, 48, 54, 48, 55, 48, 56, 48, 57, 49, 48, 49, 49, 49, 50, 49, 51, 49, 52, 49, 53, 49, 54, 49, 55, 49, 56, 49, 57, 50, 48, 50, 49, 50, 50, 50, 51, 50, 52, 50, 53, 50, 54, 50, 55, 50, 56, 50, 57, 51, 48, 51, 49, 51, 50, 51, 51, 51, 52, 51, 53, 51, 54, 51, 55, 51, 56, 51, 57, 52, 48, 52, 49, 52, 50, 52, 51, 52, 52, 52, 53, 52, 54, 52, 55, 52, 56, 52, 57, 53, 48, 53, 49, 53, 50, 53, 51, 53, 52, 53, 53, 53, 54, 53, 55, 53, 56, 53, 57, 54, 48, 54, 49, 54, 50, 54, 51, 54, 52, 54, 53, 54, 54, 54, 55, 54, 56, 54, 57, 55, 48, 55, 49, 55, 50, 55, 51, 55, 52, 55, 53, 55, 54, 55, 55, 55, 56, 55, 57, 56, 48, 56, 49, 56, 50, 56, 51, 56, 52, 56, 53, 56, 54, 56, 55, 56, 56, 56, 57, 57, 48, 57, 49, 57, 50, 57, 51, 57, 52, 57, 53, 57, 54, 57, 55, 57, 56, 57, 57]⟩) t_95) w fun t_111 w =>
      pvv prog (Instr.indexAt 22 a_p0 t_107) w fun t_112 w =>
      efu prog (Instr.storeAt 5 t_112 t_110) w fun u_113 w =>
      pvv prog (Instr.indexAt 22 a_p0 t_108) w fun t_114 w =>
      efu prog (Instr.storeAt 5 t_114 t_111) w fun u_115 w =>
      pvv prog (binOp .sub 3 nd_2 (.int .i64 4)) w fun t_116 w =>
      k_90 [t_116, t_93] w) <|
    k_90 [nd_2, t_63] w) [u_p1, t_0] w
theorem B119_eq (a_p0 u_p1 : Value) (w : World) (K : Value → World → Prop) : denFn prog Tryz.f119 T119 [a_p0, u_p1] w K = B119 a_p0 u_p1 w K := by kernel_rfl
theorem c119 {a_p0 u_p1 : Value} {w : World} {K : Value → World → Prop} (h : B119 a_p0 u_p1 w K) : Calls prog 119 #[a_p0, u_p1] w (Ret K) :=
  denFn_calls Tryz.func119 T119_ok (Eq.mpr (B119_eq a_p0 u_p1 w K) h)

-- 152 unicode/utf8.decodeRuneInStringSlow
def T152 : Ann := (.seq .none (.seq .none (.seq (.seq .none (.seq (.seq .none .none) .none)) (.seq .none (.seq .none (.seq (.seq .none (.seq (.seq .none (.seq .none .none)) .none)) (.seq .none (.seq .none (.seq (.seq .none (.seq (.seq .none .none) .none)) (.seq .none (.seq (.seq .none (.seq (.seq .none .none) .none)) (.seq (.seq .none (.seq (.seq .none .none) .none)) (.seq .none (.seq (.seq .none (.seq (.seq .none .none) .none)) (.seq (.seq .none (.seq (.seq .none .none) .none)) (.seq .none (.seq (.seq .none (.seq (.seq .none .none) .none)) (.seq .none .none))))))))))))))))))
theorem T152_ok : chkFn prog Tryz.f152 T152 = true := by kernel_rfl
def B152 (s_p0 : Value) (w : World) (K : Value → World → Prop) : Prop :=
  pv prog (oBi .len #[9] 3 #[false] #[s_p0]) w fun t_0 w =>
  pvv prog (binOp .lss 3 t_0 (.int .i64 1)) w fun t_1 w =>
  cd t_1 (
    K (.tuple #[(.int .i32 65533), (.int .i64 0)]) w) <|
  pvv prog (Instr.index 9 s_p0 (.int .i64 0)) w fun t_2 w =>
  pvv prog (Instr.indexAt 245 (.pointer (some ⟨4, 0, none⟩)) t_2) w fun t_3 w =>
  ldv prog (Instr.loadAt 5 t_3) w fun t_4 w =>
  pvv prog (binOp .geq 5 t_4 (.int .u8 240)) w fun t_5 w =>
  cd t_5 (
    pvv prog (convert 5 21 t_4) w fun t_6 w =>
    pvv prog (binOp .shl 21 t_6 (.int .u64 31)) w fun t_7 w =>
    pvv prog (binOp .shr 21 t_7 (.int .u64 31)) w fun t_8 w =>
    pvv prog (Instr.index 9 s_p0 (.int .i64 0)) w fun t_9 w =>
    pvv prog (convert 5 21 t_9) w fun t_10 w =>
    pvv prog (binOp .andNot 21 t_10 t_8) w fun t_11 w =>
    pvv prog (binOp .and 21 (.int .i32 65533) t_8) w fun t_12 w =>
    pvv prog (binOp .or 21 t_11 t_12) w fun t_13 w =>
    K (.tuple #[t_13, (.int .i64 1)]) w) <|
  pvv prog (binOp .and 5 t_4 (.int .u8 7)) w fun t_14 w =>
  pvv prog (convert 5 3 t_14) w fun t_15 w =>
  pvv prog (binOp .shr 5 t_4 (.int .u64 4)) w fun t_16 w =>
  pvv prog (Instr.indexAt 248 (.pointer (some ⟨5, 0, none⟩)) t_16) w fun t_17 w =>
  ldv prog (Instr.loadAt 247 t_17) w fun t_18 w =>
  efv prog (Instr.alloc 247 true (.tuple #[])) w fun accept_19 w =>
  efu prog (Instr.storeAt 247 accept_19 t_18) w fun u_20 w =>
  pvv prog (binOp .lss 3 t_0 t_15) w fun t_21 w =>
  cd t_21 (
    K (.tuple #[(.int .i32 65533), (.int .i64 1)]) w) <|
  pvv prog (Instr.index 9 s_p0 (.int .i64 1)) w fun t_22 w =>
  pvv prog (Instr.fieldAt 247 accept_19 0) w fun t_23 w =>
  ldv prog (Instr.loadAt 5 t_23) w fun t_24 w =>
  pvv prog (binOp .lss 5 t_22 t_24) w fun t_25 w =>
  gate (some (t_25, false)) (fun K => pvv prog (Instr.fieldAt 247 accept_19 1) w K) w fun t_26 w =>
  gate (some (t_25, false)) (fun K => ldv prog (Instr.loadAt 5 t_26) w K) w fun t_27 w =>
  gate (some (t_25, false)) (fun K => K t_22 w) w fun t_28 w =>
  gate (some (t_25, false)) (fun K => pvv prog (binOp .lss 5 t_27 t_28) w K) w fun t_29 w =>
  pv prog (oPick t_25 (.bool true) t_29) w fun t_30 w =>
  cd t_30 (
    K (.tuple #[(.int .i32 65533), (.int .i64 1)]) w) <|
  pvv prog (binOp .leq 3 t_15 (.int .i64 2)) w fun t_31 w =>
  cd t_31 (
    pvv prog (binOp .and 5 t_2 (.int .u8 31)) w fun t_32 w =>
    pvv prog (convert 5 21 t_32) w fun t_33 w =>
    pvv prog (binOp .shl 21 t_33 (.int .u64 6)) w fun t_34 w =>
    pvv prog (binOp .and 5 t_22 (.int .u8 63)) w fun t_35 w =>
    pvv prog (convert 5 21 t_35) w fun t_36 w =>
    pvv prog (binOp .or 21 t_34 t_36) w fun t_37 w =>
    K (.tuple #[t_37, (.int .i64 2)]) w) <|
  pvv prog (Instr.index 9 s_p0 (.int .i64 2)) w fun t_38 w =>
  pvv prog (binOp .lss 5 t_38 (.int .u8 128)) w fun t_39 w =>
  gate (some (t_39, false)) (fun K => K t_38 w) w fun t_40 w =>
  gate (some (t_39, false)) (fun K => pvv prog (binOp .lss 5 (.int .u8 191) t_40) w K) w fun t_41 w =>
  pv prog (oPick t_39 (.bool true) t_41) w fun t_42 w =>
  cd t_42 (
    K (.tuple #[(.int .i32 65533), (.int .i64 1)]) w) <|
  pvv prog (binOp .leq 3 t_15 (.int .i64 3)) w fun t_43 w =>
  cd t_43 (
    pvv prog (binOp .and 5 t_2 (.int .u8 15)) w fun t_44 w =>
    pvv prog (convert 5 21 t_44) w fun t_45 w =>
    pvv prog (binOp .shl 21 t_45 (.int .u64 12)) w fun t_46 w =>
    pvv prog (binOp .and 5 t_22 (.int .u8 63)) w fun t_47 w =>
    pvv prog (convert 5 21 t_47) w fun t_48 w =>
    pvv prog (binOp .shl 21 t_48 (.int .u64 6)) w fun t_49 w =>
    pvv prog (binOp .or 21 t_46 t_49) w fun t_50 w =>
    pvv prog (binOp .and 5 t_38 (.int .u8 63)) w fun t_51 w =>
    pvv prog (convert 5 21 t_51) w fun t_52 w =>
    pvv prog (binOp .or 21 t_50 t_52) w fun t_53 w =>
    K (.tuple #[t_53, (.int .i64 3)]) w) <|
  pvv prog (Instr.index 9 s_p0 (.int .i64 3)) w fun t_54 w =>
  pvv prog (binOp .lss 5 t_54 (.int .u8 128)) w fun t_55 w =>
  gate (some (t_55, false)) (fun K => K t_54 w) w fun t_56 w =>
  gate (some (t_55, false)) (fun K => pvv prog (binOp .lss 5 (.int .u8 191) t_56) w K) w fun t_57 w =>
  pv prog (oPick t_55 (.bool true) t_57) w fun t_58 w =>
  cd t_58 (
    K (.tuple #[(.int .i32 65533), (.int .i64 1)]) w) <|
  pvv prog (binOp .and 5 t_2 (.int .u8 7)) w fun t_59 w =>
  pvv prog (convert 5 21 t_59) w fun t_60 w =>
  pvv prog (binOp .shl 21 t_60 (.int .u64 18)) w fun t_61 w =>
  pvv prog (binOp .and 5 t_22 (.int .u8 63)) w fun t_62 w =>
  pvv prog (convert 5 21 t_62) w fun t_63 w =>
  pvv prog (binOp .shl 21 t_63 (.int .u64 12)) w fun t_64 w =>
  pvv prog (binOp .or 21 t_61 t_64) w fun t_65 w =>
  pvv prog (binOp .and 5 t_38 (.int .u8 63)) w fun t_66 w =>
  pvv prog (convert 5 21 t_66) w fun t_67 w =>
  pvv prog (binOp .shl 21 t_67 (.int .u64 6)) w fun t_68 w =>
  pvv prog (binOp .or 21 t_65 t_68) w fun t_69 w =>
  pvv prog (binOp .and 5 t_54 (.int .u8 63)) w fun t_70 w =>
  pvv prog (convert 5 21 t_70) w fun t_71 w =>
  pvv prog (binOp .or 21 t_69 t_71) w fun t_72 w =>
  K (.tuple #[t_72, (.int .i64 4)]) w
theorem B152_eq (s_p0 : Value) (w : World) (K : Value → World → Prop) : denFn prog Tryz.f152 T152 [s_p0] w K = B152 s_p0 w K := by kernel_rfl
theorem c152 {s_p0 : Value} {w : World} {K : Value → World → Prop} (h : B152 s_p0 w K) : Calls prog 152 #[s_p0] w (Ret K) :=
  denFn_calls Tryz.func152 T152_ok (Eq.mpr (B152_eq s_p0 w K) h)

-- 177 internal/bytealg.IndexRabinKarp[string]
def T177 : Ann := (.seq .none (.seq .none (.seq .none (.seq .none (.seq (.seq .none (.block (.loop 1073480448 [8, 9] (.seq (.seq .none (.seq .none .none)) (.seq (.block .none) .none))))) (.seq (.seq .none (.seq (.seq .none .none) .none)) (.seq (.seq .none (.block (.loop 2417851639227059326158096 [8, 10] (.seq (.seq .none (.seq .none .none)) (.block (.seq .none (.seq .none (.seq .none (.seq .none (.seq .none (.seq (.seq .none .none) .none))))))))))) (.seq .none .none))))))))
theorem T177_ok : chkFn prog Tryz.f177 T177 = true := by kernel_rfl
def B177 (s_p0 sep_p1 : Value) (w : World) (K : Value → World → Prop) : Prop :=
  Calls prog 190 #[sep_p1] w (Ret fun t_0 w =>
  pvv prog (Instr.extract t_0 0) w fun t_1 w =>
  pvv prog (Instr.extract t_0 1) w fun t_2 w =>
  pv prog (oBi .len #[9] 3 #[false] #[sep_p1]) w fun t_3 w =>
  lp (fun σ w again_6 => pop σ fun h_4 σ => pop σ fun i_5 σ => fin σ <|
    pvv prog (binOp .lss 3 i_5 t_3) w fun t_7 w =>
    cd t_7 (
      pvv prog (binOp .mul 74 h_4 (.int .u32 16777619)) w fun t_8 w =>
      pvv prog (Instr.index 9 s_p0 i_5) w fun t_9 w =>
      pvv prog (convert 5 74 t_9) w fun t_10 w =>
      pvv prog (binOp .add 74 t_8 t_10) w fun t_11 w =>
      pvv prog (binOp .add 3 i_5 (.int .i64 1)) w fun t_12 w =>
      again_6 [t_11, t_12] w) <|
    pvv prog (oEq .eql 74 (.tmp 30) (.tmp 31) h_4 t_1) w fun t_13 w =>
    gate (some (t_13, true)) (fun K => K s_p0 w) w fun t_14 w =>
    gate (some (t_13, true)) (fun K => K t_3 w) w fun t_15 w =>
    gate (some (t_13, true)) (fun K => pvv prog (Instr.sliceAt 9 t_14 none (some t_15) none) w K) w fun t_16 w =>
    gate (some (t_13, true)) (fun K => K sep_p1 w) w fun t_17 w =>
    gate (some (t_13, true)) (fun K => pvv prog (oEq .eql 9 (.tmp 36) (.tmp 37) t_16 t_17) w K) w fun t_18 w =>
    pv prog (oPick t_13 t_18 (.bool false)) w fun t_19 w =>
    cd t_19 (
      K (.int .i64 0) w) <|
    lp (fun σ w again_22 => pop σ fun h_20 σ => pop σ fun i_21 σ => fin σ <|
      pv prog (oBi .len #[9] 3 #[false] #[s_p0]) w fun t_23 w =>
      pvv prog (binOp .lss 3 i_21 t_23) w fun t_24 w =>
      cd t_24 (
        pvv prog (binOp .mul 74 h_20 (.int .u32 16777619)) w fun t_25 w =>
        pvv prog (Instr.index 9 s_p0 i_21) w fun t_26 w =>
        pvv prog (convert 5 74 t_26) w fun t_27 w =>
        pvv prog (binOp .add 74 t_25 t_27) w fun t_28 w =>
        pvv prog (binOp .sub 3 i_21 t_3) w fun t_29 w =>
        pvv prog (Instr.index 9 s_p0 t_29) w fun t_30 w =>
        pvv prog (convert 5 74 t_30) w fun t_31 w =>
        pvv prog (binOp .mul 74 t_2 t_31) w fun t_32 w =>
        pvv prog (binOp .sub 74 t_28 t_32) w fun t_33 w =>
        pvv prog (binOp .add 3 i_21 (.int .i64 1)) w fun t_34 w =>
        pvv prog (oEq .eql 74 (.tmp 65) (.tmp 66) t_33 t_1) w fun t_35 w =>
        gate (some (t_35, true)) (fun K => K s_p0 w) w fun t_36 w =>
        gate (some (t_35, true)) (fun K => K t_34 w) w fun t_37 w =>
        gate (some (t_35, true)) (fun K => K t_3 w) w fun t_38 w =>
        gate (some (t_35, true)) (fun K => pvv prog (binOp .sub 3 t_37 t_38) w K) w fun t_39 w =>
        gate (some (t_35, true)) (fun K => K t_34 w) w fun t_40 w =>
        gate (some (t_35, true)) (fun K => pvv prog (Instr.sliceAt 9 t_36 (some t_39) (some t_40) none) w K) w fun t_41 w =>
        gate (some (t_35, true)) (fun K => K sep_p1 w) w fun t_42 w =>
        gate (some (t_35, true)) (fun K => pvv prog (oEq .eql 9 (.tmp 74) (.tmp 75) t_41 t_42) w K) w fun t_43 w =>
        pv prog (oPick t_35 t_43 (.bool false)) w fun t_44 w =>
        cd t_44 (
          pvv prog (binOp .sub 3 t_34 t_3) w fun t_45 w =>
          K t_45 w) <|
        again_22 [t_33, t_34] w) <|
      K (.int .i64 (-1)) w) [h_4, t_3] w) [(.int .u32 0), (.int .i64 0)] w)
theorem B177_eq (s_p0 sep_p1 : Value) (w : World) (K : Value → World → Prop) : denFn prog Tryz.f177 T177 [s_p0, sep_p1] w K = B177 s_p0 sep_p1 w K := by kernel_rfl
theorem c177 {s_p0 sep_p1 : Value} {w : World} {K : Value → World → Prop} (h : B177 s_p0 sep_p1 w K) : Calls prog 177 #[s_p0, sep_p1] w (Ret K) :=
  denFn_calls Tryz.func177 T177_ok (Eq.mpr (B177_eq s_p0 sep_p1 w K) h)

-- 12 (*holdfast/keys.Tree).Open
def T12 : Ann := (.seq .none (.seq .none (.meet 2130710528 [12] (.seq .none (.seq .none .none)) (.seq (.seq .none (.seq (.seq .none .none) .none)) (.seq .none (.seq .none (.seq (.seq .none (.seq (.seq .none .none) .none)) (.seq (.draw [.op 1 .pure, .op 2 .pure, .op 0 .load, .op 3 .eff, .op 4 .pure, .op 5 .pure, .op 6 .pure, .op 7 .pure, .op 8 .pure, .op 9 .pure, .op 10 .pure]) (.seq (.seq .none (.seq (.seq .none .none) .none)) (.seq .none .none))))))))))
theorem T12_ok : chkFn prog Tryz.f12 T12 = true := by kernel_rfl
def B12 (t_p0 tenant_p1 name_p2 sealed_p3 : Value) (w : World) (K : Value → World → Prop) : Prop :=
  Calls prog 31 #[t_p0, tenant_p1, name_p2] w (Ret fun t_0 w =>
  pvv prog (Instr.extract t_0 0) w fun t_1 w =>
  pvv prog (Instr.extract t_0 1) w fun t_2 w =>
  jn (fun σ w => pop σ fun e_3 σ => fin σ <|
    pvv prog (oEq .neq 32 (.tmp 31) (.const (.int .i64 0)) e_3 (.int .i64 0)) w fun t_4 w =>
    cd t_4 (
      K (.tuple #[(.slice none 0 0), (.int .i64 0), e_3]) w) <|
    pvv prog (Instr.indexAt 22 sealed_p3 (.int .i64 0)) w fun t_5 w =>
    ldv prog (Instr.loadAt 5 t_5) w fun t_6 w =>
    pvv prog (convert 5 3 t_6) w fun t_7 w =>
    Calls prog 32 #[t_p0, tenant_p1, name_p2, t_7] w (Ret fun t_8 w =>
    pvv prog (Instr.extract t_8 0) w fun t_9 w =>
    pvv prog (Instr.extract t_8 1) w fun t_10 w =>
    efv prog (Instr.alloc 28 true (.tuple #[])) w fun k_11 w =>
    efu prog (Instr.storeAt 28 k_11 t_9) w fun u_12 w =>
    pvv prog (oEq .neq 32 (.tmp 46) (.const (.int .i64 0)) t_10 (.int .i64 0)) w fun t_13 w =>
    cd t_13 (
      K (.tuple #[(.slice none 0 0), (.int .i64 0), t_10]) w) <|
    dr w fun w =>
    pvv prog (Instr.sliceAt 22 sealed_p3 (some (.int .i64 1)) none none) w fun t_14 w =>
    bindS (vN (Instr.loadAt 28 k_11)) fun m_16 => ldv prog (Instr.loadAt 28 k_11) w fun t_15 w =>
    Calls prog 34 #[t_15, t_14] w (Ret fun t_17 w =>
    pvv prog (Instr.extract t_17 0) w fun t_18 w =>
    pvv prog (Instr.extract t_17 1) w fun t_19 w =>
    pvv prog (Instr.extract t_17 2) w fun t_20 w =>
    pvv prog (oEq .neq 32 (.tmp 57) (.const (.int .i64 0)) t_20 (.int .i64 0)) w fun t_21 w =>
    cd t_21 (
      K (.tuple #[(.slice none 0 0), (.int .i64 0), t_20]) w) <|
    K (.tuple #[t_18, t_7, (.int .i64 0)]) w))) fun k_23 =>
  pvv prog (oEq .eql 32 (.tmp 24) (.const (.int .i64 0)) t_2 (.int .i64 0)) w fun t_24 w =>
  gate (some (t_24, true)) (fun K => K sealed_p3 w) w fun t_25 w =>
  gate (some (t_24, true)) (fun K => pv prog (oBi .len #[22] 3 #[false] #[t_25]) w K) w fun t_26 w =>
  gate (some (t_24, true)) (fun K => pvv prog (oEq .eql 3 (.tmp 28) (.const (.int .i64 0)) t_26 (.int .i64 0)) w K) w fun t_27 w =>
  pv prog (oPick t_24 t_27 (.bool false)) w fun t_28 w =>
  cd t_28 (
    k_23 [(.int .i64 3)] w) <|
  k_23 [t_2] w)
theorem B12_eq (t_p0 tenant_p1 name_p2 sealed_p3 : Value) (w : World) (K : Value → World → Prop) : denFn prog Tryz.f12 T12 [t_p0, tenant_p1, name_p2, sealed_p3] w K = B12 t_p0 tenant_p1 name_p2 sealed_p3 w K := by kernel_rfl
theorem c12 {t_p0 tenant_p1 name_p2 sealed_p3 : Value} {w : World} {K : Value → World → Prop} (h : B12 t_p0 tenant_p1 name_p2 sealed_p3 w K) : Calls prog 12 #[t_p0, tenant_p1, name_p2, sealed_p3] w (Ret K) :=
  denFn_calls Tryz.func12 T12_ok (Eq.mpr (B12_eq t_p0 tenant_p1 name_p2 sealed_p3 w K) h)

-- 60 (*holdfast/audit.Chain).links$1
def T60 : Ann := (.seq .none (.seq (.seq .none (.seq .none .none)) (.seq .none (.block (.loop 68718952480 [19] (.seq .none (.seq (.seq .none .none) (.seq (.block (.seq .none (.seq (.draw [.op 0 .pure, .op 3 .pure, .op 1 .load, .op 2 .pure, .op 4 .load, .op 5 .load, .op 6 .eff, .op 7 .pure, .op 8 .eff]) (.seq .none (.seq .none .none))))) .none))))))))
theorem T60_ok : chkFn prog Tryz.f60 T60 = true := by kernel_rfl
def B60 (yield_p0 x_p1 : Value) (w : World) (K : Value → World → Prop) : Prop :=
  ldv prog (Instr.loadAt 23 x_p1) w fun t_0 w =>
  pv prog (oNil t_0) w fun t_1 w =>
  pvv prog (Instr.fieldAt 69 t_1 0) w fun t_2 w =>
  ldv prog (Instr.loadAt 66 t_2) w fun t_3 w =>
  efv prog (Instr.alloc 66 true (.tuple #[])) w fun p_4 w =>
  efu prog (Instr.storeAt 66 p_4 t_3) w fun u_5 w =>
  ldv prog (Instr.loadAt 66 p_4) w fun t_6 w =>
  ef prog (oCall yield_p0 #[t_6]) w fun t_7 w =>
  pvv prog (Op.unary .not t_7) w fun t_8 w =>
  cd t_8 (
    K (.tuple #[]) w) <|
  ldv prog (Instr.loadAt 23 x_p1) w fun t_9 w =>
  pv prog (oNil t_9) w fun t_10 w =>
  pvv prog (Instr.fieldAt 69 t_10 4) w fun t_11 w =>
  ldv prog (Instr.loadAt 67 t_11) w fun t_12 w =>
  pv prog (oBi .len #[67] 3 #[false] #[t_12]) w fun t_13 w =>
  lp (fun σ w again_15 => pop σ fun t_14 σ => fin σ <|
    pvv prog (binOp .lss 3 t_14 t_13) w fun t_16 w =>
    cd t_16 (
      pvv prog (Instr.indexAt 67 t_12 t_14) w fun t_17 w =>
      ldv prog (Instr.loadAt 31 t_17) w fun t_18 w =>
      efv prog (Instr.alloc 31 true (.tuple #[])) w fun x_19 w =>
      efu prog (Instr.storeAt 31 x_19 t_18) w fun u_20 w =>
      dr w fun w =>
      pvv prog (Instr.fieldAt 66 p_4 0) w fun t_21 w =>
      pvv prog (Instr.fieldAt 66 p_4 1) w fun t_22 w =>
      bindS (vN (Instr.loadAt 3 t_21)) fun m_24 => ldv prog (Instr.loadAt 3 t_21) w fun t_23 w =>
      pvv prog (binOp .add 3 t_23 (.int .i64 1)) w fun t_25 w =>
      bindS (vN (Instr.loadAt 28 t_22)) fun m_27 => ldv prog (Instr.loadAt 28 t_22) w fun t_26 w =>
      bindS (vN (Instr.loadAt 31 x_19)) fun m_29 => ldv prog (Instr.loadAt 31 x_19) w fun t_28 w =>
      Calls prog 28 #[t_26, t_28] w (Ret fun t_30 w => stay prog none m_24 t_23 w <| 
      pvv prog (Instr.build 66 #[(0, t_25), (1, t_30)]) w fun t_31 w =>
      efu prog (Instr.storeAt 66 p_4 t_31) w fun u_32 w =>
      ldv prog (Instr.loadAt 66 p_4) w fun t_33 w =>
      ef prog (oCall yield_p0 #[t_33]) w fun t_34 w =>
      pvv prog (Op.unary .not t_34) w fun t_35 w =>
      cd t_35 (
        K (.tuple #[]) w) <|
      pvv prog (binOp .add 3 t_14 (.int .i64 1)) w fun t_36 w =>
      again_15 [t_36] w)) <|
    K (.tuple #[]) w) [(.int .i64 0)] w
theorem B60_eq (yield_p0 x_p1 : Value) (w : World) (K : Value → World → Prop) : denFn prog Tryz.f60 T60 [yield_p0, x_p1] w K = B60 yield_p0 x_p1 w K := by kernel_rfl
theorem c60 {yield_p0 x_p1 : Value} {w : World} {K : Value → World → Prop} (h : B60 yield_p0 x_p1 w K) : Calls prog 60 #[yield_p0, x_p1] w (Ret K) :=
  denFn_calls Tryz.func60 T60_ok (Eq.mpr (B60_eq yield_p0 x_p1 w K) h)

-- 124 unicode/utf8.DecodeLastRuneInString
def T124 : Ann := (.seq .none (.seq .none (.seq (.seq .none (.seq (.seq .none .none) .none)) (.seq .none (.seq .none (.seq (.seq .none (.seq (.seq .none .none) .none)) (.seq .none (.meet 17171480608 [5] (.seq .none (.block (.loop 17146314784 [5] (.seq (.seq .none (.seq .none .none)) (.seq (.block (.seq .none (.seq .none .none))) .none))))) (.meet 51539607584 [5] (.seq .none (.seq .none .none)) (.seq .none (.seq (.seq .none (.seq (.seq .none .none) .none)) (.seq .none .none))))))))))))
theorem T124_ok : chkFn prog Tryz.f124 T124 = true := by kernel_rfl
def B124 (s_p0 : Value) (w : World) (K : Value → World → Prop) : Prop :=
  pv prog (oBi .len #[9] 3 #[false] #[s_p0]) w fun t_0 w =>
  pvv prog (oEq .eql 3 (.tmp 9) (.const (.int .i64 0)) t_0 (.int .i64 0)) w fun t_1 w =>
  cd t_1 (
    K (.tuple #[(.int .i32 65533), (.int .i64 0)]) w) <|
  pvv prog (binOp .sub 3 t_0 (.int .i64 1)) w fun t_2 w =>
  pvv prog (Instr.index 9 s_p0 t_2) w fun t_3 w =>
  pvv prog (convert 5 21 t_3) w fun t_4 w =>
  pvv prog (binOp .lss 21 t_4 (.int .i32 128)) w fun t_5 w =>
  cd t_5 (
    K (.tuple #[t_4, (.int .i64 1)]) w) <|
  pvv prog (binOp .sub 3 t_0 (.int .i64 4)) w fun t_6 w =>
  pv prog (oBi .max #[3, 3] 3 #[false, true] #[t_6, (.int .i64 0)]) w fun t_7 w =>
  jn (fun σ w => pop σ fun start_8 σ => fin σ <|
    jn (fun σ w => pop σ fun start_9 σ => fin σ <|
      pvv prog (Instr.sliceAt 9 s_p0 (some start_9) (some t_0) none) w fun t_10 w =>
      Calls prog 122 #[t_10] w (Ret fun t_11 w =>
      pvv prog (Instr.extract t_11 0) w fun t_12 w =>
      pvv prog (Instr.extract t_11 1) w fun t_13 w =>
      pvv prog (binOp .add 3 start_9 t_13) w fun t_14 w =>
      pvv prog (oEq .neq 3 (.tmp 46) (.tmp 47) t_14 t_0) w fun t_15 w =>
      cd t_15 (
        K (.tuple #[(.int .i32 65533), (.int .i64 1)]) w) <|
      K (.tuple #[t_12, t_13]) w)) fun k_16 =>
    pvv prog (binOp .lss 3 start_8 (.int .i64 0)) w fun t_17 w =>
    cd t_17 (
      k_16 [(.int .i64 0)] w) <|
    k_16 [start_8] w) fun k_18 =>
  pvv prog (binOp .sub 3 t_2 (.int .i64 1)) w fun t_19 w =>
  lp (fun σ w again_21 => pop σ fun start_20 σ => fin σ <|
    pvv prog (binOp .geq 3 start_20 t_7) w fun t_22 w =>
    cd t_22 (
      pvv prog (Instr.index 9 s_p0 start_20) w fun t_23 w =>
      Calls prog 154 #[t_23] w (Ret fun t_24 w =>
      cd t_24 (
        k_18 [start_20] w) <|
      pvv prog (binOp .sub 3 start_20 (.int .i64 1)) w fun t_25 w =>
      again_21 [t_25] w)) <|
    k_18 [start_20] w) [t_19] w
theorem B124_eq (s_p0 : Value) (w : World) (K : Value → World → Prop) : denFn prog Tryz.f124 T124 [s_p0] w K = B124 s_p0 w K := by kernel_rfl
theorem c124 {s_p0 : Value} {w : World} {K : Value → World → Prop} (h : B124 s_p0 w K) : Calls prog 124 #[s_p0] w (Ret K) :=
  denFn_calls Tryz.func124 T124_ok (Eq.mpr (B124_eq s_p0 w K) h)

-- 72 holdfast/codec.Key
def T72 : Ann := (.seq .none (.seq (.seq .none (.seq (.seq .none .none) .none)) (.seq .none (.seq (.seq .none (.block (.loop 4294836316 [4, 17] (.seq .none (.seq (.seq .none .none) (.seq (.block (.seq .none (.seq (.seq .none (.seq (.seq .none .none) .none)) (.seq .none .none)))) .none)))))) (.seq (.seq .none (.seq (.seq .none .none) .none)) (.seq .none .none))))))
theorem T72_ok : chkFn prog Tryz.f72 T72 = true := by kernel_rfl
def B72 (parts_p0 : Value) (w : World) (K : Value → World → Prop) : Prop :=
  pv prog (oBi .len #[39] 3 #[false] #[parts_p0]) w fun t_0 w =>
  pvv prog (binOp .lss 3 t_0 (.int .i64 1)) w fun t_1 w =>
  gate (some (t_1, false)) (fun K => K parts_p0 w) w fun t_2 w =>
  gate (some (t_1, false)) (fun K => pv prog (oBi .len #[39] 3 #[false] #[t_2]) w K) w fun t_3 w =>
  gate (some (t_1, false)) (fun K => pvv prog (binOp .gtr 3 t_3 (.int .i64 8)) w K) w fun t_4 w =>
  pv prog (oPick t_1 (.bool true) t_4) w fun t_5 w =>
  cd t_5 (
    K (.tuple #[(.slice none 0 0), (.int .i64 2)]) w) <|
  pv prog (oBi .len #[39] 3 #[false] #[parts_p0]) w fun t_6 w =>
  lp (fun σ w again_9 => pop σ fun out_7 σ => pop σ fun t_8 σ => fin σ <|
    pvv prog (binOp .lss 3 t_8 t_6) w fun t_10 w =>
    cd t_10 (
      pvv prog (Instr.indexAt 39 parts_p0 t_8) w fun t_11 w =>
      ldv prog (Instr.loadAt 9 t_11) w fun t_12 w =>
      pv prog (oBi .len #[9] 3 #[false] #[t_12]) w fun t_13 w =>
      pvv prog (binOp .gtr 3 t_13 (.int .i64 64)) w fun t_14 w =>
      cd t_14 (
        K (.tuple #[(.slice none 0 0), (.int .i64 6)]) w) <|
      Calls prog 100 #[t_12, (.string ⟨#[0]⟩), (.string ⟨#[0, 255]⟩)] w (Ret fun t_15 w =>
      ef prog (oBi .append #[22, 9] 22 #[false, false] #[out_7, t_15]) w fun t_16 w =>
      efv prog (Instr.buildSlice 22 2 #[(0, (.int .u8 0)), (1, (.int .u8 1))]) w fun t_17 w =>
      ef prog (oBi .append #[22, 22] 22 #[false, false] #[t_16, t_17]) w fun t_18 w =>
      pvv prog (binOp .add 3 t_8 (.int .i64 1)) w fun t_19 w =>
      again_9 [t_18, t_19] w)) <|
    pv prog (oBi .len #[22] 3 #[false] #[out_7]) w fun t_20 w =>
    pvv prog (binOp .gtr 3 t_20 (.int .i64 64)) w fun t_21 w =>
    cd t_21 (
      K (.tuple #[(.slice none 0 0), (.int .i64 6)]) w) <|
    K (.tuple #[out_7, (.int .i64 0)]) w) [(.slice none 0 0), (.int .i64 0)] w
theorem B72_eq (parts_p0 : Value) (w : World) (K : Value → World → Prop) : denFn prog Tryz.f72 T72 [parts_p0] w K = B72 parts_p0 w K := by kernel_rfl
theorem c72 {parts_p0 : Value} {w : World} {K : Value → World → Prop} (h : B72 parts_p0 w K) : Calls prog 72 #[parts_p0] w (Ret K) :=
  denFn_calls Tryz.func72 T72_ok (Eq.mpr (B72_eq parts_p0 w K) h)

-- 190 internal/bytealg.hashStr[string]
def T190 : Ann := (.seq .none (.seq .none (.seq (.seq .none (.block (.loop 4193840 [4, 5] (.seq (.seq .none (.seq .none .none)) (.seq (.block .none) .none))))) (.seq .none (.seq (.seq .none (.block (.loop 137422176704 [6, 7, 8] (.seq (.seq .none (.seq .none .none)) (.seq (.block (.meet 16911433792 [6] (.seq .none (.seq .none .none)) .none)) .none))))) (.seq .none .none))))))
theorem T190_ok : chkFn prog Tryz.f190 T190 = true := by kernel_rfl
def B190 (sep_p0 : Value) (w : World) (K : Value → World → Prop) : Prop :=
  lp (fun σ w again_2 => pop σ fun hash_0 σ => pop σ fun i_1 σ => fin σ <|
    pv prog (oBi .len #[9] 3 #[false] #[sep_p0]) w fun t_3 w =>
    pvv prog (binOp .lss 3 i_1 t_3) w fun t_4 w =>
    cd t_4 (
      pvv prog (binOp .mul 74 hash_0 (.int .u32 16777619)) w fun t_5 w =>
      pvv prog (Instr.index 9 sep_p0 i_1) w fun t_6 w =>
      pvv prog (convert 5 74 t_6) w fun t_7 w =>
      pvv prog (binOp .add 74 t_5 t_7) w fun t_8 w =>
      pvv prog (binOp .add 3 i_1 (.int .i64 1)) w fun t_9 w =>
      again_2 [t_8, t_9] w) <|
    pv prog (oBi .len #[9] 3 #[false] #[sep_p0]) w fun t_10 w =>
    lp (fun σ w again_14 => pop σ fun pow_11 σ => pop σ fun sq_12 σ => pop σ fun i_13 σ => fin σ <|
      pvv prog (binOp .gtr 3 i_13 (.int .i64 0)) w fun t_15 w =>
      cd t_15 (
        jn (fun σ w => pop σ fun pow_16 σ => fin σ <|
          pvv prog (binOp .mul 74 sq_12 sq_12) w fun t_17 w =>
          pvv prog (binOp .shr 3 i_13 (.int .u64 1)) w fun t_18 w =>
          again_14 [pow_16, t_17, t_18] w) fun k_19 =>
        pvv prog (binOp .and 3 i_13 (.int .i64 1)) w fun t_20 w =>
        pvv prog (oEq .neq 3 (.tmp 29) (.const (.int .i64 0)) t_20 (.int .i64 0)) w fun t_21 w =>
        cd t_21 (
          pvv prog (binOp .mul 74 pow_11 sq_12) w fun t_22 w =>
          k_19 [t_22] w) <|
        k_19 [pow_11] w) <|
      K (.tuple #[hash_0, pow_11]) w) [(.int .u32 1), (.int .u32 16777619), t_10] w) [(.int .u32 0), (.int .i64 0)] w
theorem B190_eq (sep_p0 : Value) (w : World) (K : Value → World → Prop) : denFn prog Tryz.f190 T190 [sep_p0] w K = B190 sep_p0 w K := by kernel_rfl
theorem c190 {sep_p0 : Value} {w : World} {K : Value → World → Prop} (h : B190 sep_p0 w K) : Calls prog 190 #[sep_p0] w (Ret K) :=
  denFn_calls Tryz.func190 T190_ok (Eq.mpr (B190_eq sep_p0 w K) h)

-- 57 holdfast/seal.tagOf
def T57 : Ann := (.seq .none (.seq (.draw [.op 0 .pure, .op 2 .pure, .par [⟨1, .eff, (some 7), []⟩, ⟨5, .eff, (some 5), []⟩, ⟨3, .eff, (some 9), [(0, some 7)]⟩, ⟨4, .eff, (some 10), [(2, some 9)]⟩], .op 6 .eff]) (.seq .none .none)))
theorem T57_ok : chkFn prog Tryz.f57 T57 = true := by kernel_rfl
def B57 (key_p0 body_p1 : Value) (w : World) (K : Value → World → Prop) : Prop :=
  efv prog (Instr.box 28 key_p0) w fun key_0 w =>
  efv prog (Instr.alloc 130 true (.tuple #[])) w fun t_1 w =>
  dr w fun w =>
  pvv prog (Instr.sliceAt 28 key_0 none none none) w fun t_2 w =>
  par 4 w fun J_3 =>
    (∀ (σ : List (Option Value)) (w : World), J_3 σ w → un σ 0 (efv prog (Instr.buildSlice 22 1 #[(0, (.int .u8 116))]) w fun v_4 w => J_3 (σ.set 0 (some v_4)) w)) ∧
    (∀ (σ : List (Option Value)) (w : World), J_3 σ w → un σ 1 (efv prog (Instr.alloc 28 true (.tuple #[])) w fun v_5 w => J_3 (σ.set 1 (some v_5)) w)) ∧
    (∀ (σ : List (Option Value)) (w : World), J_3 σ w → un σ 2 (is σ 0 fun t_6 => ef prog (oBi .append #[22, 22] 22 #[false, false] #[t_6, body_p1]) w fun v_7 w => J_3 (σ.set 2 (some v_7)) w)) ∧
    (∀ (σ : List (Option Value)) (w : World), J_3 σ w → un σ 3 (is σ 2 fun t_8 => Calls prog 68 #[t_2, t_8] w (Ret fun v_9 w => J_3 (σ.set 3 (some v_9)) w))) ∧
    ∀ (σ : List (Option Value)) (w : World), J_3 σ w → is σ 0 fun t_10 => is σ 1 fun h_11 => is σ 2 fun t_12 => is σ 3 fun t_13 => 
    efu prog (Instr.storeAt 28 h_11 t_13) w fun u_14 w =>
    pvv prog (Instr.sliceAt 28 h_11 none (some (.int .i64 16)) none) w fun t_15 w =>
    efv prog (Instr.arrayAt 130 t_15) w fun t_16 w =>
    ldv prog (Instr.loadAt 130 t_16) w fun t_17 w =>
    efu prog (Instr.storeAt 130 t_1 t_17) w fun u_18 w =>
    ∃ r_19, (do loadVar 130 (← asAddr t_1)).run prog w = .ok r_19 w ∧ K r_19 w
theorem B57_eq (key_p0 body_p1 : Value) (w : World) (K : Value → World → Prop) : denFn prog Tryz.f57 T57 [key_p0, body_p1] w K = B57 key_p0 body_p1 w K := by kernel_rfl
theorem c57 {key_p0 body_p1 : Value} {w : World} {K : Value → World → Prop} (h : B57 key_p0 body_p1 w K) : Calls prog 57 #[key_p0, body_p1] w (Ret K) :=
  denFn_calls Tryz.func57 T57_ok (Eq.mpr (B57_eq key_p0 body_p1 w K) h)

-- 153 strings.IndexRune
def T153 : Ann := (.seq .none (.block (.seq .none (.seq (.seq .none .none) (.seq .none (.seq (.seq (.seq .none (.block (.loop 12164183355622992813219379528005579144973741782332342384 [] (.seq .none (.seq (.seq .none .none) (.block (.seq .none (.seq .none (.seq (.seq .none .none) .none))))))))) (.seq .none .none)) (.seq .none (.seq (.seq .none .none) .none))))))))
theorem T153_ok : chkFn prog Tryz.f153 T153 = true := by kernel_rfl
def B153 (s_p0 r_p1 : Value) (w : World) (K : Value → World → Prop) : Prop :=
  pvv prog (binOp .leq 21 (.int .i32 0) r_p1) w fun t_0 w =>
  gate (some (t_0, true)) (fun K => K r_p1 w) w fun t_1 w =>
  gate (some (t_0, true)) (fun K => pvv prog (binOp .lss 21 t_1 (.int .i32 128)) w K) w fun t_2 w =>
  pv prog (oPick t_0 t_2 (.bool false)) w fun t_3 w =>
  cd t_3 (
    pvv prog (convert 21 5 r_p1) w fun t_4 w =>
    Calls prog 180 #[s_p0, t_4] w (Ret fun t_5 w =>
    K t_5 w)) <|
  pvv prog (oEq .eql 21 (.tmp 172) (.const (.int .i32 65533)) r_p1 (.int .i32 65533)) w fun t_6 w =>
  cd t_6 (
    efv prog (Instr.range 9 s_p0) w fun t_7 w =>
    lp (fun σ w again_8 => fin σ <|
      efv prog (Instr.next t_7 true 0) w fun t_9 w =>
      pvv prog (Instr.extract t_9 0) w fun t_10 w =>
      cd t_10 (
        pvv prog (Instr.extract t_9 1) w fun t_11 w =>
        pvv prog (Instr.extract t_9 2) w fun t_12 w =>
        pvv prog (oEq .eql 21 (.tmp 180) (.const (.int .i32 65533)) t_12 (.int .i32 65533)) w fun t_13 w =>
        cd t_13 (
          K t_11 w) <|
        again_8 [] w) <|
      K (.int .i64 (-1)) w) [] w) <|
  Calls prog 181 #[r_p1] w (Ret fun t_14 w =>
  pvv prog (Op.unary .not t_14) w fun t_15 w =>
  cd t_15 (
    K (.int .i64 (-1)) w) <|
  False)
theorem B153_eq (s_p0 r_p1 : Value) (w : World) (K : Value → World → Prop) : denFn prog Tryz.f153 T153 [s_p0, r_p1] w K = B153 s_p0 r_p1 w K := by kernel_rfl
theorem c153 {s_p0 r_p1 : Value} {w : World} {K : Value → World → Prop} (h : B153 s_p0 r_p1 w K) : Calls prog 153 #[s_p0, r_p1] w (Ret K) :=
  denFn_calls Tryz.func153 T153_ok (Eq.mpr (B153_eq s_p0 r_p1 w K) h)

-- 183 (*strings.Builder).grow
def T183 : Ann := (.seq (.draw [.op 0 .pure, .op 1 .pure, .op 2 .pure, .op 6 .pure, .op 9 .pure, .op 10 .pure, .op 11 .pure, .op 3 .load, .op 4 .pure, .op 5 .pure, .op 7 .pure, .op 12 .load, .op 13 .pure, .op 8 .eff, .op 14 .pure, .op 15 .pure]) (.seq .none .none))
theorem T183_ok : chkFn prog Tryz.f183 T183 = true := by kernel_rfl
def B183 (b_p0 n_p1 : Value) (w : World) (K : Value → World → Prop) : Prop :=
  dr w fun w =>
  pv prog (oNil b_p0) w fun t_0 w =>
  pvv prog (Instr.fieldAt 227 t_0 1) w fun t_1 w =>
  pv prog (oNil b_p0) w fun t_2 w =>
  pvv prog (Instr.fieldAt 227 t_2 1) w fun t_3 w =>
  bindS (vN (Instr.loadAt 22 t_1)) fun m_5 => ldv prog (Instr.loadAt 22 t_1) w fun t_4 w =>
  pv prog (oBi .cap #[22] 3 #[false] #[t_4]) w fun t_6 w =>
  pvv prog (binOp .mul 3 (.int .i64 2) t_6) w fun t_7 w =>
  pvv prog (binOp .add 3 t_7 n_p1) w fun t_8 w =>
  bindS (vN (Instr.loadAt 22 t_3)) fun m_10 => ldv prog (Instr.loadAt 22 t_3) w fun t_9 w =>
  pv prog (oBi .len #[22] 3 #[false] #[t_9]) w fun t_11 w =>
  ef prog (oCall (.func (.func 192) #[] #[]) #[t_8]) w fun t_12 w => stay prog none m_10 t_9 w <| stay prog none m_5 t_4 w <| 
  pvv prog (Instr.sliceAt 22 t_12 none (some t_11) none) w fun t_13 w =>
  pv prog (oNil b_p0) w fun t_14 w =>
  pvv prog (Instr.fieldAt 227 t_14 1) w fun t_15 w =>
  ldv prog (Instr.loadAt 22 t_15) w fun t_16 w =>
  ef prog (oBi .copy #[22, 22] 3 #[false, false] #[t_13, t_16]) w fun t_17 w =>
  pv prog (oNil b_p0) w fun t_18 w =>
  pvv prog (Instr.fieldAt 227 t_18 1) w fun t_19 w =>
  efu prog (Instr.storeAt 22 t_19 t_13) w fun u_20 w =>
  K (.tuple #[]) w
theorem B183_eq (b_p0 n_p1 : Value) (w : World) (K : Value → World → Prop) : denFn prog Tryz.f183 T183 [b_p0, n_p1] w K = B183 b_p0 n_p1 w K := by kernel_rfl
theorem c183 {b_p0 n_p1 : Value} {w : World} {K : Value → World → Prop} (h : B183 b_p0 n_p1 w K) : Calls prog 183 #[b_p0, n_p1] w (Ret K) :=
  denFn_calls Tryz.func183 T183_ok (Eq.mpr (B183_eq b_p0 n_p1 w K) h)

-- 95 strings.makeASCIISet
def T95 : Ann := (.seq .none (.seq (.seq .none (.block (.loop 1048568 [4] (.seq (.seq .none (.seq .none .none)) (.seq (.block (.seq .none (.seq (.seq .none (.seq (.seq .none .none) .none)) .none))) .none))))) (.seq .none .none)))
theorem T95_ok : chkFn prog Tryz.f95 T95 = true := by kernel_rfl
def B95 (chars_p0 : Value) (w : World) (K : Value → World → Prop) : Prop :=
  efv prog (Instr.alloc 174 true (.tuple #[])) w fun as_0 w =>
  lp (fun σ w again_2 => pop σ fun i_1 σ => fin σ <|
    pv prog (oBi .len #[9] 3 #[false] #[chars_p0]) w fun t_3 w =>
    pvv prog (binOp .lss 3 i_1 t_3) w fun t_4 w =>
    cd t_4 (
      pvv prog (Instr.index 9 chars_p0 i_1) w fun t_5 w =>
      pvv prog (binOp .geq 5 t_5 (.int .u8 128)) w fun t_6 w =>
      cd t_6 (
        ldv prog (Instr.loadAt 174 as_0) w fun t_7 w =>
        efu prog (Instr.storeAt 174 as_0 t_7) w fun u_8 w =>
        ∃ r_9, (do loadVar 174 (← asAddr as_0)).run prog w = .ok r_9 w ∧ K (.tuple #[r_9, (.bool false)]) w) <|
      pvv prog (Instr.indexAt 174 as_0 t_5) w fun t_10 w =>
      efu prog (Instr.storeAt 4 t_10 (.bool true)) w fun u_11 w =>
      pvv prog (binOp .add 3 i_1 (.int .i64 1)) w fun t_12 w =>
      again_2 [t_12] w) <|
    ldv prog (Instr.loadAt 174 as_0) w fun t_13 w =>
    efu prog (Instr.storeAt 174 as_0 t_13) w fun u_14 w =>
    ∃ r_15, (do loadVar 174 (← asAddr as_0)).run prog w = .ok r_15 w ∧ K (.tuple #[r_15, (.bool true)]) w) [(.int .i64 0)] w
theorem B95_eq (chars_p0 : Value) (w : World) (K : Value → World → Prop) : denFn prog Tryz.f95 T95 [chars_p0] w K = B95 chars_p0 w K := by kernel_rfl
theorem c95 {chars_p0 : Value} {w : World} {K : Value → World → Prop} (h : B95 chars_p0 w K) : Calls prog 95 #[chars_p0] w (Ret K) :=
  denFn_calls Tryz.func95 T95_ok (Eq.mpr (B95_eq chars_p0 w K) h)

-- 54 holdfast/hash.Derive
def T54 : Ann := (.seq .none (.seq .none (.seq (.seq .none (.seq (.seq .none .none) .none)) (.seq .none .none))))
theorem T54_ok : chkFn prog Tryz.f54 T54 = true := by kernel_rfl
def B54 (key_p0 labels_p1 : Value) (w : World) (K : Value → World → Prop) : Prop :=
  efv prog (Instr.box 28 key_p0) w fun key_0 w =>
  efv prog (Instr.alloc 28 true (.tuple #[])) w fun t_1 w =>
  Calls prog 72 #[labels_p1] w (Ret fun t_2 w =>
  pvv prog (Instr.extract t_2 0) w fun t_3 w =>
  pvv prog (Instr.extract t_2 1) w fun t_4 w =>
  pvv prog (oEq .neq 32 (.tmp 13) (.const (.int .i64 0)) t_4 (.int .i64 0)) w fun t_5 w =>
  cd t_5 (
    pvv prog (Instr.build 28 #[]) w fun t_6 w =>
    efu prog (Instr.storeAt 28 t_1 t_6) w fun u_7 w =>
    ∃ r_8, (do loadVar 28 (← asAddr t_1)).run prog w = .ok r_8 w ∧ K (.tuple #[r_8, t_4]) w) <|
  pvv prog (Instr.sliceAt 28 key_0 none none none) w fun t_9 w =>
  Calls prog 68 #[t_9, t_3] w (Ret fun t_10 w =>
  efu prog (Instr.storeAt 28 t_1 t_10) w fun u_11 w =>
  ∃ r_12, (do loadVar 28 (← asAddr t_1)).run prog w = .ok r_12 w ∧ K (.tuple #[r_12, (.int .i64 0)]) w))
theorem B54_eq (key_p0 labels_p1 : Value) (w : World) (K : Value → World → Prop) : denFn prog Tryz.f54 T54 [key_p0, labels_p1] w K = B54 key_p0 labels_p1 w K := by kernel_rfl
theorem c54 {key_p0 labels_p1 : Value} {w : World} {K : Value → World → Prop} (h : B54 key_p0 labels_p1 w K) : Calls prog 54 #[key_p0, labels_p1] w (Ret K) :=
  denFn_calls Tryz.func54 T54_ok (Eq.mpr (B54_eq key_p0 labels_p1 w K) h)

-- 98 strings.trimLeftUnicode
def T98 : Ann := (.seq .none (.meet 4194273 [0] (.block (.loop 4194273 [0] (.seq (.seq .none (.seq .none .none)) (.block (.seq .none (.seq (.seq .none (.seq .none .none)) .none)))))) (.seq .none .none)))
theorem T98_ok : chkFn prog Tryz.f98 T98 = true := by kernel_rfl
def B98 (s_p0 cutset_p1 : Value) (w : World) (K : Value → World → Prop) : Prop :=
  jn (fun σ w => pop σ fun s_0 σ => fin σ <|
    K s_0 w) fun k_1 =>
  lp (fun σ w again_3 => pop σ fun s_2 σ => fin σ <|
    pv prog (oBi .len #[9] 3 #[false] #[s_2]) w fun t_4 w =>
    pvv prog (binOp .gtr 3 t_4 (.int .i64 0)) w fun t_5 w =>
    cd t_5 (
      Calls prog 122 #[s_2] w (Ret fun t_6 w =>
      pvv prog (Instr.extract t_6 0) w fun t_7 w =>
      pvv prog (Instr.extract t_6 1) w fun t_8 w =>
      Calls prog 123 #[cutset_p1, t_7] w (Ret fun t_9 w =>
      pvv prog (Op.unary .not t_9) w fun t_10 w =>
      cd t_10 (
        k_1 [s_2] w) <|
      pvv prog (Instr.sliceAt 9 s_2 (some t_8) none none) w fun t_11 w =>
      again_3 [t_11] w))) <|
    k_1 [s_2] w) [s_p0] w
theorem B98_eq (s_p0 cutset_p1 : Value) (w : World) (K : Value → World → Prop) : denFn prog Tryz.f98 T98 [s_p0, cutset_p1] w K = B98 s_p0 cutset_p1 w K := by kernel_rfl
theorem c98 {s_p0 cutset_p1 : Value} {w : World} {K : Value → World → Prop} (h : B98 s_p0 cutset_p1 w K) : Calls prog 98 #[s_p0, cutset_p1] w (Ret K) :=
  denFn_calls Tryz.func98 T98_ok (Eq.mpr (B98_eq s_p0 cutset_p1 w K) h)

-- 55 holdfast/seal.eight
def T55 : Ann := (.seq .none (.seq .none (.seq (.seq .none (.block (.loop 2096912 [8] (.seq .none (.seq (.seq .none .none) (.seq (.block (.seq .none .none)) .none)))))) (.seq .none .none))))
theorem T55_ok : chkFn prog Tryz.f55 T55 = true := by kernel_rfl
def B55 (n_p0 : Value) (w : World) (K : Value → World → Prop) : Prop :=
  efv prog (Instr.makeSlice 22 (.int .i64 8) (.int .i64 8)) w fun t_0 w =>
  pv prog (oBi .len #[22] 3 #[false] #[t_0]) w fun t_1 w =>
  lp (fun σ w again_3 => pop σ fun t_2 σ => fin σ <|
    pvv prog (binOp .lss 3 t_2 t_1) w fun t_4 w =>
    cd t_4 (
      pvv prog (binOp .mul 3 (.int .i64 8) t_2) w fun t_5 w =>
      pvv prog (binOp .sub 3 (.int .i64 56) t_5) w fun t_6 w =>
      pvv prog (binOp .shr 79 n_p0 t_6) w fun t_7 w =>
      pvv prog (convert 79 5 t_7) w fun t_8 w =>
      pvv prog (Instr.indexAt 22 t_0 t_2) w fun t_9 w =>
      efu prog (Instr.storeAt 5 t_9 t_8) w fun u_10 w =>
      pvv prog (binOp .add 3 t_2 (.int .i64 1)) w fun t_11 w =>
      again_3 [t_11] w) <|
    K t_0 w) [(.int .i64 0)] w
theorem B55_eq (n_p0 : Value) (w : World) (K : Value → World → Prop) : denFn prog Tryz.f55 T55 [n_p0] w K = B55 n_p0 w K := by kernel_rfl
theorem c55 {n_p0 : Value} {w : World} {K : Value → World → Prop} (h : B55 n_p0 w K) : Calls prog 55 #[n_p0] w (Ret K) :=
  denFn_calls Tryz.func55 T55_ok (Eq.mpr (B55_eq n_p0 w K) h)

-- 96 strings.trimLeftASCII
def T96 : Ann := (.seq .none (.meet 32737 [0] (.block (.loop 32737 [0] (.seq (.seq .none (.seq .none .none)) (.block (.seq (.seq .none (.seq .none .none)) .none))))) (.seq .none .none)))
theorem T96_ok : chkFn prog Tryz.f96 T96 = true := by kernel_rfl
def B96 (s_p0 as_p1 : Value) (w : World) (K : Value → World → Prop) : Prop :=
  jn (fun σ w => pop σ fun s_0 σ => fin σ <|
    K s_0 w) fun k_1 =>
  lp (fun σ w again_3 => pop σ fun s_2 σ => fin σ <|
    pv prog (oBi .len #[9] 3 #[false] #[s_2]) w fun t_4 w =>
    pvv prog (binOp .gtr 3 t_4 (.int .i64 0)) w fun t_5 w =>
    cd t_5 (
      pvv prog (Instr.index 9 s_2 (.int .i64 0)) w fun t_6 w =>
      Calls prog 121 #[as_p1, t_6] w (Ret fun t_7 w =>
      pvv prog (Op.unary .not t_7) w fun t_8 w =>
      cd t_8 (
        k_1 [s_2] w) <|
      pvv prog (Instr.sliceAt 9 s_2 (some (.int .i64 1)) none none) w fun t_9 w =>
      again_3 [t_9] w)) <|
    k_1 [s_2] w) [s_p0] w
theorem B96_eq (s_p0 as_p1 : Value) (w : World) (K : Value → World → Prop) : denFn prog Tryz.f96 T96 [s_p0, as_p1] w K = B96 s_p0 as_p1 w K := by kernel_rfl
theorem c96 {s_p0 as_p1 : Value} {w : World} {K : Value → World → Prop} (h : B96 s_p0 as_p1 w K) : Calls prog 96 #[s_p0, as_p1] w (Ret K) :=
  denFn_calls Tryz.func96 T96_ok (Eq.mpr (B96_eq s_p0 as_p1 w K) h)

-- 75 strconv.ParseUint
def T75 : Ann := (.seq .none (.seq .none (.seq (.seq .none (.seq (.seq .none .none) .none)) (.seq .none .none))))
theorem T75_ok : chkFn prog Tryz.f75 T75 = true := by kernel_rfl
def B75 (s_p0 base_p1 bitSize_p2 : Value) (w : World) (K : Value → World → Prop) : Prop :=
  Calls prog 103 #[s_p0, base_p1, bitSize_p2] w (Ret fun t_0 w =>
  pvv prog (Instr.extract t_0 0) w fun t_1 w =>
  pvv prog (Instr.extract t_0 1) w fun t_2 w =>
  pvv prog (oEq .neq 151 (.tmp 17) (.const .nilIface) t_2 .nilIface) w fun t_3 w =>
  cd t_3 (
    Calls prog 104 #[(.string ⟨#[80, 97, 114, 115, 101, 85, 105, 110, 116]⟩), s_p0, base_p1, bitSize_p2, t_2] w (Ret fun t_4 w =>
    K (.tuple #[t_1, t_4]) w)) <|
  K (.tuple #[t_1, .nilIface]) w)
theorem B75_eq (s_p0 base_p1 bitSize_p2 : Value) (w : World) (K : Value → World → Prop) : denFn prog Tryz.f75 T75 [s_p0, base_p1, bitSize_p2] w K = B75 s_p0 base_p1 bitSize_p2 w K := by kernel_rfl
theorem c75 {s_p0 base_p1 bitSize_p2 : Value} {w : World} {K : Value → World → Prop} (h : B75 s_p0 base_p1 bitSize_p2 w K) : Calls prog 75 #[s_p0, base_p1, bitSize_p2] w (Ret K) :=
  denFn_calls Tryz.func75 T75_ok (Eq.mpr (B75_eq s_p0 base_p1 bitSize_p2 w K) h)

-- 156 (*strings.Builder).WriteString
def T156 : Ann := (.seq .none (.seq .none (.seq .none (.seq .none .none))))
theorem T156_ok : chkFn prog Tryz.f156 T156 = true := by kernel_rfl
def B156 (b_p0 s_p1 : Value) (w : World) (K : Value → World → Prop) : Prop :=
  Calls prog 182 #[b_p0] w (Ret fun t_0 w =>
  pv prog (oNil b_p0) w fun t_1 w =>
  pvv prog (Instr.fieldAt 227 t_1 1) w fun t_2 w =>
  ldv prog (Instr.loadAt 22 t_2) w fun t_3 w =>
  ef prog (oBi .append #[22, 9] 22 #[false, false] #[t_3, s_p1]) w fun t_4 w =>
  pv prog (oNil b_p0) w fun t_5 w =>
  pvv prog (Instr.fieldAt 227 t_5 1) w fun t_6 w =>
  efu prog (Instr.storeAt 22 t_6 t_4) w fun u_7 w =>
  pv prog (oBi .len #[9] 3 #[false] #[s_p1]) w fun t_8 w =>
  K (.tuple #[t_8, .nilIface]) w)
theorem B156_eq (b_p0 s_p1 : Value) (w : World) (K : Value → World → Prop) : denFn prog Tryz.f156 T156 [b_p0, s_p1] w K = B156 b_p0 s_p1 w K := by kernel_rfl
theorem c156 {b_p0 s_p1 : Value} {w : World} {K : Value → World → Prop} (h : B156 b_p0 s_p1 w K) : Calls prog 156 #[b_p0, s_p1] w (Ret K) :=
  denFn_calls Tryz.func156 T156_ok (Eq.mpr (B156_eq b_p0 s_p1 w K) h)

-- 132 strconv.baseError
def T132 : Ann := (.seq .none (.seq .none .none))
theorem T132_ok : chkFn prog Tryz.f132 T132 = true := by kernel_rfl
def B132 (fn_p0 str_p1 base_p2 : Value) (w : World) (K : Value → World → Prop) : Prop :=
  Calls prog 159 #[str_p1] w (Ret fun t_0 w =>
  Calls prog 161 #[base_p2] w (Ret fun t_1 w =>
  pvv prog (binOp .add 9 (.string ⟨#[105, 110, 118, 97, 108, 105, 100, 32, 98, 97, 115, 101, 32]⟩) t_1) w fun t_2 w =>
  Calls prog 160 #[t_2] w (Ret fun t_3 w =>
  pvv prog (Instr.build 236 #[(0, fn_p0), (1, t_0), (2, t_3)]) w fun t_4 w =>
  efv prog (Instr.box 236 t_4) w fun t_5 w =>
  K t_5 w)))
theorem B132_eq (fn_p0 str_p1 base_p2 : Value) (w : World) (K : Value → World → Prop) : denFn prog Tryz.f132 T132 [fn_p0, str_p1, base_p2] w K = B132 fn_p0 str_p1 base_p2 w K := by kernel_rfl
theorem c132 {fn_p0 str_p1 base_p2 : Value} {w : World} {K : Value → World → Prop} (h : B132 fn_p0 str_p1 base_p2 w K) : Calls prog 132 #[fn_p0, str_p1, base_p2] w (Ret K) :=
  denFn_calls Tryz.func132 T132_ok (Eq.mpr (B132_eq fn_p0 str_p1 base_p2 w K) h)

-- 6 holdfast/keys.New
def T6 : Ann := (.seq .none (.seq .none .none))
theorem T6_ok : chkFn prog Tryz.f6 T6 = true := by kernel_rfl
def B6 (root_p0 : Value) (w : World) (K : Value → World → Prop) : Prop :=
  efv prog (Instr.box 28 root_p0) w fun root_0 w =>
  ldv prog (Instr.loadAt 28 root_0) w fun t_1 w =>
  efv prog (Instr.makeMap 70 none) w fun t_2 w =>
  efv prog (Instr.makeMap 71 none) w fun t_3 w =>
  pvv prog (Instr.build 73 #[(0, t_1), (2, t_2), (3, t_3)]) w fun t_4 w =>
  efv prog (Instr.box 73 t_4) w fun t_5 w =>
  K t_5 w
theorem B6_eq (root_p0 : Value) (w : World) (K : Value → World → Prop) : denFn prog Tryz.f6 T6 [root_p0] w K = B6 root_p0 w K := by kernel_rfl
theorem c6 {root_p0 : Value} {w : World} {K : Value → World → Prop} (h : B6 root_p0 w K) : Calls prog 6 #[root_p0] w (Ret K) :=
  denFn_calls Tryz.func6 T6_ok (Eq.mpr (B6_eq root_p0 w K) h)

-- 151 math/bits.TrailingZeros
def T151 : Ann := (.seq .none (.seq (.seq (.seq .none .none) .none) (.seq .none .none)))
theorem T151_ok : chkFn prog Tryz.f151 T151 = true := by kernel_rfl
def B151 (x_p0 : Value) (w : World) (K : Value → World → Prop) : Prop :=
  cd (.bool false) (
    pvv prog (convert 80 74 x_p0) w fun t_0 w =>
    Calls prog 178 #[t_0] w (Ret fun t_1 w =>
    K t_1 w)) <|
  Calls prog 179 #[x_p0] w (Ret fun t_2 w =>
  K t_2 w)
theorem B151_eq (x_p0 : Value) (w : World) (K : Value → World → Prop) : denFn prog Tryz.f151 T151 [x_p0] w K = B151 x_p0 w K := by kernel_rfl
theorem c151 {x_p0 : Value} {w : World} {K : Value → World → Prop} (h : B151 x_p0 w K) : Calls prog 151 #[x_p0] w (Ret K) :=
  denFn_calls Tryz.func151 T151_ok (Eq.mpr (B151_eq x_p0 w K) h)

-- 100 strings.ReplaceAll
def T100 : Ann := (.seq .none (.seq .none .none))
theorem T100_ok : chkFn prog Tryz.f100 T100 = true := by kernel_rfl
def B100 (s_p0 old_p1 new_p2 : Value) (w : World) (K : Value → World → Prop) : Prop :=
  Calls prog 125 #[s_p0, old_p1, new_p2, (.int .i64 (-1))] w (Ret fun t_0 w =>
  K t_0 w)
theorem B100_eq (s_p0 old_p1 new_p2 : Value) (w : World) (K : Value → World → Prop) : denFn prog Tryz.f100 T100 [s_p0, old_p1, new_p2] w K = B100 s_p0 old_p1 new_p2 w K := by kernel_rfl
theorem c100 {s_p0 old_p1 new_p2 : Value} {w : World} {K : Value → World → Prop} (h : B100 s_p0 old_p1 new_p2 w K) : Calls prog 100 #[s_p0, old_p1, new_p2] w (Ret K) :=
  denFn_calls Tryz.func100 T100_ok (Eq.mpr (B100_eq s_p0 old_p1 new_p2 w K) h)

-- 30 holdfast/audit.number
def T30 : Ann := (.seq .none (.seq .none (.seq .none .none)))
theorem T30_ok : chkFn prog Tryz.f30 T30 = true := by kernel_rfl
def B30 (n_p0 : Value) (w : World) (K : Value → World → Prop) : Prop :=
  Calls prog 52 #[n_p0] w (Ret fun t_0 w =>
  pvv prog (Instr.extract t_0 0) w fun t_1 w =>
  pvv prog (Instr.extract t_0 1) w fun t_2 w =>
  K t_1 w)
theorem B30_eq (n_p0 : Value) (w : World) (K : Value → World → Prop) : denFn prog Tryz.f30 T30 [n_p0] w K = B30 n_p0 w K := by kernel_rfl
theorem c30 {n_p0 : Value} {w : World} {K : Value → World → Prop} (h : B30 n_p0 w K) : Calls prog 30 #[n_p0] w (Ret K) :=
  denFn_calls Tryz.func30 T30_ok (Eq.mpr (B30_eq n_p0 w K) h)

-- 174 internal/stringslite.IndexByte
def T174 : Ann := (.seq .none (.seq .none .none))
theorem T174_ok : chkFn prog Tryz.f174 T174 = true := by kernel_rfl
def B174 (s_p0 c_p1 : Value) (w : World) (K : Value → World → Prop) : Prop :=
  ef prog (oCall (.func (.func 189) #[] #[]) #[s_p0, c_p1]) w fun t_0 w =>
  K t_0 w
theorem B174_eq (s_p0 c_p1 : Value) (w : World) (K : Value → World → Prop) : denFn prog Tryz.f174 T174 [s_p0, c_p1] w K = B174 s_p0 c_p1 w K := by kernel_rfl
theorem c174 {s_p0 c_p1 : Value} {w : World} {K : Value → World → Prop} (h : B174 s_p0 c_p1 w K) : Calls prog 174 #[s_p0, c_p1] w (Ret K) :=
  denFn_calls Tryz.func174 T174_ok (Eq.mpr (B174_eq s_p0 c_p1 w K) h)

-- 149 internal/strconv.bool2[int]
def T149 : Ann := (.seq .none (.seq (.seq .none (.seq (.seq .none .none) .none)) (.seq .none .none)))
theorem T149_ok : chkFn prog Tryz.f149 T149 = true := by kernel_rfl
def B149 (b_p0 : Value) (w : World) (K : Value → World → Prop) : Prop :=
  cd b_p0 (
    K (.int .i64 1) w) <|
  K (.int .i64 0) w
theorem B149_eq (b_p0 : Value) (w : World) (K : Value → World → Prop) : denFn prog Tryz.f149 T149 [b_p0] w K = B149 b_p0 w K := by kernel_rfl
theorem c149 {b_p0 : Value} {w : World} {K : Value → World → Prop} (h : B149 b_p0 w K) : Calls prog 149 #[b_p0] w (Ret K) :=
  denFn_calls Tryz.func149 T149_ok (Eq.mpr (B149_eq b_p0 w K) h)

-- 161 strconv.Itoa
def T161 : Ann := (.seq .none (.seq .none .none))
theorem T161_ok : chkFn prog Tryz.f161 T161 = true := by kernel_rfl
def B161 (i_p0 : Value) (w : World) (K : Value → World → Prop) : Prop :=
  Calls prog 184 #[i_p0] w (Ret fun t_0 w =>
  K t_0 w)
theorem B161_eq (i_p0 : Value) (w : World) (K : Value → World → Prop) : denFn prog Tryz.f161 T161 [i_p0] w K = B161 i_p0 w K := by kernel_rfl
theorem c161 {i_p0 : Value} {w : World} {K : Value → World → Prop} (h : B161 i_p0 w K) : Calls prog 161 #[i_p0] w (Ret K) :=
  denFn_calls Tryz.func161 T161_ok (Eq.mpr (B161_eq i_p0 w K) h)


end Go.Proofs.YtmnaalpjhkkglaaGreatDoor
