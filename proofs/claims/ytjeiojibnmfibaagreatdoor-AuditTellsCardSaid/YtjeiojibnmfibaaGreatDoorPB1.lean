import Derived.Test.YtjeiojibnmfibaaGreatDoorPI
set_option linter.all false
set_option maxRecDepth 100000
namespace Go.Proofs.YtjeiojibnmfibaaGreatDoor
open Go Hold
-- 85 internal/strconv.formatBase10
def T85 : Ann := (.seq .none (.seq (.block (.loop 79228162514264337593543430130 [1, 4] (.seq (.seq .none (.seq .none .none)) (.block (.seq .none (.seq .none (.seq .none (.seq .none (.seq .none (.seq (.draw [.op 0 .pure, .op 1 .pure, .op 2 .pure, .op 3 .pure, .op 4 .pure, .op 5 .pure, .op 6 .pure, .op 7 .pure, .op 8 .pure, .op 9 .pure, .op 10 .pure, .op 11 .pure, .op 12 .eff, .op 13 .pure, .op 14 .eff]) (.seq (.draw [.op 0 .pure, .op 1 .pure, .op 2 .pure, .op 3 .pure, .op 4 .pure, .op 5 .pure, .op 6 .pure, .op 7 .pure, .op 8 .pure, .op 9 .pure, .op 10 .pure, .op 11 .pure, .op 12 .eff, .op 13 .pure, .op 14 .eff]) (.seq (.draw [.op 0 .pure, .op 1 .pure, .op 2 .pure, .op 3 .pure, .op 4 .pure, .op 5 .pure, .op 6 .pure, .op 7 .pure, .op 8 .pure, .op 9 .pure, .op 10 .pure, .op 11 .pure, .op 12 .eff, .op 13 .pure, .op 14 .eff]) (.seq (.draw [.op 0 .pure, .op 1 .pure, .op 2 .pure, .op 3 .pure, .op 4 .pure, .op 5 .pure, .op 6 .pure, .op 7 .pure, .op 8 .pure, .op 9 .pure, .op 10 .pure, .op 11 .pure, .op 12 .eff, .op 13 .pure, .op 14 .eff]) .none))))))))))))) (.seq .none (.meet 348449143726724073936438540659756472791056 [4, 12] (.seq .none (.seq (.seq .none (.seq .none (.seq .none (.seq (.draw [.op 0 .pure, .op 1 .pure, .op 2 .pure, .op 3 .pure, .op 4 .pure, .op 5 .pure, .op 6 .pure, .op 7 .pure, .op 8 .pure, .op 9 .pure, .op 10 .pure, .op 11 .pure, .op 12 .eff, .op 13 .pure, .op 14 .eff]) (.seq (.draw [.op 0 .pure, .op 1 .pure, .op 2 .pure, .op 3 .pure, .op 4 .pure, .op 5 .pure, .op 6 .pure, .op 7 .pure, .op 8 .pure, .op 9 .pure, .op 10 .pure, .op 11 .pure, .op 12 .eff, .op 13 .pure, .op 14 .eff]) .none))))) .none)) (.meet 1461501288881759191162698246220685009525284081680 [4, 12] (.seq .none (.seq (.seq .none (.seq .none (.seq (.draw [.op 0 .pure, .op 1 .pure, .op 2 .pure, .op 3 .pure, .op 4 .pure, .op 5 .pure, .op 6 .pure, .op 7 .pure, .op 8 .pure, .op 9 .pure, .op 10 .pure, .op 11 .pure, .op 12 .eff, .op 13 .pure, .op 14 .eff]) .none))) .none)) (.seq .none (.seq .none .none)))))))
theorem T85_ok : chkFn prog Tryz.f85 T85 = true := by kernel_rfl
def B85 (a_p0 u_p1 : Value) (w : World) (K : Value → World → Prop) : Prop :=
  pv prog (oBi .len #[74] 3 #[false] #[a_p0]) w fun t_0 w =>
  lp (fun σ w again_3 => pop σ fun u_1 σ => pop σ fun nd_2 σ => fin σ <|
    pvv prog (binOp .geq 3 nd_2 (.int .i64 8)) w fun t_4 w =>
    cd t_4 (
      pvv prog (binOp .rem 94 u_1 (.int .u64 100000000)) w fun t_5 w =>
      pvv prog (convert 94 100 t_5) w fun t_6 w =>
      pvv prog (binOp .quo 94 u_1 (.int .u64 100000000)) w fun t_7 w =>
      pvv prog (binOp .quo 100 t_6 (.int .u32 10000)) w fun t_8 w =>
      pvv prog (binOp .rem 100 t_6 (.int .u32 10000)) w fun t_9 w =>
      pvv prog (binOp .quo 100 t_9 (.int .u32 100)) w fun t_10 w =>
      pvv prog (binOp .mul 100 t_10 (.int .u32 2)) w fun t_11 w =>
      pvv prog (binOp .rem 100 t_9 (.int .u32 100)) w fun t_12 w =>
      pvv prog (binOp .mul 100 t_12 (.int .u32 2)) w fun t_13 w =>
      pvv prog (binOp .quo 100 t_8 (.int .u32 100)) w fun t_14 w =>
      pvv prog (binOp .mul 100 t_14 (.int .u32 2)) w fun t_15 w =>
      pvv prog (binOp .rem 100 t_8 (.int .u32 100)) w fun t_16 w =>
      pvv prog (binOp .mul 100 t_16 (.int .u32 2)) w fun t_17 w =>
      dr w fun w =>
      pvv prog (binOp .sub 3 nd_2 (.int .i64 1)) w fun t_18 w =>
      pvv prog (binOp .sub 3 nd_2 (.int .i64 2)) w fun t_19 w =>
      pvv prog (binOp .add 100 t_13 (.int .u32 1)) w fun t_20 w =>
      pvv prog (Instr.index 9 (.string ⟨#[48, 48, 48, 49, 48, 50, 48, 51, 48, 52, 48, 53, 48, 54, 48, 55, 48, 56, 48, 57, 49, 48, 49, 49, 49, 50, 49, 51, 49, 52, 49, 53, 49, 54, 49, 55, 49, 56, 49, 57, 50, 48, 50, 49, 50, 50, 50, 51, 50, 52, 50, 53, 50, 54, 50, 55, 50, 56, 50, 57, 51, 48, 51, 49, 51, 50, 51, 51, 51, 52, 51, 53, 51, 54, 51, 55, 51, 56, 51, 57, 52, 48, 52, 49, 52, 50, 52, 51, 52, 52, 52, 53, 52, 54, 52, 55, 52, 56, 52, 57, 53, 48, 53, 49, 53, 50, 53, 51, 53, 52, 53, 53, 53, 54, 53, 55, 53, 56, 53, 57, 54, 48, 54, 49, 54, 50, 54, 51, 54, 52, 54, 53, 54, 54, 54, 55, 54, 56, 54, 57, 55, 48, 55, 49, 55, 50, 55, 51, 55, 52, 55, 53, 55, 54, 55, 55, 55, 56, 55, 57, 56, 48, 56, 49, 56, 50, 56, 51, 56, 52, 56, 53, 56, 54, 56, 55, 56, 56, 56, 57, 57, 48, 57, 49, 57, 50, 57, 51, 57, 52, 57, 53, 57, 54, 57, 55, 57, 56, 57, 57]⟩) t_20) w fun t_21 w =>
      pvv prog (Instr.index 9 (.string ⟨#[48, 48, 48, 49, 48, 50, 48, 51, 48, 52, 48, 53, 48, 54, 48, 55, 48, 56, 48, 57, 49, 48, 49, 49, 49, 50, 49, 51, 49, 52, 49, 53, 49, 54, 49, 55, 49, 56, 49, 57, 50, 48, 50, 49, 50, 50, 50, 51, 50, 52, 50, 53, 50, 54, 50, 55, 50, 56, 50, 57, 51, 48, 51, 49, 51, 50, 51, 51, 51, 52, 51, 53, 51, 54, 51, 55, 51, 56, 51, 57, 52, 48, 52, 49, 52, 50, 52, 51, 52, 52, 52, 53, 52, 54, 52, 55, 52, 56, 52, 57, 53, 48, 53, 49, 53, 50, 53, 51, 53, 52, 53, 53, 53, 54, 53, 55, 53, 56, 53, 57, 54, 48, 54, 49, 54, 50, 54, 51, 54, 52, 54, 53, 54, 54, 54, 55, 54, 56, 54, 57, 55, 48, 55, 49, 55, 50, 55, 51, 55, 52, 55, 53, 55, 54, 55, 55, 55, 56, 55, 57, 56, 48, 56, 49, 56, 50, 56, 51, 56, 52, 56, 53, 56, 54, 56, 55, 56, 56, 56, 57, 57, 48, 57, 49, 57, 50, 57, 51, 57, 52, 57, 53, 57, 54, 57, 55, 57, 56, 57, 57]⟩) t_13) w fun t_22 w =>
      pvv prog (Instr.indexAt 74 a_p0 t_18) w fun t_23 w =>
      efu prog (Instr.storeAt 5 t_23 t_21) w fun u_24 w =>
      pvv prog (Instr.indexAt 74 a_p0 t_19) w fun t_25 w =>
      efu prog (Instr.storeAt 5 t_25 t_22) w fun u_26 w =>
      dr w fun w =>
      pvv prog (binOp .sub 3 nd_2 (.int .i64 3)) w fun t_27 w =>
      pvv prog (binOp .sub 3 nd_2 (.int .i64 4)) w fun t_28 w =>
      pvv prog (binOp .add 100 t_11 (.int .u32 1)) w fun t_29 w =>
      pvv prog (Instr.index 9 (.string ⟨#[48, 48, 48, 49, 48, 50, 48, 51, 48, 52, 48, 53, 48, 54, 48, 55, 48, 56, 48, 57, 49, 48, 49, 49, 49, 50, 49, 51, 49, 52, 49, 53, 49, 54, 49, 55, 49, 56, 49, 57, 50, 48, 50, 49, 50, 50, 50, 51, 50, 52, 50, 53, 50, 54, 50, 55, 50, 56, 50, 57, 51, 48, 51, 49, 51, 50, 51, 51, 51, 52, 51, 53, 51, 54, 51, 55, 51, 56, 51, 57, 52, 48, 52, 49, 52, 50, 52, 51, 52, 52, 52, 53, 52, 54, 52, 55, 52, 56, 52, 57, 53, 48, 53, 49, 53, 50, 53, 51, 53, 52, 53, 53, 53, 54, 53, 55, 53, 56, 53, 57, 54, 48, 54, 49, 54, 50, 54, 51, 54, 52, 54, 53, 54, 54, 54, 55, 54, 56, 54, 57, 55, 48, 55, 49, 55, 50, 55, 51, 55, 52, 55, 53, 55, 54, 55, 55, 55, 56, 55, 57, 56, 48, 56, 49, 56, 50, 56, 51, 56, 52, 56, 53, 56, 54, 56, 55, 56, 56, 56, 57, 57, 48, 57, 49, 57, 50, 57, 51, 57, 52, 57, 53, 57, 54, 57, 55, 57, 56, 57, 57]⟩) t_29) w fun t_30 w =>
      pvv prog (Instr.index 9 (.string ⟨#[48, 48, 48, 49, 48, 50, 48, 51, 48, 52, 48, 53, 48, 54, 48, 55, 48, 56, 48, 57, 49, 48, 49, 49, 49, 50, 49, 51, 49, 52, 49, 53, 49, 54, 49, 55, 49, 56, 49, 57, 50, 48, 50, 49, 50, 50, 50, 51, 50, 52, 50, 53, 50, 54, 50, 55, 50, 56, 50, 57, 51, 48, 51, 49, 51, 50, 51, 51, 51, 52, 51, 53, 51, 54, 51, 55, 51, 56, 51, 57, 52, 48, 52, 49, 52, 50, 52, 51, 52, 52, 52, 53, 52, 54, 52, 55, 52, 56, 52, 57, 53, 48, 53, 49, 53, 50, 53, 51, 53, 52, 53, 53, 53, 54, 53, 55, 53, 56, 53, 57, 54, 48, 54, 49, 54, 50, 54, 51, 54, 52, 54, 53, 54, 54, 54, 55, 54, 56, 54, 57, 55, 48, 55, 49, 55, 50, 55, 51, 55, 52, 55, 53, 55, 54, 55, 55, 55, 56, 55, 57, 56, 48, 56, 49, 56, 50, 56, 51, 56, 52, 56, 53, 56, 54, 56, 55, 56, 56, 56, 57, 57, 48, 57, 49, 57, 50, 57, 51, 57, 52, 57, 53, 57, 54, 57, 55, 57, 56, 57, 57]⟩) t_11) w fun t_31 w =>
      pvv prog (Instr.indexAt 74 a_p0 t_27) w fun t_32 w =>
      efu prog (Instr.storeAt 5 t_32 t_30) w fun u_33 w =>
      pvv prog (Instr.indexAt 74 a_p0 t_28) w fun t_34 w =>
      efu prog (Instr.storeAt 5 t_34 t_31) w fun u_35 w =>
      dr w fun w =>
      pvv prog (binOp .sub 3 nd_2 (.int .i64 5)) w fun t_36 w =>
      pvv prog (binOp .sub 3 nd_2 (.int .i64 6)) w fun t_37 w =>
      pvv prog (binOp .add 100 t_17 (.int .u32 1)) w fun t_38 w =>
      pvv prog (Instr.index 9 (.string ⟨#[48, 48, 48, 49, 48, 50, 48, 51, 48, 52, 48, 53, 48, 54, 48, 55, 48, 56, 48, 57, 49, 48, 49, 49, 49, 50, 49, 51, 49, 52, 49, 53, 49, 54, 49, 55, 49, 56, 49, 57, 50, 48, 50, 49, 50, 50, 50, 51, 50, 52, 50, 53, 50, 54, 50, 55, 50, 56, 50, 57, 51, 48, 51, 49, 51, 50, 51, 51, 51, 52, 51, 53, 51, 54, 51, 55, 51, 56, 51, 57, 52, 48, 52, 49, 52, 50, 52, 51, 52, 52, 52, 53, 52, 54, 52, 55, 52, 56, 52, 57, 53, 48, 53, 49, 53, 50, 53, 51, 53, 52, 53, 53, 53, 54, 53, 55, 53, 56, 53, 57, 54, 48, 54, 49, 54, 50, 54, 51, 54, 52, 54, 53, 54, 54, 54, 55, 54, 56, 54, 57, 55, 48, 55, 49, 55, 50, 55, 51, 55, 52, 55, 53, 55, 54, 55, 55, 55, 56, 55, 57, 56, 48, 56, 49, 56, 50, 56, 51, 56, 52, 56, 53, 56, 54, 56, 55, 56, 56, 56, 57, 57, 48, 57, 49, 57, 50, 57, 51, 57, 52, 57, 53, 57, 54, 57, 55, 57, 56, 57, 57]⟩) t_38) w fun t_39 w =>
      pvv prog (Instr.index 9 (.string ⟨#[48, 48, 48, 49, 48, 50, 48, 51, 48, 52, 48, 53, 48, 54, 48, 55, 48, 56, 48, 57, 49, 48, 49, 49, 49, 50, 49, 51, 49, 52, 49, 53, 49, 54, 49, 55, 49, 56, 49, 57, 50, 48, 50, 49, 50, 50, 50, 51, 50, 52, 50, 53, 50, 54, 50, 55, 50, 56, 50, 57, 51, 48, 51, 49, 51, 50, 51, 51, 51, 52, 51, 53, 51, 54, 51, 55, 51, 56, 51, 57, 52, 48, 52, 49, 52, 50, 52, 51, 52, 52, 52, 53, 52, 54, 52, 55, 52, 56, 52, 57, 53, 48, 53, 49, 53, 50, 53, 51, 53, 52, 53, 53, 53, 54, 53, 55, 53, 56, 53, 57, 54, 48, 54, 49, 54, 50, 54, 51, 54, 52, 54, 53, 54, 54, 54, 55, 54, 56, 54, 57, 55, 48, 55, 49, 55, 50, 55, 51, 55, 52, 55, 53, 55, 54, 55, 55, 55, 56, 55, 57, 56, 48, 56, 49, 56, 50, 56, 51, 56, 52, 56, 53, 56, 54, 56, 55, 56, 56, 56, 57, 57, 48, 57, 49, 57, 50, 57, 51, 57, 52, 57, 53, 57, 54, 57, 55, 57, 56, 57, 57]⟩) t_17) w fun t_40 w =>
      pvv prog (Instr.indexAt 74 a_p0 t_36) w fun t_41 w =>
      efu prog (Instr.storeAt 5 t_41 t_39) w fun u_42 w =>
      pvv prog (Instr.indexAt 74 a_p0 t_37) w fun t_43 w =>
      efu prog (Instr.storeAt 5 t_43 t_40) w fun u_44 w =>
      dr w fun w =>
      pvv prog (binOp .sub 3 nd_2 (.int .i64 7)) w fun t_45 w =>
      pvv prog (binOp .sub 3 nd_2 (.int .i64 8)) w fun t_46 w =>
      pvv prog (binOp .add 100 t_15 (.int .u32 1)) w fun t_47 w =>
      pvv prog (Instr.index 9 (.string ⟨#[48, 48, 48, 49, 48, 50, 48, 51, 48, 52, 48, 53, 48, 54, 48, 55, 48, 56, 48, 57, 49, 48, 49, 49, 49, 50, 49, 51, 49, 52, 49, 53, 49, 54, 49, 55, 49, 56, 49, 57, 50, 48, 50, 49, 50, 50, 50, 51, 50, 52, 50, 53, 50, 54, 50, 55, 50, 56, 50, 57, 51, 48, 51, 49, 51, 50, 51, 51, 51, 52, 51, 53, 51, 54, 51, 55, 51, 56, 51, 57, 52, 48, 52, 49, 52, 50, 52, 51, 52, 52, 52, 53, 52, 54, 52, 55, 52, 56, 52, 57, 53, 48, 53, 49, 53, 50, 53, 51, 53, 52, 53, 53, 53, 54, 53, 55, 53, 56, 53, 57, 54, 48, 54, 49, 54, 50, 54, 51, 54, 52, 54, 53, 54, 54, 54, 55, 54, 56, 54, 57, 55, 48, 55, 49, 55, 50, 55, 51, 55, 52, 55, 53, 55, 54, 55, 55, 55, 56, 55, 57, 56, 48, 56, 49, 56, 50, 56, 51, 56, 52, 56, 53, 56, 54, 56, 55, 56, 56, 56, 57, 57, 48, 57, 49, 57, 50, 57, 51, 57, 52, 57, 53, 57, 54, 57, 55, 57, 56, 57, 57]⟩) t_47) w fun t_48 w =>
      pvv prog (Instr.index 9 (.string ⟨#[48, 48, 48, 49, 48, 50, 48, 51, 48, 52, 48, 53, 48, 54, 48, 55, 48, 56, 48, 57, 49, 48, 49, 49, 49, 50, 49, 51, 49, 52, 49, 53, 49, 54, 49, 55, 49, 56, 49, 57, 50, 48, 50, 49, 50, 50, 50, 51, 50, 52, 50, 53, 50, 54, 50, 55, 50, 56, 50, 57, 51, 48, 51, 49, 51, 50, 51, 51, 51, 52, 51, 53, 51, 54, 51, 55, 51, 56, 51, 57, 52, 48, 52, 49, 52, 50, 52, 51, 52, 52, 52, 53, 52, 54, 52, 55, 52, 56, 52, 57, 53, 48, 53, 49, 53, 50, 53, 51, 53, 52, 53, 53, 53, 54, 53, 55, 53, 56, 53, 57, 54, 48, 54, 49, 54, 50, 54, 51, 54, 52, 54, 53, 54, 54, 54, 55, 54, 56, 54, 57, 55, 48, 55, 49, 55, 50, 55, 51, 55, 52, 55, 53, 55, 54, 55, 55, 55, 56, 55, 57, 56, 48, 56, 49, 56, 50, 56, 51, 56, 52, 56, 53, 56, 54, 56, 55, 56, 56, 56, 57, 57, 48, 57, 49, 57, 50, 57, 51, 57, 52, 57, 53, 57, 54, 57, 55, 57, 56, 57, 57]⟩) t_15) w fun t_49 w =>
      pvv prog (Instr.indexAt 74 a_p0 t_45) w fun t_50 w =>
      efu prog (Instr.storeAt 5 t_50 t_48) w fun u_51 w =>
      pvv prog (Instr.indexAt 74 a_p0 t_46) w fun t_52 w =>
      efu prog (Instr.storeAt 5 t_52 t_49) w fun u_53 w =>
      pvv prog (binOp .sub 3 nd_2 (.int .i64 8)) w fun t_54 w =>
      again_3 [t_7, t_54] w) <|
    pvv prog (convert 94 100 u_1) w fun t_63 w =>
    jn (fun σ w => pop σ fun nd_64 σ => pop σ fun x_65 σ => fin σ <|
      jn (fun σ w => pop σ fun nd_66 σ => pop σ fun x_67 σ => fin σ <|
        pvv prog (binOp .gtr 3 nd_66 (.int .i64 0)) w fun t_68 w =>
        cd t_68 (
          pvv prog (binOp .add 100 (.int .u32 48) x_67) w fun t_69 w =>
          pvv prog (convert 100 5 t_69) w fun t_70 w =>
          pvv prog (Instr.indexAt 74 a_p0 (.int .i64 0)) w fun t_71 w =>
          efu prog (Instr.storeAt 5 t_71 t_70) w fun u_72 w =>
          K (.tuple #[]) w) <|
        K (.tuple #[]) w) fun k_73 =>
      pvv prog (binOp .geq 3 nd_64 (.int .i64 2)) w fun t_74 w =>
      cd t_74 (
        pvv prog (binOp .rem 100 x_65 (.int .u32 100)) w fun t_75 w =>
        pvv prog (binOp .mul 100 t_75 (.int .u32 2)) w fun t_76 w =>
        pvv prog (binOp .quo 100 x_65 (.int .u32 100)) w fun t_77 w =>
        dr w fun w =>
        pvv prog (binOp .sub 3 nd_64 (.int .i64 1)) w fun t_78 w =>
        pvv prog (binOp .sub 3 nd_64 (.int .i64 2)) w fun t_79 w =>
        pvv prog (binOp .add 100 t_76 (.int .u32 1)) w fun t_80 w =>
        pvv prog (Instr.index 9 (.string ⟨#[48, 48, 48, 49, 48, 50, 48, 51, 48, 52, 48, 53, 48, 54, 48, 55, 48, 56, 48, 57, 49, 48, 49, 49, 49, 50, 49, 51, 49, 52, 49, 53, 49, 54, 49, 55, 49, 56, 49, 57, 50, 48, 50, 49, 50, 50, 50, 51, 50, 52, 50, 53, 50, 54, 50, 55, 50, 56, 50, 57, 51, 48, 51, 49, 51, 50, 51, 51, 51, 52, 51, 53, 51, 54, 51, 55, 51, 56, 51, 57, 52, 48, 52, 49, 52, 50, 52, 51, 52, 52, 52, 53, 52, 54, 52, 55, 52, 56, 52, 57, 53, 48, 53, 49, 53, 50, 53, 51, 53, 52, 53, 53, 53, 54, 53, 55, 53, 56, 53, 57, 54, 48, 54, 49, 54, 50, 54, 51, 54, 52, 54, 53, 54, 54, 54, 55, 54, 56, 54, 57, 55, 48, 55, 49, 55, 50, 55, 51, 55, 52, 55, 53, 55, 54, 55, 55, 55, 56, 55, 57, 56, 48, 56, 49, 56, 50, 56, 51, 56, 52, 56, 53, 56, 54, 56, 55, 56, 56, 56, 57, 57, 48, 57, 49, 57, 50, 57, 51, 57, 52, 57, 53, 57, 54, 57, 55, 57, 56, 57, 57]⟩) t_80) w fun t_81 w =>
        pvv prog (Instr.index 9 (.string ⟨#[48, 48, 48, 49, 48, 50, 48, 51, 48, 52, 48, 53, 48, 54, 48, 55, 48, 56, 48, 57, 49, 48, 49, 49, 49, 50, 49, 51, 49, 52, 49, 53, 49, 54, 49, 55, 49, 56, 49, 57, 50, 48, 50, 49, 50, 50, 50, 51, 50, 52, 50, 53, 50, 54, 50, 55, 50, 56, 50, 57, 51, 48, 51, 49, 51, 50, 51, 51, 51, 52, 51, 53, 51, 54, 51, 55, 51, 56, 51, 57, 52, 48, 52, 49, 52, 50, 52, 51, 52, 52, 52, 53, 52, 54, 52, 55, 52, 56, 52, 57, 53, 48, 53, 49, 53, 50, 53, 51, 53, 52, 53, 53, 53, 54, 53, 55, 53, 56, 53, 57, 54, 48, 54, 49, 54, 50, 54, 51, 54, 52, 54, 53, 54, 54, 54, 55, 54, 56, 54, 57, 55, 48, 55, 49, 55, 50, 55, 51, 55, 52, 55, 53, 55, 54, 55, 55, 55, 56, 55, 57, 56, 48, 56, 49, 56, 50, 56, 51, 56, 52, 56, 53, 56, 54, 56, 55, 56, 56, 56, 57, 57, 48, 57, 49, 57, 50, 57, 51, 57, 52, 57, 53, 57, 54, 57, 55, 57, 56, 57, 57]⟩) t_76) w fun t_82 w =>
        pvv prog (Instr.indexAt 74 a_p0 t_78) w fun t_83 w =>
        efu prog (Instr.storeAt 5 t_83 t_81) w fun u_84 w =>
        pvv prog (Instr.indexAt 74 a_p0 t_79) w fun t_85 w =>
        efu prog (Instr.storeAt 5 t_85 t_82) w fun u_86 w =>
        pvv prog (binOp .sub 3 nd_64 (.int .i64 2)) w fun t_87 w =>
        k_73 [t_87, t_77] w) <|
      k_73 [nd_64, x_65] w) fun k_90 =>
    pvv prog (binOp .geq 3 nd_2 (.int .i64 4)) w fun t_91 w =>
    cd t_91 (
      pvv prog (binOp .rem 100 t_63 (.int .u32 10000)) w fun t_92 w =>
      pvv prog (binOp .quo 100 t_63 (.int .u32 10000)) w fun t_93 w =>
      pvv prog (binOp .quo 100 t_92 (.int .u32 100)) w fun t_94 w =>
      pvv prog (binOp .mul 100 t_94 (.int .u32 2)) w fun t_95 w =>
      pvv prog (binOp .rem 100 t_92 (.int .u32 100)) w fun t_96 w =>
      pvv prog (binOp .mul 100 t_96 (.int .u32 2)) w fun t_97 w =>
      dr w fun w =>
      pvv prog (binOp .sub 3 nd_2 (.int .i64 1)) w fun t_98 w =>
      pvv prog (binOp .sub 3 nd_2 (.int .i64 2)) w fun t_99 w =>
      pvv prog (binOp .add 100 t_97 (.int .u32 1)) w fun t_100 w =>
      pvv prog (Instr.index 9 (.string ⟨#[48, 48, 48, 49, 48, 50, 48, 51, 48, 52, 48, 53, 48, 54, 48, 55, 48, 56, 48, 57, 49, 48, 49, 49, 49, 50, 49, 51, 49, 52, 49, 53, 49, 54, 49, 55, 49, 56, 49, 57, 50, 48, 50, 49, 50, 50, 50, 51, 50, 52, 50, 53, 50, 54, 50, 55, 50, 56, 50, 57, 51, 48, 51, 49, 51, 50, 51, 51, 51, 52, 51, 53, 51, 54, 51, 55, 51, 56, 51, 57, 52, 48, 52, 49, 52, 50, 52, 51, 52, 52, 52, 53, 52, 54, 52, 55, 52, 56, 52, 57, 53, 48, 53, 49, 53, 50, 53, 51, 53, 52, 53, 53, 53, 54, 53, 55, 53, 56, 53, 57, 54, 48, 54, 49, 54, 50, 54, 51, 54, 52, 54, 53, 54, 54, 54, 55, 54, 56, 54, 57, 55, 48, 55, 49, 55, 50, 55, 51, 55, 52, 55, 53, 55, 54, 55, 55, 55, 56, 55, 57, 56, 48, 56, 49, 56, 50, 56, 51, 56, 52, 56, 53, 56, 54, 56, 55, 56, 56, 56, 57, 57, 48, 57, 49, 57, 50, 57, 51, 57, 52, 57, 53, 57, 54, 57, 55, 57, 56, 57, 57]⟩) t_100) w fun t_101 w =>
      pvv prog (Instr.index 9 (.string ⟨#[48, 48, 48, 49, 48, 50, 48, 51, 48, 52, 48, 53, 48, 54, 48, 55, 48, 56, 48, 57, 49, 48, 49, 49, 49, 50, 49, 51, 49, 52, 49, 53, 49, 54, 49, 55, 49, 56, 49, 57, 50, 48, 50, 49, 50, 50, 50, 51, 50, 52, 50, 53, 50, 54, 50, 55, 50, 56, 50, 57, 51, 48, 51, 49, 51, 50, 51, 51, 51, 52, 51, 53, 51, 54, 51, 55, 51, 56, 51, 57, 52, 48, 52, 49, 52, 50, 52, 51, 52, 52, 52, 53, 52, 54, 52, 55, 52, 56, 52, 57, 53, 48, 53, 49, 53, 50, 53, 51, 53, 52, 53, 53, 53, 54, 53, 55, 53, 56, 53, 57, 54, 48, 54, 49, 54, 50, 54, 51, 54, 52, 54, 53, 54, 54, 54, 55, 54, 56, 54, 57, 55, 48, 55, 49, 55, 50, 55, 51, 55, 52, 55, 53, 55, 54, 55, 55, 55, 56, 55, 57, 56, 48, 56, 49, 56, 50, 56, 51, 56, 52, 56, 53, 56, 54, 56, 55, 56, 56, 56, 57, 57, 48, 57, 49, 57, 50, 57, 51, 57, 52, 57, 53, 57, 54, 57, 55, 57, 56, 57, 57]⟩) t_97) w fun t_102 w =>
      pvv prog (Instr.indexAt 74 a_p0 t_98) w fun t_103 w =>
      efu prog (Instr.storeAt 5 t_103 t_101) w fun u_104 w =>
      pvv prog (Instr.indexAt 74 a_p0 t_99) w fun t_105 w =>
      efu prog (Instr.storeAt 5 t_105 t_102) w fun u_106 w =>
      dr w fun w =>
      pvv prog (binOp .sub 3 nd_2 (.int .i64 3)) w fun t_107 w =>
      pvv prog (binOp .sub 3 nd_2 (.int .i64 4)) w fun t_108 w =>
      pvv prog (binOp .add 100 t_95 (.int .u32 1)) w fun t_109 w =>
      pvv prog (Instr.index 9 (.string ⟨#[48, 48, 48, 49, 48, 50, 48, 51, 48, 52, 48, 53, 48, 54, 48, 55, 48, 56, 48, 57, 49, 48, 49, 49, 49, 50, 49, 51, 49, 52, 49, 53, 49, 54, 49, 55, 49, 56, 49, 57, 50, 48, 50, 49, 50, 50, 50, 51, 50, 52, 50, 53, 50, 54, 50, 55, 50, 56, 50, 57, 51, 48, 51, 49, 51, 50, 51, 51, 51, 52, 51, 53, 51, 54, 51, 55, 51, 56, 51, 57, 52, 48, 52, 49, 52, 50, 52, 51, 52, 52, 52, 53, 52, 54, 52, 55, 52, 56, 52, 57, 53, 48, 53, 49, 53, 50, 53, 51, 53, 52, 53, 53, 53, 54, 53, 55, 53, 56, 53, 57, 54, 48, 54, 49, 54, 50, 54, 51, 54, 52, 54, 53, 54, 54, 54, 55, 54, 56, 54, 57, 55, 48, 55, 49, 55, 50, 55, 51, 55, 52, 55, 53, 55, 54, 55, 55, 55, 56, 55, 57, 56, 48, 56, 49, 56, 50, 56, 51, 56, 52, 56, 53, 56, 54, 56, 55, 56, 56, 56, 57, 57, 48, 57, 49, 57, 50, 57, 51, 57, 52, 57, 53, 57, 54, 57, 55, 57, 56, 57, 57]⟩) t_109) w fun t_110 w =>
      pvv prog (Instr.index 9 (.string ⟨#[48, 48, 48, 49, 48, 50, 48, 51, 48, 52, 48, 53, 48, 54, 48, 55, 48, 56, 48, 57, 49, 48, 49, 49, 49, 50, 49, 51, 49, 52, 49, 53, 49, 54, 49, 55, 49, 56, 49, 57, 50, 48, 50, 49, 50, 50, 50, 51, 50, 52, 50, 53, 50, 54, 50, 55, 50, 56, 50, 57, 51, 48, 51, 49, 51, 50, 51, 51, 51, 52, 51, 53, 51, 54, 51, 55, 51, 56, 51, 57, 52, 48, 52, 49, 52, 50, 52, 51, 52, 52, 52, 53, 52, 54, 52, 55, 52, 56, 52, 57, 53, 48, 53, 49, 53, 50, 53, 51, 53, 52, 53, 53, 53, 54, 53, 55, 53, 56, 53, 57, 54, 48, 54, 49, 54, 50, 54, 51, 54, 52, 54, 53, 54, 54, 54, 55, 54, 56, 54, 57, 55, 48, 55, 49, 55, 50, 55, 51, 55, 52, 55, 53, 55, 54, 55, 55, 55, 56, 55, 57, 56, 48, 56, 49, 56, 50, 56, 51, 56, 52, 56, 53, 56, 54, 56, 55, 56, 56, 56, 57, 57, 48, 57, 49, 57, 50, 57, 51, 57, 52, 57, 53, 57, 54, 57, 55, 57, 56, 57, 57]⟩) t_95) w fun t_111 w =>
      pvv prog (Instr.indexAt 74 a_p0 t_107) w fun t_112 w =>
      efu prog (Instr.storeAt 5 t_112 t_110) w fun u_113 w =>
      pvv prog (Instr.indexAt 74 a_p0 t_108) w fun t_114 w =>
      efu prog (Instr.storeAt 5 t_114 t_111) w fun u_115 w =>
      pvv prog (binOp .sub 3 nd_2 (.int .i64 4)) w fun t_116 w =>
      k_90 [t_116, t_93] w) <|
    k_90 [nd_2, t_63] w) [u_p1, t_0] w
theorem B85_eq (a_p0 u_p1 : Value) (w : World) (K : Value → World → Prop) : denFn prog Tryz.f85 T85 [a_p0, u_p1] w K = B85 a_p0 u_p1 w K := by kernel_rfl
theorem c85 {a_p0 u_p1 : Value} {w : World} {K : Value → World → Prop} (h : B85 a_p0 u_p1 w K) : Calls prog 85 #[a_p0, u_p1] w (Ret K) :=
  denFn_calls Tryz.func85 T85_ok (Eq.mpr (B85_eq a_p0 u_p1 w K) h)

-- 8 (*holdfast/holdfastref14.Chain).Rows
def T8 : Ann := (.seq .none (.seq (.seq .none (.seq (.seq .none .none) .none)) (.seq .none (.seq (.draw [.op 0 .pure, .op 1 .pure, .op 2 .pure, .op 5 .pure, .op 6 .pure, .op 7 .pure, .op 8 .pure, .op 13 .pure, .op 14 .pure, .op 15 .pure, .op 20 .pure, .op 21 .pure, .op 22 .pure, .op 27 .pure, .op 28 .pure, .op 29 .pure, .op 3 .load, .op 9 .load, .op 16 .load, .op 23 .load, .op 30 .load, .op 4 .eff, .op 10 .eff, .par [⟨11, .eff, (some 25), []⟩, ⟨17, .eff, (some 31), []⟩, ⟨12, .pure, (some 26), [(0, some 25)]⟩, ⟨18, .eff, (some 32), [(1, some 31)]⟩, ⟨19, .pure, (some 33), [(3, some 32)]⟩, ⟨24, .eff, (some 38), []⟩, ⟨25, .eff, (some 39), [(5, some 38)]⟩, ⟨26, .pure, (some 40), [(6, some 39)]⟩, ⟨31, .eff, (some 45), []⟩, ⟨32, .eff, (some 46), [(8, some 45)]⟩, ⟨33, .pure, (some 47), [(9, some 46)]⟩], .op 34 .eff, .op 35 .pure]) (.seq (.seq .none (.block (.loop 2417851638666308395991152 [4, 5] (.seq (.seq .none (.seq .none .none)) (.seq (.block (.seq .none (.draw [.op 0 .pure, .op 1 .pure, .op 5 .pure, .op 8 .pure, .op 10 .pure, .op 2 .load, .op 6 .load, .op 9 .load, .op 11 .load, .op 3 .eff, .op 4 .pure, .op 7 .eff, .op 12 .eff, .op 13 .pure, .op 14 .eff, .op 15 .eff, .op 16 .pure]))) .none))))) (.seq .none .none))))))
theorem T8_ok : chkFn prog Tryz.f8 T8 = true := by kernel_rfl
def B8 (c_p0 : Value) (w : World) (K : Value → World → Prop) : Prop :=
  pvv prog (oEq .eql 27 (.tmp 7) (.const (.pointer none)) c_p0 (.pointer none)) w fun t_0 w =>
  cd t_0 (
    K (.slice none 0 0) w) <|
  pv prog (oNil c_p0) w fun t_1 w =>
  pvv prog (Instr.fieldAt 54 t_1 1) w fun t_2 w =>
  ldv prog (Instr.loadAt 3 t_2) w fun t_3 w =>
  Calls prog 23 #[t_3] w (Ret fun t_4 w =>
  dr w fun w =>
  pv prog (oNil c_p0) w fun t_5 w =>
  pvv prog (Instr.fieldAt 54 t_5 0) w fun t_6 w =>
  pv prog (oNil c_p0) w fun t_7 w =>
  pvv prog (Instr.fieldAt 54 t_7 2) w fun t_8 w =>
  pv prog (oNil c_p0) w fun t_9 w =>
  pvv prog (Instr.fieldAt 54 t_9 4) w fun t_10 w =>
  pv prog (oNil c_p0) w fun t_11 w =>
  pvv prog (Instr.fieldAt 54 t_11 3) w fun t_12 w =>
  pv prog (oNil c_p0) w fun t_13 w =>
  pvv prog (Instr.fieldAt 54 t_13 5) w fun t_14 w =>
  bindS (vN (Instr.loadAt 3 t_6)) fun m_16 => ldv prog (Instr.loadAt 3 t_6) w fun t_15 w =>
  bindS (vN (Instr.loadAt 3 t_8)) fun m_18 => ldv prog (Instr.loadAt 3 t_8) w fun t_17 w =>
  bindS (vN (Instr.loadAt 44 t_10)) fun m_20 => ldv prog (Instr.loadAt 44 t_10) w fun t_19 w =>
  bindS (vN (Instr.loadAt 44 t_12)) fun m_22 => ldv prog (Instr.loadAt 44 t_12) w fun t_21 w =>
  bindS (vN (Instr.loadAt 44 t_14)) fun m_24 => ldv prog (Instr.loadAt 44 t_14) w fun t_23 w =>
  Calls prog 23 #[t_15] w (Ret fun t_25 w => stay prog none m_24 t_23 w <| stay prog none m_22 t_21 w <| stay prog none m_20 t_19 w <| stay prog none m_18 t_17 w <| 
  Calls prog 23 #[t_17] w (Ret fun t_26 w => stay prog none m_24 t_23 w <| stay prog none m_22 t_21 w <| stay prog none m_20 t_19 w <| stay prog none m_16 t_15 w <| 
  par 11 w fun J_27 =>
    (∀ (σ : List (Option Value)) (w : World), J_27 σ w → un σ 0 (efv prog (Instr.buildSlice 33 3 #[(0, t_25), (1, t_4), (2, t_26)]) w fun v_28 w => stay prog none m_24 t_23 w <| stay prog none m_22 t_21 w <| stay prog none m_20 t_19 w <| stay prog none m_18 t_17 w <| stay prog none m_16 t_15 w <| J_27 (σ.set 0 (some v_28)) w)) ∧
    (∀ (σ : List (Option Value)) (w : World), J_27 σ w → un σ 1 (Calls prog 24 #[t_19] w (Ret fun v_29 w => stay prog none m_24 t_23 w <| stay prog none m_22 t_21 w <| stay prog none m_18 t_17 w <| stay prog none m_16 t_15 w <| J_27 (σ.set 1 (some v_29)) w))) ∧
    (∀ (σ : List (Option Value)) (w : World), J_27 σ w → un σ 2 (is σ 0 fun t_30 => pvv prog (Instr.build 35 #[(0, (.string ⟨#[35]⟩)), (1, t_30)]) w fun v_31 w => J_27 (σ.set 2 (some v_31)) w)) ∧
    (∀ (σ : List (Option Value)) (w : World), J_27 σ w → un σ 3 (is σ 1 fun t_32 => efv prog (Instr.buildSlice 33 1 #[(0, t_32)]) w fun v_33 w => stay prog none m_24 t_23 w <| stay prog none m_22 t_21 w <| stay prog none m_20 t_19 w <| stay prog none m_18 t_17 w <| stay prog none m_16 t_15 w <| J_27 (σ.set 3 (some v_33)) w)) ∧
    (∀ (σ : List (Option Value)) (w : World), J_27 σ w → un σ 4 (is σ 3 fun t_34 => pvv prog (Instr.build 35 #[(0, (.string ⟨#[97]⟩)), (1, t_34)]) w fun v_35 w => J_27 (σ.set 4 (some v_35)) w)) ∧
    (∀ (σ : List (Option Value)) (w : World), J_27 σ w → un σ 5 (Calls prog 24 #[t_21] w (Ret fun v_36 w => stay prog none m_24 t_23 w <| stay prog none m_20 t_19 w <| stay prog none m_18 t_17 w <| stay prog none m_16 t_15 w <| J_27 (σ.set 5 (some v_36)) w))) ∧
    (∀ (σ : List (Option Value)) (w : World), J_27 σ w → un σ 6 (is σ 5 fun t_37 => efv prog (Instr.buildSlice 33 1 #[(0, t_37)]) w fun v_38 w => stay prog none m_24 t_23 w <| stay prog none m_22 t_21 w <| stay prog none m_20 t_19 w <| stay prog none m_18 t_17 w <| stay prog none m_16 t_15 w <| J_27 (σ.set 6 (some v_38)) w)) ∧
    (∀ (σ : List (Option Value)) (w : World), J_27 σ w → un σ 7 (is σ 6 fun t_39 => pvv prog (Instr.build 35 #[(0, (.string ⟨#[98]⟩)), (1, t_39)]) w fun v_40 w => J_27 (σ.set 7 (some v_40)) w)) ∧
    (∀ (σ : List (Option Value)) (w : World), J_27 σ w → un σ 8 (Calls prog 24 #[t_23] w (Ret fun v_41 w => stay prog none m_22 t_21 w <| stay prog none m_20 t_19 w <| stay prog none m_18 t_17 w <| stay prog none m_16 t_15 w <| J_27 (σ.set 8 (some v_41)) w))) ∧
    (∀ (σ : List (Option Value)) (w : World), J_27 σ w → un σ 9 (is σ 8 fun t_42 => efv prog (Instr.buildSlice 33 1 #[(0, t_42)]) w fun v_43 w => stay prog none m_24 t_23 w <| stay prog none m_22 t_21 w <| stay prog none m_20 t_19 w <| stay prog none m_18 t_17 w <| stay prog none m_16 t_15 w <| J_27 (σ.set 9 (some v_43)) w)) ∧
    (∀ (σ : List (Option Value)) (w : World), J_27 σ w → un σ 10 (is σ 9 fun t_44 => pvv prog (Instr.build 35 #[(0, (.string ⟨#[104]⟩)), (1, t_44)]) w fun v_45 w => J_27 (σ.set 10 (some v_45)) w)) ∧
    ∀ (σ : List (Option Value)) (w : World), J_27 σ w → is σ 0 fun t_46 => is σ 1 fun t_47 => is σ 2 fun t_48 => is σ 3 fun t_49 => is σ 4 fun t_50 => is σ 5 fun t_51 => is σ 6 fun t_52 => is σ 7 fun t_53 => is σ 8 fun t_54 => is σ 9 fun t_55 => is σ 10 fun t_56 => 
    efv prog (Instr.buildSlice 31 4 #[(0, t_48), (1, t_50), (2, t_53), (3, t_56)]) w fun t_57 w => stay prog none m_24 t_23 w <| stay prog none m_22 t_21 w <| stay prog none m_20 t_19 w <| stay prog none m_18 t_17 w <| stay prog none m_16 t_15 w <| 
    lp (fun σ w again_60 => pop σ fun out_58 σ => pop σ fun i_59 σ => fin σ <|
      pv prog (oNil c_p0) w fun t_61 w =>
      pvv prog (Instr.fieldAt 54 t_61 6) w fun t_62 w =>
      ldv prog (Instr.loadAt 41 t_62) w fun t_63 w =>
      pv prog (oBi .len #[41] 3 #[false] #[t_63]) w fun t_64 w =>
      pvv prog (binOp .lss 3 i_59 t_64) w fun t_65 w =>
      cd t_65 (
        pv prog (oNil c_p0) w fun t_66 w =>
        pvv prog (Instr.fieldAt 54 t_66 6) w fun t_67 w =>
        ldv prog (Instr.loadAt 41 t_67) w fun t_68 w =>
        pvv prog (Instr.indexAt 41 t_68 i_59) w fun t_69 w =>
        ldv prog (Instr.loadAt 56 t_69) w fun t_70 w =>
        efv prog (Instr.alloc 56 true (.tuple #[])) w fun x_71 w =>
        efu prog (Instr.storeAt 56 x_71 t_70) w fun u_72 w =>
        dr w fun w =>
        pvv prog (Instr.fieldAt 56 x_71 0) w fun t_73 w =>
        pvv prog (Instr.fieldAt 56 x_71 1) w fun t_74 w =>
        pvv prog (Instr.fieldAt 56 x_71 2) w fun t_75 w =>
        pvv prog (Instr.fieldAt 56 x_71 3) w fun t_76 w =>
        bindS (vN (Instr.loadAt 3 t_73)) fun m_78 => ldv prog (Instr.loadAt 3 t_73) w fun t_77 w =>
        bindS (vN (Instr.loadAt 3 t_74)) fun m_80 => ldv prog (Instr.loadAt 3 t_74) w fun t_79 w =>
        bindS (vN (Instr.loadAt 9 t_75)) fun m_82 => ldv prog (Instr.loadAt 9 t_75) w fun t_81 w =>
        bindS (vN (Instr.loadAt 9 t_76)) fun m_84 => ldv prog (Instr.loadAt 9 t_76) w fun t_83 w =>
        Calls prog 23 #[t_77] w (Ret fun t_85 w => stay prog none m_84 t_83 w <| stay prog none m_82 t_81 w <| stay prog none m_80 t_79 w <| 
        pvv prog (binOp .add 9 (.string ⟨#[110]⟩) t_85) w fun t_86 w =>
        Calls prog 23 #[t_79] w (Ret fun t_87 w => stay prog none m_84 t_83 w <| stay prog none m_82 t_81 w <| stay prog none m_78 t_77 w <| 
        efv prog (Instr.buildSlice 33 3 #[(0, t_87), (1, t_81), (2, t_83)]) w fun t_88 w => stay prog none m_80 t_79 w <| stay prog none m_78 t_77 w <| 
        pvv prog (Instr.build 35 #[(0, t_86), (1, t_88)]) w fun t_89 w =>
        efv prog (Instr.buildSlice 31 1 #[(0, t_89)]) w fun t_90 w => stay prog none m_84 t_83 w <| stay prog none m_82 t_81 w <| stay prog none m_80 t_79 w <| stay prog none m_78 t_77 w <| 
        ef prog (oBi .append #[31, 31] 31 #[false, false] #[out_58, t_90]) w fun t_91 w => stay prog none m_84 t_83 w <| stay prog none m_82 t_81 w <| stay prog none m_80 t_79 w <| stay prog none m_78 t_77 w <| 
        pvv prog (binOp .add 3 i_59 (.int .i64 1)) w fun t_92 w =>
        again_60 [t_91, t_92] w))) <|
      Calls prog 25 #[out_58] w (Ret fun t_98 w =>
      K t_98 w)) [t_57, (.int .i64 0)] w)))
theorem B8_eq (c_p0 : Value) (w : World) (K : Value → World → Prop) : denFn prog Tryz.f8 T8 [c_p0] w K = B8 c_p0 w K := by kernel_rfl
theorem c8 {c_p0 : Value} {w : World} {K : Value → World → Prop} (h : B8 c_p0 w K) : Calls prog 8 #[c_p0] w (Ret K) :=
  denFn_calls Tryz.func8 T8_ok (Eq.mpr (B8_eq c_p0 w K) h)

-- 3 holdfast/holdfastlaw14.AuditTells
def T3 : Ann := (.seq .none (.seq .none (.seq (.seq .none (.seq (.seq .none .none) .none)) (.seq (.seq .none (.block (.loop 274875810304 [9] (.seq (.seq .none (.seq .none .none)) (.seq (.block .none) .none))))) (.seq .none (.seq (.seq .none (.seq (.seq .none .none) .none)) (.seq .none (.seq (.draw [.op 0 .pure, .op 1 .pure, .op 2 .pure, .op 3 .pure, .op 4 .pure, .op 5 .pure, .op 7 .pure, .op 8 .pure, .op 9 .pure, .op 10 .pure, .op 14 .pure, .op 16 .pure, .op 6 .load, .op 11 .load, .op 12 .pure, .op 13 .load, .op 15 .load, .op 17 .load, .op 18 .eff, .op 19 .pure, .op 20 .pure, .op 21 .eff]) (.seq .none (.seq .none (.seq (.seq .none (.seq (.seq .none .none) .none)) (.seq .none (.seq (.seq .none (.seq (.seq .none .none) .none)) (.seq .none .none))))))))))))))
theorem T3_ok : chkFn prog Tryz.f3 T3 = true := by kernel_rfl
def B3 (l_p0 k_p1 x_p2 : Value) (w : World) (K : Value → World → Prop) : Prop :=
  efv prog (Instr.box 24 x_p2) w fun x_0 w =>
  Calls prog 4 #[] w (Ret fun t_1 w =>
  Calls prog 5 #[] w (Ret fun t_2 w =>
  Calls prog 6 #[] w (Ret fun t_3 w =>
  pvv prog (Op.unary .not t_3) w fun t_4 w =>
  cd t_4 (
    K (.bool false) w) <|
  lp (fun σ w again_6 => pop σ fun i_5 σ => fin σ <|
    pv prog (oBi .len #[22] 3 #[false] #[l_p0]) w fun t_7 w =>
    pvv prog (binOp .lss 3 i_5 t_7) w fun t_8 w =>
    gate (some (t_8, true)) (fun K => K i_5 w) w fun t_9 w =>
    gate (some (t_8, true)) (fun K => pvv prog (binOp .lss 3 t_9 (.int .i64 60)) w K) w fun t_10 w =>
    pv prog (oPick t_8 t_10 (.bool false)) w fun t_11 w =>
    cd t_11 (
      pvv prog (Instr.indexAt 22 l_p0 i_5) w fun t_12 w =>
      ldv prog (Instr.loadAt 24 t_12) w fun t_13 w =>
      Calls prog 7 #[t_1, t_2, t_13] w (Ret fun t_14 w =>
      pvv prog (binOp .add 3 i_5 (.int .i64 1)) w fun t_15 w =>
      again_6 [t_15] w)) <|
    Calls prog 8 #[t_2] w (Ret fun t_16 w =>
    pv prog (oBi .len #[31] 3 #[false] #[t_16]) w fun t_17 w =>
    pvv prog (binOp .lss 3 t_17 (.int .i64 5)) w fun t_18 w =>
    gate (some (t_18, false)) (fun K => pvv prog (Instr.fieldAt 24 x_0 3) w K) w fun t_19 w =>
    gate (some (t_18, false)) (fun K => ldv prog (Instr.loadAt 9 t_19) w K) w fun t_20 w =>
    gate (some (t_18, false)) (fun K => pv prog (oBi .len #[9] 3 #[false] #[t_20]) w K) w fun t_21 w =>
    gate (some (t_18, false)) (fun K => pvv prog (binOp .gtr 3 t_21 (.int .i64 12)) w K) w fun t_22 w =>
    pv prog (oPick t_18 (.bool true) t_22) w fun t_23 w =>
    gate (some (t_23, false)) (fun K => pvv prog (Instr.fieldAt 24 x_0 4) w K) w fun t_24 w =>
    gate (some (t_23, false)) (fun K => ldv prog (Instr.loadAt 9 t_24) w K) w fun t_25 w =>
    gate (some (t_23, false)) (fun K => pv prog (oBi .len #[9] 3 #[false] #[t_25]) w K) w fun t_26 w =>
    gate (some (t_23, false)) (fun K => pvv prog (binOp .gtr 3 t_26 (.int .i64 30)) w K) w fun t_27 w =>
    pv prog (oPick t_23 (.bool true) t_27) w fun t_28 w =>
    cd t_28 (
      K (.bool true) w) <|
    pvv prog (convert 5 3 k_p1) w fun t_29 w =>
    pv prog (oBi .len #[31] 3 #[false] #[t_16]) w fun t_30 w =>
    pvv prog (binOp .sub 3 t_30 (.int .i64 4)) w fun t_31 w =>
    pvv prog (binOp .rem 3 t_29 t_31) w fun t_32 w =>
    pvv prog (binOp .add 3 (.int .i64 4) t_32) w fun t_33 w =>
    dr w fun w =>
    pvv prog (Instr.indexAt 31 t_16 t_33) w fun t_34 w =>
    pvv prog (Instr.fieldAt 35 t_34 0) w fun t_35 w =>
    pvv prog (Instr.indexAt 31 t_16 t_33) w fun t_36 w =>
    pvv prog (Instr.fieldAt 35 t_36 1) w fun t_37 w =>
    pvv prog (Instr.fieldAt 24 x_0 3) w fun t_38 w =>
    pvv prog (Instr.fieldAt 24 x_0 4) w fun t_39 w =>
    bindS (vN (Instr.loadAt 9 t_35)) fun m_41 => ldv prog (Instr.loadAt 9 t_35) w fun t_40 w =>
    bindS (vN (Instr.loadAt 33 t_37)) fun m_43 => ldv prog (Instr.loadAt 33 t_37) w fun t_42 w =>
    pvv prog (Instr.indexAt 33 t_42 (.int .i64 0)) w fun t_44 w =>
    bindS (vN (Instr.loadAt 9 t_44)) fun m_46 => ldv prog (Instr.loadAt 9 t_44) w fun t_45 w =>
    bindS (vN (Instr.loadAt 9 t_38)) fun m_48 => ldv prog (Instr.loadAt 9 t_38) w fun t_47 w =>
    bindS (vN (Instr.loadAt 9 t_39)) fun m_50 => ldv prog (Instr.loadAt 9 t_39) w fun t_49 w =>
    efv prog (Instr.buildSlice 33 3 #[(0, t_45), (1, t_47), (2, t_49)]) w fun t_51 w => stay prog none m_43 t_42 w <| stay prog none m_41 t_40 w <| 
    pvv prog (Instr.build 35 #[(0, t_40), (1, t_51)]) w fun t_52 w =>
    pvv prog (Instr.indexAt 31 t_16 t_33) w fun t_53 w =>
    efu prog (Instr.storeAt 35 t_53 t_52) w fun u_54 w =>
    Calls prog 9 #[t_16] w (Ret fun t_55 w =>
    pvv prog (Instr.extract t_55 0) w fun t_56 w =>
    pvv prog (Instr.extract t_55 1) w fun t_57 w =>
    Calls prog 10 #[t_16] w (Ret fun t_58 w =>
    pvv prog (Instr.extract t_58 0) w fun t_59 w =>
    pvv prog (Instr.extract t_58 1) w fun t_60 w =>
    pvv prog (oEq .neq 36 (.tmp 93) (.const (.int .i64 0)) t_57 (.int .i64 0)) w fun t_61 w =>
    gate (some (t_61, false)) (fun K => K t_60 w) w fun t_62 w =>
    gate (some (t_61, false)) (fun K => pvv prog (oEq .neq 36 (.tmp 96) (.const (.int .i64 0)) t_62 (.int .i64 0)) w K) w fun t_63 w =>
    pv prog (oPick t_61 (.bool true) t_63) w fun t_64 w =>
    cd t_64 (
      K (.bool false) w) <|
    Calls prog 11 #[t_59] w (Ret fun t_65 w =>
    pv prog (oBi .len #[41] 3 #[false] #[t_65]) w fun t_66 w =>
    Calls prog 12 #[t_59, t_66] w (Ret fun t_67 w =>
    Calls prog 13 #[t_59] w (Ret fun t_68 w =>
    pvv prog (oEq .eql 44 (.tmp 104) (.tmp 106) t_67 t_68) w fun t_69 w =>
    cd t_69 (
      Calls prog 14 #[t_56] w (Ret fun t_70 w =>
      Calls prog 15 #[t_59] w (Ret fun t_71 w =>
      pvv prog (oEq .eql 36 (.tmp 109) (.tmp 111) t_70 t_71) w fun t_72 w =>
      K t_72 w))) <|
    Calls prog 14 #[t_56] w (Ret fun t_73 w =>
    pvv prog (oEq .eql 36 (.tmp 114) (.const (.int .i64 15)) t_73 (.int .i64 15)) w fun t_74 w =>
    gate (some (t_74, true)) (fun K => K t_56 w) w fun t_75 w =>
    gate (some (t_74, true)) (fun K => Calls prog 16 #[t_75] w (Ret K)) w fun t_76 w =>
    gate (some (t_74, true)) (fun K => K t_1 w) w fun t_77 w =>
    gate (some (t_74, true)) (fun K => Calls prog 16 #[t_77] w (Ret K)) w fun t_78 w =>
    gate (some (t_74, true)) (fun K => pvv prog (oEq .eql 44 (.tmp 118) (.tmp 120) t_76 t_78) w K) w fun t_79 w =>
    pv prog (oPick t_74 t_79 (.bool false)) w fun t_80 w =>
    K t_80 w)))))))) [(.int .i64 0)] w)))
theorem B3_eq (l_p0 k_p1 x_p2 : Value) (w : World) (K : Value → World → Prop) : denFn prog Tryz.f3 T3 [l_p0, k_p1, x_p2] w K = B3 l_p0 k_p1 x_p2 w K := by kernel_rfl
theorem c3 {l_p0 k_p1 x_p2 : Value} {w : World} {K : Value → World → Prop} (h : B3 l_p0 k_p1 x_p2 w K) : Calls prog 3 #[l_p0, k_p1, x_p2] w (Ret K) :=
  denFn_calls Tryz.func3 T3_ok (Eq.mpr (B3_eq l_p0 k_p1 x_p2 w K) h)

-- 88 unicode/utf8.decodeRuneInStringSlow
def T88 : Ann := (.seq .none (.seq .none (.seq (.seq .none (.seq (.seq .none .none) .none)) (.seq .none (.seq .none (.seq (.seq .none (.seq (.seq .none (.seq .none .none)) .none)) (.seq .none (.seq .none (.seq (.seq .none (.seq (.seq .none .none) .none)) (.seq .none (.seq (.seq .none (.seq (.seq .none .none) .none)) (.seq (.seq .none (.seq (.seq .none .none) .none)) (.seq .none (.seq (.seq .none (.seq (.seq .none .none) .none)) (.seq (.seq .none (.seq (.seq .none .none) .none)) (.seq .none (.seq (.seq .none (.seq (.seq .none .none) .none)) (.seq .none .none))))))))))))))))))
theorem T88_ok : chkFn prog Tryz.f88 T88 = true := by kernel_rfl
def B88 (s_p0 : Value) (w : World) (K : Value → World → Prop) : Prop :=
  pv prog (oBi .len #[9] 3 #[false] #[s_p0]) w fun t_0 w =>
  pvv prog (binOp .lss 3 t_0 (.int .i64 1)) w fun t_1 w =>
  cd t_1 (
    K (.tuple #[(.int .i32 65533), (.int .i64 0)]) w) <|
  pvv prog (Instr.index 9 s_p0 (.int .i64 0)) w fun t_2 w =>
  pvv prog (Instr.indexAt 146 (.pointer (some ⟨3, 0, none⟩)) t_2) w fun t_3 w =>
  ldv prog (Instr.loadAt 5 t_3) w fun t_4 w =>
  pvv prog (binOp .geq 5 t_4 (.int .u8 240)) w fun t_5 w =>
  cd t_5 (
    pvv prog (convert 5 21 t_4) w fun t_6 w =>
    pvv prog (binOp .shl 21 t_6 (.int .u64 31)) w fun t_7 w =>
    pvv prog (binOp .shr 21 t_7 (.int .u64 31)) w fun t_8 w =>
    pvv prog (Instr.index 9 s_p0 (.int .i64 0)) w fun t_9 w =>
    pvv prog (convert 5 21 t_9) w fun t_10 w =>
    pvv prog (binOp .andNot 21 t_10 t_8) w fun t_11 w =>
    pvv prog (binOp .and 21 (.int .i32 65533) t_8) w fun t_12 w =>
    pvv prog (binOp .or 21 t_11 t_12) w fun t_13 w =>
    K (.tuple #[t_13, (.int .i64 1)]) w) <|
  pvv prog (binOp .and 5 t_4 (.int .u8 7)) w fun t_14 w =>
  pvv prog (convert 5 3 t_14) w fun t_15 w =>
  pvv prog (binOp .shr 5 t_4 (.int .u64 4)) w fun t_16 w =>
  pvv prog (Instr.indexAt 149 (.pointer (some ⟨4, 0, none⟩)) t_16) w fun t_17 w =>
  ldv prog (Instr.loadAt 148 t_17) w fun t_18 w =>
  efv prog (Instr.alloc 148 true (.tuple #[])) w fun accept_19 w =>
  efu prog (Instr.storeAt 148 accept_19 t_18) w fun u_20 w =>
  pvv prog (binOp .lss 3 t_0 t_15) w fun t_21 w =>
  cd t_21 (
    K (.tuple #[(.int .i32 65533), (.int .i64 1)]) w) <|
  pvv prog (Instr.index 9 s_p0 (.int .i64 1)) w fun t_22 w =>
  pvv prog (Instr.fieldAt 148 accept_19 0) w fun t_23 w =>
  ldv prog (Instr.loadAt 5 t_23) w fun t_24 w =>
  pvv prog (binOp .lss 5 t_22 t_24) w fun t_25 w =>
  gate (some (t_25, false)) (fun K => pvv prog (Instr.fieldAt 148 accept_19 1) w K) w fun t_26 w =>
  gate (some (t_25, false)) (fun K => ldv prog (Instr.loadAt 5 t_26) w K) w fun t_27 w =>
  gate (some (t_25, false)) (fun K => K t_22 w) w fun t_28 w =>
  gate (some (t_25, false)) (fun K => pvv prog (binOp .lss 5 t_27 t_28) w K) w fun t_29 w =>
  pv prog (oPick t_25 (.bool true) t_29) w fun t_30 w =>
  cd t_30 (
    K (.tuple #[(.int .i32 65533), (.int .i64 1)]) w) <|
  pvv prog (binOp .leq 3 t_15 (.int .i64 2)) w fun t_31 w =>
  cd t_31 (
    pvv prog (binOp .and 5 t_2 (.int .u8 31)) w fun t_32 w =>
    pvv prog (convert 5 21 t_32) w fun t_33 w =>
    pvv prog (binOp .shl 21 t_33 (.int .u64 6)) w fun t_34 w =>
    pvv prog (binOp .and 5 t_22 (.int .u8 63)) w fun t_35 w =>
    pvv prog (convert 5 21 t_35) w fun t_36 w =>
    pvv prog (binOp .or 21 t_34 t_36) w fun t_37 w =>
    K (.tuple #[t_37, (.int .i64 2)]) w) <|
  pvv prog (Instr.index 9 s_p0 (.int .i64 2)) w fun t_38 w =>
  pvv prog (binOp .lss 5 t_38 (.int .u8 128)) w fun t_39 w =>
  gate (some (t_39, false)) (fun K => K t_38 w) w fun t_40 w =>
  gate (some (t_39, false)) (fun K => pvv prog (binOp .lss 5 (.int .u8 191) t_40) w K) w fun t_41 w =>
  pv prog (oPick t_39 (.bool true) t_41) w fun t_42 w =>
  cd t_42 (
    K (.tuple #[(.int .i32 65533), (.int .i64 1)]) w) <|
  pvv prog (binOp .leq 3 t_15 (.int .i64 3)) w fun t_43 w =>
  cd t_43 (
    pvv prog (binOp .and 5 t_2 (.int .u8 15)) w fun t_44 w =>
    pvv prog (convert 5 21 t_44) w fun t_45 w =>
    pvv prog (binOp .shl 21 t_45 (.int .u64 12)) w fun t_46 w =>
    pvv prog (binOp .and 5 t_22 (.int .u8 63)) w fun t_47 w =>
    pvv prog (convert 5 21 t_47) w fun t_48 w =>
    pvv prog (binOp .shl 21 t_48 (.int .u64 6)) w fun t_49 w =>
    pvv prog (binOp .or 21 t_46 t_49) w fun t_50 w =>
    pvv prog (binOp .and 5 t_38 (.int .u8 63)) w fun t_51 w =>
    pvv prog (convert 5 21 t_51) w fun t_52 w =>
    pvv prog (binOp .or 21 t_50 t_52) w fun t_53 w =>
    K (.tuple #[t_53, (.int .i64 3)]) w) <|
  pvv prog (Instr.index 9 s_p0 (.int .i64 3)) w fun t_54 w =>
  pvv prog (binOp .lss 5 t_54 (.int .u8 128)) w fun t_55 w =>
  gate (some (t_55, false)) (fun K => K t_54 w) w fun t_56 w =>
  gate (some (t_55, false)) (fun K => pvv prog (binOp .lss 5 (.int .u8 191) t_56) w K) w fun t_57 w =>
  pv prog (oPick t_55 (.bool true) t_57) w fun t_58 w =>
  cd t_58 (
    K (.tuple #[(.int .i32 65533), (.int .i64 1)]) w) <|
  pvv prog (binOp .and 5 t_2 (.int .u8 7)) w fun t_59 w =>
  pvv prog (convert 5 21 t_59) w fun t_60 w =>
  pvv prog (binOp .shl 21 t_60 (.int .u64 18)) w fun t_61 w =>
  pvv prog (binOp .and 5 t_22 (.int .u8 63)) w fun t_62 w =>
  pvv prog (convert 5 21 t_62) w fun t_63 w =>
  pvv prog (binOp .shl 21 t_63 (.int .u64 12)) w fun t_64 w =>
  pvv prog (binOp .or 21 t_61 t_64) w fun t_65 w =>
  pvv prog (binOp .and 5 t_38 (.int .u8 63)) w fun t_66 w =>
  pvv prog (convert 5 21 t_66) w fun t_67 w =>
  pvv prog (binOp .shl 21 t_67 (.int .u64 6)) w fun t_68 w =>
  pvv prog (binOp .or 21 t_65 t_68) w fun t_69 w =>
  pvv prog (binOp .and 5 t_54 (.int .u8 63)) w fun t_70 w =>
  pvv prog (convert 5 21 t_70) w fun t_71 w =>
  pvv prog (binOp .or 21 t_69 t_71) w fun t_72 w =>
  K (.tuple #[t_72, (.int .i64 4)]) w
theorem B88_eq (s_p0 : Value) (w : World) (K : Value → World → Prop) : denFn prog Tryz.f88 T88 [s_p0] w K = B88 s_p0 w K := by kernel_rfl
theorem c88 {s_p0 : Value} {w : World} {K : Value → World → Prop} (h : B88 s_p0 w K) : Calls prog 88 #[s_p0] w (Ret K) :=
  denFn_calls Tryz.func88 T88_ok (Eq.mpr (B88_eq s_p0 w K) h)

-- 14 (*holdfast/audit.Chain).Verify
def T14 : Ann := (.seq .none (.seq (.seq .none (.seq (.seq .none .none) .none)) (.seq .none (.seq (.seq .none (.block (.range .none (.block (.seq (.seq (.draw [.op 0 .pure, .op 1 .load, .op 2 .load, .op 3 .pure, .op 4 .pure, .op 5 .pure, .op 6 .load, .op 7 .pure, .op 8 .pure, .op 9 .load, .op 10 .load, .op 11 .pure, .op 12 .pure, .op 13 .load, .op 14 .pure, .op 15 .pure]) (.seq (.seq .none .none) .none)) .none))))) (.seq (.seq (.draw [.op 0 .pure, .op 1 .load, .op 2 .load, .op 3 .pure, .op 4 .pure, .op 5 .load, .op 6 .pure]) (.seq (.seq .none .none) .none)) (.seq .none .none))))))
theorem T14_ok : chkFn prog Tryz.f14 T14 = true := by kernel_rfl
def B14 (c_p0 : Value) (w : World) (K : Value → World → Prop) : Prop :=
  efv prog (Instr.box 25 c_p0) w fun c_0 w =>
  efv prog (Instr.alloc 36 true (.tuple #[])) w fun t_1 w =>
  ldv prog (Instr.loadAt 25 c_0) w fun t_2 w =>
  pvv prog (oEq .eql 25 (.tmp 5) (.const (.pointer none)) t_2 (.pointer none)) w fun t_3 w =>
  cd t_3 (
    efu prog (Instr.storeAt 36 t_1 (.int .i64 1)) w fun u_4 w =>
    ∃ r_5, (do loadVar 36 (← asAddr t_1)).run prog w = .ok r_5 w ∧ K r_5 w) <|
  efv prog (Instr.alloc 50 true (.tuple #[])) w fun last_6 w =>
  ldv prog (Instr.loadAt 25 c_0) w fun t_7 w =>
  Calls prog 33 #[t_7] w (Ret fun t_8 w =>
  rng prog 1 t_8 (fun σ w bg_10 ex_11 => pop σ fun t_9 σ => fin σ <|
    efv prog (Instr.alloc 50 true (.tuple #[])) w fun p_12 w =>
    efu prog (Instr.storeAt 50 p_12 t_9) w fun u_13 w =>
    bg_10 w fun w =>
    dr w fun w =>
    pvv prog (Instr.fieldAt 50 p_12 0) w fun t_14 w =>
    bindS (vN (Instr.loadAt 3 t_14)) fun m_16 => ldv prog (Instr.loadAt 3 t_14) w fun t_15 w =>
    bindS (vN (Instr.loadAt 25 c_0)) fun m_18 => ldv prog (Instr.loadAt 25 c_0) w fun t_17 w =>
    pv prog (oNil t_17) w fun t_19 w =>
    pvv prog (Instr.fieldAt 52 t_19 1) w fun t_20 w =>
    pvv prog (Instr.fieldAt 50 t_20 0) w fun t_21 w =>
    bindS (vN (Instr.loadAt 3 t_21)) fun m_23 => ldv prog (Instr.loadAt 3 t_21) w fun t_22 w =>
    pvv prog (oEq .eql 3 (.tmp 11) (.tmp 16) t_15 t_22) w fun t_24 w =>
    bindS (vN (Instr.loadAt 50 p_12)) fun m_26 => gate (some (t_24, true)) (fun K => ldv prog (Instr.loadAt 50 p_12) w K) w fun t_25 w =>
    bindS (vN (Instr.loadAt 25 c_0)) fun m_28 => gate (some (t_24, true)) (fun K => ldv prog (Instr.loadAt 25 c_0) w K) w fun t_27 w =>
    gate (some (t_24, true)) (fun K => pv prog (oNil t_27) w K) w fun t_29 w =>
    gate (some (t_24, true)) (fun K => pvv prog (Instr.fieldAt 52 t_29 1) w K) w fun t_30 w =>
    bindS (vN (Instr.loadAt 50 t_30)) fun m_32 => gate (some (t_24, true)) (fun K => ldv prog (Instr.loadAt 50 t_30) w K) w fun t_31 w =>
    gate (some (t_24, true)) (fun K => pvv prog (oEq .neq 50 (.tmp 19) (.tmp 23) t_25 t_31) w K) w fun t_33 w =>
    pv prog (oPick t_24 t_33 (.bool false)) w fun t_34 w =>
    cd t_34 (
      efu prog (Instr.storeAt 36 t_1 (.int .i64 15)) w fun u_35 w =>
      ex_11 .ret w) <|
    ldv prog (Instr.loadAt 50 p_12) w fun t_36 w =>
    efu prog (Instr.storeAt 50 last_6 t_36) w fun u_37 w =>
    ex_11 .normal w) w fun p_39 D_38 w =>
  jump (
    dr w fun w =>
    pvv prog (Instr.fieldAt 50 last_6 1) w fun t_40 w =>
    bindS (vN (Instr.loadAt 44 t_40)) fun m_42 => ldv prog (Instr.loadAt 44 t_40) w fun t_41 w =>
    bindS (vN (Instr.loadAt 25 c_0)) fun m_44 => ldv prog (Instr.loadAt 25 c_0) w fun t_43 w =>
    pv prog (oNil t_43) w fun t_45 w =>
    pvv prog (Instr.fieldAt 52 t_45 2) w fun t_46 w =>
    bindS (vN (Instr.loadAt 44 t_46)) fun m_48 => ldv prog (Instr.loadAt 44 t_46) w fun t_47 w =>
    pvv prog (oEq .neq 44 (.tmp 28) (.tmp 32) t_41 t_47) w fun t_49 w =>
    cd t_49 (
      efu prog (Instr.storeAt 36 t_1 (.int .i64 15)) w fun u_50 w =>
      und [D_38] w fun w => ∃ r_51, (do loadVar 36 (← asAddr t_1)).run prog w = .ok r_51 w ∧ K r_51 w) <|
    efu prog (Instr.storeAt 36 t_1 (.int .i64 0)) w fun u_52 w =>
    und [D_38] w fun w => ∃ r_53, (do loadVar 36 (← asAddr t_1)).run prog w = .ok r_53 w ∧ K r_53 w) (
    und [D_38] w fun w => ∃ r_54, (do loadVar 36 (← asAddr t_1)).run prog w = .ok r_54 w ∧ K r_54 w) [] p_39)
theorem B14_eq (c_p0 : Value) (w : World) (K : Value → World → Prop) : denFn prog Tryz.f14 T14 [c_p0] w K = B14 c_p0 w K := by kernel_rfl
theorem c14 {c_p0 : Value} {w : World} {K : Value → World → Prop} (h : B14 c_p0 w K) : Calls prog 14 #[c_p0] w (Ret K) :=
  denFn_calls Tryz.func14 T14_ok (Eq.mpr (B14_eq c_p0 w K) h)

-- 25 holdfast/holdfastref09.Sorted
def T25 : Ann := (.seq .none (.seq .none (.seq (.seq .none (.block (.loop 1125899906842616 [3, 4] (.seq (.seq .none (.seq .none .none)) (.seq (.block (.seq .none (.seq (.block (.loop 8589901856 [5] (.seq (.seq (.draw [.op 0 .pure, .op 1 .pure, .op 2 .pure, .op 3 .pure, .op 4 .pure, .op 5 .pure, .op 6 .pure, .op 7 .pure, .op 9 .pure, .op 10 .pure, .op 11 .pure, .op 12 .pure, .op 8 .load, .op 13 .load, .op 14 .pure, .op 15 .pure]) (.seq .none .none)) (.block .none)))) (.seq .none (.seq .none (.seq .none .none)))))) .none))))) (.seq .none .none))))
theorem T25_ok : chkFn prog Tryz.f25 T25 = true := by kernel_rfl
def B25 (l_p0 : Value) (w : World) (K : Value → World → Prop) : Prop :=
  lp (fun σ w again_2 => pop σ fun out_0 σ => pop σ fun i_1 σ => fin σ <|
    pv prog (oBi .len #[31] 3 #[false] #[l_p0]) w fun t_3 w =>
    pvv prog (binOp .lss 3 i_1 t_3) w fun t_4 w =>
    cd t_4 (
      pv prog (oBi .len #[31] 3 #[false] #[out_0]) w fun t_5 w =>
      lp (fun σ w again_7 => pop σ fun at_6 σ => fin σ <|
        dr w fun w =>
        pvv prog (binOp .gtr 3 at_6 (.int .i64 0)) w fun t_8 w =>
        gate (some (t_8, true)) (fun K => K out_0 w) w fun t_9 w =>
        gate (some (t_8, true)) (fun K => K at_6 w) w fun t_10 w =>
        gate (some (t_8, true)) (fun K => pvv prog (binOp .sub 3 t_10 (.int .i64 1)) w K) w fun t_11 w =>
        gate (some (t_8, true)) (fun K => pvv prog (Instr.indexAt 31 t_9 t_11) w K) w fun t_12 w =>
        gate (some (t_8, true)) (fun K => pvv prog (Instr.fieldAt 35 t_12 0) w K) w fun t_13 w =>
        gate (some (t_8, true)) (fun K => K l_p0 w) w fun t_14 w =>
        gate (some (t_8, true)) (fun K => K i_1 w) w fun t_15 w =>
        gate (some (t_8, true)) (fun K => pvv prog (Instr.indexAt 31 t_14 t_15) w K) w fun t_16 w =>
        gate (some (t_8, true)) (fun K => pvv prog (Instr.fieldAt 35 t_16 0) w K) w fun t_17 w =>
        bindS (vN (Instr.loadAt 9 t_13)) fun m_19 => gate (some (t_8, true)) (fun K => ldv prog (Instr.loadAt 9 t_13) w K) w fun t_18 w =>
        bindS (vN (Instr.loadAt 9 t_17)) fun m_21 => gate (some (t_8, true)) (fun K => ldv prog (Instr.loadAt 9 t_17) w K) w fun t_20 w =>
        gate (some (t_8, true)) (fun K => pvv prog (binOp .gtr 9 t_18 t_20) w K) w fun t_22 w =>
        pv prog (oPick t_8 t_22 (.bool false)) w fun t_23 w =>
        cd t_23 (
          pvv prog (binOp .sub 3 at_6 (.int .i64 1)) w fun t_24 w =>
          again_7 [t_24] w) <|
        pvv prog (Instr.sliceAt 31 out_0 none (some at_6) none) w fun t_25 w =>
        ef prog (oBi .append #[31, 31] 31 #[false, false] #[(.slice none 0 0), t_25]) w fun t_26 w =>
        pvv prog (Instr.indexAt 31 l_p0 i_1) w fun t_27 w =>
        ldv prog (Instr.loadAt 35 t_27) w fun t_28 w =>
        efv prog (Instr.buildSlice 31 1 #[(0, t_28)]) w fun t_29 w =>
        ef prog (oBi .append #[31, 31] 31 #[false, false] #[t_26, t_29]) w fun t_30 w =>
        pvv prog (Instr.sliceAt 31 out_0 (some at_6) none none) w fun t_31 w =>
        ef prog (oBi .append #[31, 31] 31 #[false, false] #[t_30, t_31]) w fun t_32 w =>
        pvv prog (binOp .add 3 i_1 (.int .i64 1)) w fun t_33 w =>
        again_2 [t_32, t_33] w) [t_5] w) <|
    K out_0 w) [(.slice none 0 0), (.int .i64 0)] w
theorem B25_eq (l_p0 : Value) (w : World) (K : Value → World → Prop) : denFn prog Tryz.f25 T25 [l_p0] w K = B25 l_p0 w K := by kernel_rfl
theorem c25 {l_p0 : Value} {w : World} {K : Value → World → Prop} (h : B25 l_p0 w K) : Calls prog 25 #[l_p0] w (Ret K) :=
  denFn_calls Tryz.func25 T25_ok (Eq.mpr (B25_eq l_p0 w K) h)

-- 69 internal/strconv.FormatInt
def T69 : Ann := (.seq .none (.seq (.seq .none (.seq (.seq (.seq .none (.seq (.seq .none .none) .none)) (.seq .none (.seq .none (.meet 62914624 [6] (.seq .none (.seq .none .none)) (.seq .none (.seq .none (.seq (.seq .none (.seq (.seq .none (.seq .none .none)) .none)) (.seq .none .none)))))))) .none)) (.seq .none (.seq .none .none))))
theorem T69_ok : chkFn prog Tryz.f69 T69 = true := by kernel_rfl
def B69 (i_p0 base_p1 : Value) (w : World) (K : Value → World → Prop) : Prop :=
  pvv prog (oEq .eql 3 (.tmp 10) (.const (.int .i64 10)) base_p1 (.int .i64 10)) w fun t_0 w =>
  cd t_0 (
    pvv prog (binOp .leq 2 (.int .i64 0) i_p0) w fun t_1 w =>
    gate (some (t_1, true)) (fun K => K i_p0 w) w fun t_2 w =>
    gate (some (t_1, true)) (fun K => pvv prog (binOp .lss 2 t_2 (.int .i64 100)) w K) w fun t_3 w =>
    pv prog (oPick t_1 t_3 (.bool false)) w fun t_4 w =>
    cd t_4 (
      Calls prog 83 #[i_p0] w (Ret fun t_5 w =>
      K t_5 w)) <|
    efv prog (Instr.alloc 129 true (.tuple #[])) w fun a_6 w =>
    pvv prog (convert 2 94 i_p0) w fun t_7 w =>
    jn (fun σ w => pop σ fun u_8 σ => fin σ <|
      Calls prog 84 #[u_8] w (Ret fun t_9 w =>
      pvv prog (binOp .add 3 (.int .i64 1) t_9) w fun t_10 w =>
      pvv prog (Instr.sliceAt 129 a_6 (some (.int .i64 1)) (some t_10) none) w fun t_11 w =>
      Calls prog 85 #[t_11, u_8] w (Ret fun t_12 w =>
      pvv prog (binOp .lss 2 i_p0 (.int .i64 0)) w fun t_13 w =>
      cd t_13 (
        pvv prog (Instr.indexAt 129 a_6 (.int .i64 0)) w fun t_14 w =>
        efu prog (Instr.storeAt 5 t_14 (.int .u8 45)) w fun u_15 w =>
        pvv prog (binOp .add 3 (.int .i64 1) t_9) w fun t_16 w =>
        pvv prog (Instr.sliceAt 129 a_6 none (some t_16) none) w fun t_17 w =>
        efv prog (convert 74 9 t_17) w fun t_18 w =>
        K t_18 w) <|
      pvv prog (binOp .add 3 (.int .i64 1) t_9) w fun t_19 w =>
      pvv prog (Instr.sliceAt 129 a_6 (some (.int .i64 1)) (some t_19) none) w fun t_20 w =>
      efv prog (convert 74 9 t_20) w fun t_21 w =>
      K t_21 w))) fun k_22 =>
    pvv prog (binOp .lss 2 i_p0 (.int .i64 0)) w fun t_23 w =>
    cd t_23 (
      pvv prog (Op.unary .neg t_7) w fun t_24 w =>
      k_22 [t_24] w) <|
    k_22 [t_7] w) <|
  pvv prog (convert 2 94 i_p0) w fun t_25 w =>
  pvv prog (binOp .lss 2 i_p0 (.int .i64 0)) w fun t_26 w =>
  Calls prog 86 #[(.slice none 0 0), t_25, base_p1, t_26, (.bool false)] w (Ret fun t_27 w =>
  pvv prog (Instr.extract t_27 0) w fun t_28 w =>
  pvv prog (Instr.extract t_27 1) w fun t_29 w =>
  K t_29 w)
theorem B69_eq (i_p0 base_p1 : Value) (w : World) (K : Value → World → Prop) : denFn prog Tryz.f69 T69 [i_p0, base_p1] w K = B69 i_p0 base_p1 w K := by kernel_rfl
theorem c69 {i_p0 base_p1 : Value} {w : World} {K : Value → World → Prop} (h : B69 i_p0 base_p1 w K) : Calls prog 69 #[i_p0, base_p1] w (Ret K) :=
  denFn_calls Tryz.func69 T69_ok (Eq.mpr (B69_eq i_p0 base_p1 w K) h)

-- 27 holdfast/audit.take
def T27 : Ann := (.seq .none (.seq (.seq .none (.seq (.seq .none .none) .none)) (.seq (.draw [.op 0 .pure, .op 1 .pure, .op 2 .pure, .op 3 .pure, .op 4 .load, .op 5 .pure, .op 6 .load, .op 7 .eff]) (.seq .none .none))))
theorem T27_ok : chkFn prog Tryz.f27 T27 = true := by kernel_rfl
def B27 (r_p0 key_p1 h_p2 : Value) (w : World) (K : Value → World → Prop) : Prop :=
  efv prog (Instr.box 35 r_p0) w fun r_0 w =>
  pvv prog (Instr.fieldAt 35 r_0 0) w fun t_1 w =>
  ldv prog (Instr.loadAt 9 t_1) w fun t_2 w =>
  pvv prog (oEq .neq 9 (.tmp 8) (.tmp 9) t_2 key_p1) w fun t_3 w =>
  gate (some (t_3, false)) (fun K => pvv prog (Instr.fieldAt 35 r_0 1) w K) w fun t_4 w =>
  gate (some (t_3, false)) (fun K => ldv prog (Instr.loadAt 33 t_4) w K) w fun t_5 w =>
  gate (some (t_3, false)) (fun K => pv prog (oBi .len #[33] 3 #[false] #[t_5]) w K) w fun t_6 w =>
  gate (some (t_3, false)) (fun K => pvv prog (oEq .neq 3 (.tmp 14) (.const (.int .i64 1)) t_6 (.int .i64 1)) w K) w fun t_7 w =>
  pv prog (oPick t_3 (.bool true) t_7) w fun t_8 w =>
  gate (some (t_8, false)) (fun K => pvv prog (Instr.fieldAt 35 r_0 1) w K) w fun t_9 w =>
  gate (some (t_8, false)) (fun K => ldv prog (Instr.loadAt 33 t_9) w K) w fun t_10 w =>
  gate (some (t_8, false)) (fun K => pvv prog (Instr.indexAt 33 t_10 (.int .i64 0)) w K) w fun t_11 w =>
  gate (some (t_8, false)) (fun K => ldv prog (Instr.loadAt 9 t_11) w K) w fun t_12 w =>
  gate (some (t_8, false)) (fun K => pv prog (oBi .len #[9] 3 #[false] #[t_12]) w K) w fun t_13 w =>
  gate (some (t_8, false)) (fun K => pvv prog (oEq .neq 3 (.tmp 22) (.const (.int .i64 32)) t_13 (.int .i64 32)) w K) w fun t_14 w =>
  pv prog (oPick t_8 (.bool true) t_14) w fun t_15 w =>
  cd t_15 (
    K (.bool false) w) <|
  dr w fun w =>
  pv prog (oNil h_p2) w fun t_16 w =>
  pvv prog (Instr.sliceAt 44 t_16 none none none) w fun t_17 w =>
  pvv prog (Instr.fieldAt 35 r_0 1) w fun t_18 w =>
  bindS (vN (Instr.loadAt 33 t_18)) fun m_20 => ldv prog (Instr.loadAt 33 t_18) w fun t_19 w =>
  pvv prog (Instr.indexAt 33 t_19 (.int .i64 0)) w fun t_21 w =>
  bindS (vN (Instr.loadAt 9 t_21)) fun m_23 => ldv prog (Instr.loadAt 9 t_21) w fun t_22 w =>
  ef prog (oBi .copy #[74, 9] 3 #[false, false] #[t_17, t_22]) w fun t_24 w => stay prog none m_20 t_19 w <| 
  K (.bool true) w
theorem B27_eq (r_p0 key_p1 h_p2 : Value) (w : World) (K : Value → World → Prop) : denFn prog Tryz.f27 T27 [r_p0, key_p1, h_p2] w K = B27 r_p0 key_p1 h_p2 w K := by kernel_rfl
theorem c27 {r_p0 key_p1 h_p2 : Value} {w : World} {K : Value → World → Prop} (h : B27 r_p0 key_p1 h_p2 w K) : Calls prog 27 #[r_p0, key_p1, h_p2] w (Ret K) :=
  denFn_calls Tryz.func27 T27_ok (Eq.mpr (B27_eq r_p0 key_p1 h_p2 w K) h)

-- 47 holdfast/codec.Row
def T47 : Ann := (.seq .none (.seq (.seq .none (.seq (.seq .none .none) .none)) (.seq .none (.seq (.seq .none (.block (.loop 4294901852 [4, 16] (.seq .none (.seq (.seq .none .none) (.seq (.block (.seq .none (.seq (.seq .none (.seq (.seq .none .none) .none)) .none))) .none)))))) (.seq (.seq .none (.seq (.seq .none .none) .none)) (.seq .none .none))))))
theorem T47_ok : chkFn prog Tryz.f47 T47 = true := by kernel_rfl
def B47 (columns_p0 : Value) (w : World) (K : Value → World → Prop) : Prop :=
  pv prog (oBi .len #[33] 3 #[false] #[columns_p0]) w fun t_0 w =>
  pvv prog (binOp .gtr 3 t_0 (.int .i64 8)) w fun t_1 w =>
  cd t_1 (
    K (.tuple #[(.slice none 0 0), (.int .i64 2)]) w) <|
  pv prog (oBi .len #[33] 3 #[false] #[columns_p0]) w fun t_2 w =>
  pvv prog (convert 3 5 t_2) w fun t_3 w =>
  efv prog (Instr.buildSlice 74 1 #[(0, t_3)]) w fun t_4 w =>
  pv prog (oBi .len #[33] 3 #[false] #[columns_p0]) w fun t_5 w =>
  lp (fun σ w again_8 => pop σ fun out_6 σ => pop σ fun t_7 σ => fin σ <|
    pvv prog (binOp .lss 3 t_7 t_5) w fun t_9 w =>
    cd t_9 (
      pvv prog (Instr.indexAt 33 columns_p0 t_7) w fun t_10 w =>
      ldv prog (Instr.loadAt 9 t_10) w fun t_11 w =>
      pv prog (oBi .len #[9] 3 #[false] #[t_11]) w fun t_12 w =>
      pvv prog (binOp .gtr 3 t_12 (.int .i64 70)) w fun t_13 w =>
      cd t_13 (
        K (.tuple #[(.slice none 0 0), (.int .i64 6)]) w) <|
      pv prog (oBi .len #[9] 3 #[false] #[t_11]) w fun t_14 w =>
      pvv prog (convert 3 5 t_14) w fun t_15 w =>
      efv prog (Instr.buildSlice 74 1 #[(0, t_15)]) w fun t_16 w =>
      ef prog (oBi .append #[74, 74] 74 #[false, false] #[out_6, t_16]) w fun t_17 w =>
      ef prog (oBi .append #[74, 9] 74 #[false, false] #[t_17, t_11]) w fun t_18 w =>
      pvv prog (binOp .add 3 t_7 (.int .i64 1)) w fun t_19 w =>
      again_8 [t_18, t_19] w) <|
    pv prog (oBi .len #[74] 3 #[false] #[out_6]) w fun t_20 w =>
    pvv prog (binOp .gtr 3 t_20 (.int .i64 72)) w fun t_21 w =>
    cd t_21 (
      K (.tuple #[(.slice none 0 0), (.int .i64 6)]) w) <|
    K (.tuple #[out_6, (.int .i64 0)]) w) [t_4, (.int .i64 0)] w
theorem B47_eq (columns_p0 : Value) (w : World) (K : Value → World → Prop) : denFn prog Tryz.f47 T47 [columns_p0] w K = B47 columns_p0 w K := by kernel_rfl
theorem c47 {columns_p0 : Value} {w : World} {K : Value → World → Prop} (h : B47 columns_p0 w K) : Calls prog 47 #[columns_p0] w (Ret K) :=
  denFn_calls Tryz.func47 T47_ok (Eq.mpr (B47_eq columns_p0 w K) h)

-- 65 strings.trimRightUnicode
def T65 : Ann := (.seq .none (.meet 8589934561 [0] (.block (.loop 8589934561 [0] (.seq (.seq .none (.seq .none .none)) (.block (.seq .none (.meet 8323168 [5, 6] (.seq .none (.seq .none .none)) (.seq (.seq .none (.seq .none .none)) .none))))))) (.seq .none .none)))
theorem T65_ok : chkFn prog Tryz.f65 T65 = true := by kernel_rfl
def B65 (s_p0 cutset_p1 : Value) (w : World) (K : Value → World → Prop) : Prop :=
  jn (fun σ w => pop σ fun s_0 σ => fin σ <|
    K s_0 w) fun k_1 =>
  lp (fun σ w again_3 => pop σ fun s_2 σ => fin σ <|
    pv prog (oBi .len #[9] 3 #[false] #[s_2]) w fun t_4 w =>
    pvv prog (binOp .gtr 3 t_4 (.int .i64 0)) w fun t_5 w =>
    cd t_5 (
      pv prog (oBi .len #[9] 3 #[false] #[s_2]) w fun t_6 w =>
      pvv prog (binOp .sub 3 t_6 (.int .i64 1)) w fun t_7 w =>
      pvv prog (Instr.index 9 s_2 t_7) w fun t_8 w =>
      pvv prog (convert 5 21 t_8) w fun t_9 w =>
      jn (fun σ w => pop σ fun r_10 σ => pop σ fun n_11 σ => fin σ <|
        Calls prog 75 #[cutset_p1, r_10] w (Ret fun t_12 w =>
        pvv prog (Op.unary .not t_12) w fun t_13 w =>
        cd t_13 (
          k_1 [s_2] w) <|
        pv prog (oBi .len #[9] 3 #[false] #[s_2]) w fun t_14 w =>
        pvv prog (binOp .sub 3 t_14 n_11) w fun t_15 w =>
        pvv prog (Instr.sliceAt 9 s_2 none (some t_15) none) w fun t_16 w =>
        again_3 [t_16] w)) fun k_17 =>
      pvv prog (binOp .geq 21 t_9 (.int .i32 128)) w fun t_18 w =>
      cd t_18 (
        Calls prog 76 #[s_2] w (Ret fun t_19 w =>
        pvv prog (Instr.extract t_19 0) w fun t_20 w =>
        pvv prog (Instr.extract t_19 1) w fun t_21 w =>
        k_17 [t_20, t_21] w)) <|
      k_17 [t_9, (.int .i64 1)] w) <|
    k_1 [s_2] w) [s_p0] w
theorem B65_eq (s_p0 cutset_p1 : Value) (w : World) (K : Value → World → Prop) : denFn prog Tryz.f65 T65 [s_p0, cutset_p1] w K = B65 s_p0 cutset_p1 w K := by kernel_rfl
theorem c65 {s_p0 cutset_p1 : Value} {w : World} {K : Value → World → Prop} (h : B65 s_p0 cutset_p1 w K) : Calls prog 65 #[s_p0, cutset_p1] w (Ret K) :=
  denFn_calls Tryz.func65 T65_ok (Eq.mpr (B65_eq s_p0 cutset_p1 w K) h)

-- 32 holdfast/holdfastref14.Bytes
def T32 : Ann := (.seq .none (.seq (.draw [.op 0 .pure, .op 3 .pure, .op 6 .pure, .op 8 .pure, .op 1 .load, .op 4 .load, .op 7 .load, .op 9 .load, .op 2 .eff, .op 5 .eff, .op 10 .eff, .op 11 .eff, .op 12 .pure, .op 13 .pure, .op 14 .pure, .op 15 .pure, .op 16 .pure]) (.seq .none .none)))
theorem T32_ok : chkFn prog Tryz.f32 T32 = true := by kernel_rfl
def B32 (x_p0 : Value) (w : World) (K : Value → World → Prop) : Prop :=
  efv prog (Instr.box 56 x_p0) w fun x_0 w =>
  dr w fun w =>
  pvv prog (Instr.fieldAt 56 x_0 0) w fun t_1 w =>
  pvv prog (Instr.fieldAt 56 x_0 1) w fun t_2 w =>
  pvv prog (Instr.fieldAt 56 x_0 2) w fun t_3 w =>
  pvv prog (Instr.fieldAt 56 x_0 3) w fun t_4 w =>
  bindS (vN (Instr.loadAt 3 t_1)) fun m_6 => ldv prog (Instr.loadAt 3 t_1) w fun t_5 w =>
  bindS (vN (Instr.loadAt 3 t_2)) fun m_8 => ldv prog (Instr.loadAt 3 t_2) w fun t_7 w =>
  bindS (vN (Instr.loadAt 9 t_3)) fun m_10 => ldv prog (Instr.loadAt 9 t_3) w fun t_9 w =>
  bindS (vN (Instr.loadAt 9 t_4)) fun m_12 => ldv prog (Instr.loadAt 9 t_4) w fun t_11 w =>
  Calls prog 23 #[t_5] w (Ret fun t_13 w => stay prog none m_12 t_11 w <| stay prog none m_10 t_9 w <| stay prog none m_8 t_7 w <| 
  Calls prog 23 #[t_7] w (Ret fun t_14 w => stay prog none m_12 t_11 w <| stay prog none m_10 t_9 w <| stay prog none m_6 t_5 w <| 
  efv prog (Instr.buildSlice 33 4 #[(0, t_13), (1, t_14), (2, t_9), (3, t_11)]) w fun t_15 w => stay prog none m_8 t_7 w <| stay prog none m_6 t_5 w <| 
  Calls prog 45 #[t_15] w (Ret fun t_16 w => stay prog none m_12 t_11 w <| stay prog none m_10 t_9 w <| stay prog none m_8 t_7 w <| stay prog none m_6 t_5 w <| 
  pvv prog (Instr.extract t_16 0) w fun t_17 w =>
  pvv prog (Instr.extract t_16 1) w fun t_18 w =>
  K t_17 w)))
theorem B32_eq (x_p0 : Value) (w : World) (K : Value → World → Prop) : denFn prog Tryz.f32 T32 [x_p0] w K = B32 x_p0 w K := by kernel_rfl
theorem c32 {x_p0 : Value} {w : World} {K : Value → World → Prop} (h : B32 x_p0 w K) : Calls prog 32 #[x_p0] w (Ret K) :=
  denFn_calls Tryz.func32 T32_ok (Eq.mpr (B32_eq x_p0 w K) h)

-- 26 holdfast/audit.read
def T26 : Ann := (.seq .none (.seq (.seq .none (.seq (.seq .none .none) .none)) (.seq (.seq .none (.block (.loop 34359673328 [16] (.seq .none (.seq (.seq .none .none) (.seq (.block (.seq .none (.seq .none (.seq (.seq .none (.seq (.seq .none .none) .none)) .none)))) .none)))))) (.seq .none .none))))
theorem T26_ok : chkFn prog Tryz.f26 T26 = true := by kernel_rfl
def B26 (l_p0 to_p1 : Value) (w : World) (K : Value → World → Prop) : Prop :=
  pv prog (oBi .len #[33] 3 #[false] #[l_p0]) w fun t_0 w =>
  pv prog (oBi .len #[85] 3 #[false] #[to_p1]) w fun t_1 w =>
  pvv prog (oEq .neq 3 (.tmp 10) (.tmp 12) t_0 t_1) w fun t_2 w =>
  cd t_2 (
    K (.bool false) w) <|
  pv prog (oBi .len #[33] 3 #[false] #[l_p0]) w fun t_3 w =>
  lp (fun σ w again_5 => pop σ fun t_4 σ => fin σ <|
    pvv prog (binOp .lss 3 t_4 t_3) w fun t_6 w =>
    cd t_6 (
      pvv prog (Instr.indexAt 33 l_p0 t_4) w fun t_7 w =>
      ldv prog (Instr.loadAt 9 t_7) w fun t_8 w =>
      Calls prog 41 #[t_8] w (Ret fun t_9 w =>
      pvv prog (Instr.extract t_9 0) w fun t_10 w =>
      pvv prog (Instr.extract t_9 1) w fun t_11 w =>
      pvv prog (oEq .neq 36 (.tmp 26) (.const (.int .i64 0)) t_11 (.int .i64 0)) w fun t_12 w =>
      cd t_12 (
        K (.bool false) w) <|
      pvv prog (Instr.indexAt 85 to_p1 t_4) w fun t_13 w =>
      ldv prog (Instr.loadAt 67 t_13) w fun t_14 w =>
      pv prog (oNil t_14) w fun t_15 w =>
      efu prog (Instr.storeAt 3 t_15 t_10) w fun u_16 w =>
      pvv prog (binOp .add 3 t_4 (.int .i64 1)) w fun t_17 w =>
      again_5 [t_17] w)) <|
    K (.bool true) w) [(.int .i64 0)] w
theorem B26_eq (l_p0 to_p1 : Value) (w : World) (K : Value → World → Prop) : denFn prog Tryz.f26 T26 [l_p0, to_p1] w K = B26 l_p0 to_p1 w K := by kernel_rfl
theorem c26 {l_p0 to_p1 : Value} {w : World} {K : Value → World → Prop} (h : B26 l_p0 to_p1 w K) : Calls prog 26 #[l_p0, to_p1] w (Ret K) :=
  denFn_calls Tryz.func26 T26_ok (Eq.mpr (B26_eq l_p0 to_p1 w K) h)

-- 60 strings.trimRightByte
def T60 : Ann := (.seq .none (.seq (.block (.loop 4194273 [0] (.seq (.seq .none (.seq .none .none)) (.block .none)))) (.seq .none .none)))
theorem T60_ok : chkFn prog Tryz.f60 T60 = true := by kernel_rfl
def B60 (s_p0 c_p1 : Value) (w : World) (K : Value → World → Prop) : Prop :=
  lp (fun σ w again_1 => pop σ fun s_0 σ => fin σ <|
    pv prog (oBi .len #[9] 3 #[false] #[s_0]) w fun t_2 w =>
    pvv prog (binOp .gtr 3 t_2 (.int .i64 0)) w fun t_3 w =>
    gate (some (t_3, true)) (fun K => K s_0 w) w fun t_4 w =>
    gate (some (t_3, true)) (fun K => K s_0 w) w fun t_5 w =>
    gate (some (t_3, true)) (fun K => pv prog (oBi .len #[9] 3 #[false] #[t_5]) w K) w fun t_6 w =>
    gate (some (t_3, true)) (fun K => pvv prog (binOp .sub 3 t_6 (.int .i64 1)) w K) w fun t_7 w =>
    gate (some (t_3, true)) (fun K => pvv prog (Instr.index 9 t_4 t_7) w K) w fun t_8 w =>
    gate (some (t_3, true)) (fun K => K c_p1 w) w fun t_9 w =>
    gate (some (t_3, true)) (fun K => pvv prog (oEq .eql 5 (.tmp 13) (.tmp 14) t_8 t_9) w K) w fun t_10 w =>
    pv prog (oPick t_3 t_10 (.bool false)) w fun t_11 w =>
    cd t_11 (
      pv prog (oBi .len #[9] 3 #[false] #[s_0]) w fun t_12 w =>
      pvv prog (binOp .sub 3 t_12 (.int .i64 1)) w fun t_13 w =>
      pvv prog (Instr.sliceAt 9 s_0 none (some t_13) none) w fun t_14 w =>
      again_1 [t_14] w) <|
    K s_0 w) [s_p0] w
theorem B60_eq (s_p0 c_p1 : Value) (w : World) (K : Value → World → Prop) : denFn prog Tryz.f60 T60 [s_p0, c_p1] w K = B60 s_p0 c_p1 w K := by kernel_rfl
theorem c60 {s_p0 c_p1 : Value} {w : World} {K : Value → World → Prop} (h : B60 s_p0 c_p1 w K) : Calls prog 60 #[s_p0, c_p1] w (Ret K) :=
  denFn_calls Tryz.func60 T60_ok (Eq.mpr (B60_eq s_p0 c_p1 w K) h)

-- 58 internal/stringslite.HasPrefix
def T58 : Ann := (.seq .none (.seq .none .none))
theorem T58_ok : chkFn prog Tryz.f58 T58 = true := by kernel_rfl
def B58 (s_p0 prefix_p1 : Value) (w : World) (K : Value → World → Prop) : Prop :=
  pv prog (oBi .len #[9] 3 #[false] #[s_p0]) w fun t_0 w =>
  pv prog (oBi .len #[9] 3 #[false] #[prefix_p1]) w fun t_1 w =>
  pvv prog (binOp .geq 3 t_0 t_1) w fun t_2 w =>
  gate (some (t_2, true)) (fun K => K s_p0 w) w fun t_3 w =>
  gate (some (t_2, true)) (fun K => K prefix_p1 w) w fun t_4 w =>
  gate (some (t_2, true)) (fun K => pv prog (oBi .len #[9] 3 #[false] #[t_4]) w K) w fun t_5 w =>
  gate (some (t_2, true)) (fun K => pvv prog (Instr.sliceAt 9 t_3 none (some t_5) none) w K) w fun t_6 w =>
  gate (some (t_2, true)) (fun K => K prefix_p1 w) w fun t_7 w =>
  gate (some (t_2, true)) (fun K => pvv prog (oEq .eql 9 (.tmp 14) (.tmp 15) t_6 t_7) w K) w fun t_8 w =>
  pv prog (oPick t_2 t_8 (.bool false)) w fun t_9 w =>
  K t_9 w
theorem B58_eq (s_p0 prefix_p1 : Value) (w : World) (K : Value → World → Prop) : denFn prog Tryz.f58 T58 [s_p0, prefix_p1] w K = B58 s_p0 prefix_p1 w K := by kernel_rfl
theorem c58 {s_p0 prefix_p1 : Value} {w : World} {K : Value → World → Prop} (h : B58 s_p0 prefix_p1 w K) : Calls prog 58 #[s_p0, prefix_p1] w (Ret K) :=
  denFn_calls Tryz.func58 T58_ok (Eq.mpr (B58_eq s_p0 prefix_p1 w K) h)

-- 43 holdfast/holdfastref07.bytesOf
def T43 : Ann := (.seq .none (.seq .none (.seq (.seq .none (.block (.loop 32760 [3, 4] (.seq (.seq .none (.seq .none .none)) (.seq (.block .none) .none))))) (.seq .none .none))))
theorem T43_ok : chkFn prog Tryz.f43 T43 = true := by kernel_rfl
def B43 (h_p0 : Value) (w : World) (K : Value → World → Prop) : Prop :=
  efv prog (Instr.box 44 h_p0) w fun h_0 w =>
  lp (fun σ w again_3 => pop σ fun out_1 σ => pop σ fun i_2 σ => fin σ <|
    pvv prog (binOp .lss 3 i_2 (.int .i64 32)) w fun t_4 w =>
    cd t_4 (
      pvv prog (Instr.indexAt 44 h_0 i_2) w fun t_5 w =>
      ldv prog (Instr.loadAt 5 t_5) w fun t_6 w =>
      efv prog (Instr.buildSlice 74 1 #[(0, t_6)]) w fun t_7 w =>
      ef prog (oBi .append #[74, 74] 74 #[false, false] #[out_1, t_7]) w fun t_8 w =>
      pvv prog (binOp .add 3 i_2 (.int .i64 1)) w fun t_9 w =>
      again_3 [t_8, t_9] w) <|
    K out_1 w) [(.slice none 0 0), (.int .i64 0)] w
theorem B43_eq (h_p0 : Value) (w : World) (K : Value → World → Prop) : denFn prog Tryz.f43 T43 [h_p0] w K = B43 h_p0 w K := by kernel_rfl
theorem c43 {h_p0 : Value} {w : World} {K : Value → World → Prop} (h : B43 h_p0 w K) : Calls prog 43 #[h_p0] w (Ret K) :=
  denFn_calls Tryz.func43 T43_ok (Eq.mpr (B43_eq h_p0 w K) h)

-- 52 strconv.ParseUint
def T52 : Ann := (.seq .none (.seq .none (.seq (.seq .none (.seq (.seq .none .none) .none)) (.seq .none .none))))
theorem T52_ok : chkFn prog Tryz.f52 T52 = true := by kernel_rfl
def B52 (s_p0 base_p1 bitSize_p2 : Value) (w : World) (K : Value → World → Prop) : Prop :=
  Calls prog 66 #[s_p0, base_p1, bitSize_p2] w (Ret fun t_0 w =>
  pvv prog (Instr.extract t_0 0) w fun t_1 w =>
  pvv prog (Instr.extract t_0 1) w fun t_2 w =>
  pvv prog (oEq .neq 96 (.tmp 17) (.const .nilIface) t_2 .nilIface) w fun t_3 w =>
  cd t_3 (
    Calls prog 67 #[(.string ⟨#[80, 97, 114, 115, 101, 85, 105, 110, 116]⟩), s_p0, base_p1, bitSize_p2, t_2] w (Ret fun t_4 w =>
    K (.tuple #[t_1, t_4]) w)) <|
  K (.tuple #[t_1, .nilIface]) w)
theorem B52_eq (s_p0 base_p1 bitSize_p2 : Value) (w : World) (K : Value → World → Prop) : denFn prog Tryz.f52 T52 [s_p0, base_p1, bitSize_p2] w K = B52 s_p0 base_p1 bitSize_p2 w K := by kernel_rfl
theorem c52 {s_p0 base_p1 bitSize_p2 : Value} {w : World} {K : Value → World → Prop} (h : B52 s_p0 base_p1 bitSize_p2 w K) : Calls prog 52 #[s_p0, base_p1, bitSize_p2] w (Ret K) :=
  denFn_calls Tryz.func52 T52_ok (Eq.mpr (B52_eq s_p0 base_p1 bitSize_p2 w K) h)

-- 79 strconv.syntaxError
def T79 : Ann := (.seq .none (.seq (.draw [.op 0 .pure, .op 1 .pure, .op 3 .load, .op 2 .eff, .op 4 .pure, .op 5 .eff, .op 6 .pure]) .none))
theorem T79_ok : chkFn prog Tryz.f79 T79 = true := by kernel_rfl
def B79 (fn_p0 str_p1 : Value) (w : World) (K : Value → World → Prop) : Prop :=
  dr w fun w =>
  bindS (vN (Instr.loadAt 96 (.pointer (some ⟨0, 0, none⟩)))) fun m_1 => ldv prog (Instr.loadAt 96 (.pointer (some ⟨0, 0, none⟩))) w fun t_0 w =>
  Calls prog 91 #[str_p1] w (Ret fun t_2 w => stay prog none m_1 t_0 w <| 
  pvv prog (Instr.build 138 #[(0, fn_p0), (1, t_2), (2, t_0)]) w fun t_3 w =>
  efv prog (Instr.box 138 t_3) w fun t_4 w => stay prog none m_1 t_0 w <| 
  K t_4 w)
theorem B79_eq (fn_p0 str_p1 : Value) (w : World) (K : Value → World → Prop) : denFn prog Tryz.f79 T79 [fn_p0, str_p1] w K = B79 fn_p0 str_p1 w K := by kernel_rfl
theorem c79 {fn_p0 str_p1 : Value} {w : World} {K : Value → World → Prop} (h : B79 fn_p0 str_p1 w K) : Calls prog 79 #[fn_p0, str_p1] w (Ret K) :=
  denFn_calls Tryz.func79 T79_ok (Eq.mpr (B79_eq fn_p0 str_p1 w K) h)

-- 31 holdfast/holdfastref07.Chain
def T31 : Ann := (.seq .none (.seq .none (.seq .none .none)))
theorem T31_ok : chkFn prog Tryz.f31 T31 = true := by kernel_rfl
def B31 (h_p0 b_p1 : Value) (w : World) (K : Value → World → Prop) : Prop :=
  efv prog (Instr.box 44 h_p0) w fun h_0 w =>
  efv prog (Instr.alloc 44 true (.tuple #[])) w fun t_1 w =>
  ldv prog (Instr.loadAt 44 h_0) w fun t_2 w =>
  Calls prog 43 #[t_2] w (Ret fun t_3 w =>
  ef prog (oBi .append #[74, 74] 74 #[false, false] #[t_3, b_p1]) w fun t_4 w =>
  Calls prog 44 #[t_4] w (Ret fun t_5 w =>
  efu prog (Instr.storeAt 44 t_1 t_5) w fun u_6 w =>
  ∃ r_7, (do loadVar 44 (← asAddr t_1)).run prog w = .ok r_7 w ∧ K r_7 w))
theorem B31_eq (h_p0 b_p1 : Value) (w : World) (K : Value → World → Prop) : denFn prog Tryz.f31 T31 [h_p0, b_p1] w K = B31 h_p0 b_p1 w K := by kernel_rfl
theorem c31 {h_p0 b_p1 : Value} {w : World} {K : Value → World → Prop} (h : B31 h_p0 b_p1 w K) : Calls prog 31 #[h_p0, b_p1] w (Ret K) :=
  denFn_calls Tryz.func31 T31_ok (Eq.mpr (B31_eq h_p0 b_p1 w K) h)

-- 84 internal/strconv.numDigits
def T84 : Ann := (.seq .none (.seq .none (.seq .none .none)))
theorem T84_ok : chkFn prog Tryz.f84 T84 = true := by kernel_rfl
def B84 (d_p0 : Value) (w : World) (K : Value → World → Prop) : Prop :=
  Calls prog 95 #[d_p0] w (Ret fun t_0 w =>
  Calls prog 94 #[t_0] w (Ret fun t_1 w =>
  pvv prog (Instr.indexAt 142 (.pointer (some ⟨2, 0, none⟩)) t_1) w fun t_2 w =>
  ldv prog (Instr.loadAt 94 t_2) w fun t_3 w =>
  pvv prog (binOp .geq 94 d_p0 t_3) w fun t_4 w =>
  Calls prog 96 #[t_4] w (Ret fun t_5 w =>
  pvv prog (binOp .add 3 t_1 t_5) w fun t_6 w =>
  K t_6 w)))
theorem B84_eq (d_p0 : Value) (w : World) (K : Value → World → Prop) : denFn prog Tryz.f84 T84 [d_p0] w K = B84 d_p0 w K := by kernel_rfl
theorem c84 {d_p0 : Value} {w : World} {K : Value → World → Prop} (h : B84 d_p0 w K) : Calls prog 84 #[d_p0] w (Ret K) :=
  denFn_calls Tryz.func84 T84_ok (Eq.mpr (B84_eq d_p0 w K) h)

-- 98 math/bits.TrailingZeros
def T98 : Ann := (.seq .none (.seq (.seq (.seq .none .none) .none) (.seq .none .none)))
theorem T98_ok : chkFn prog Tryz.f98 T98 = true := by kernel_rfl
def B98 (x_p0 : Value) (w : World) (K : Value → World → Prop) : Prop :=
  cd (.bool false) (
    pvv prog (convert 103 100 x_p0) w fun t_0 w =>
    Calls prog 104 #[t_0] w (Ret fun t_1 w =>
    K t_1 w)) <|
  Calls prog 105 #[x_p0] w (Ret fun t_2 w =>
  K t_2 w)
theorem B98_eq (x_p0 : Value) (w : World) (K : Value → World → Prop) : denFn prog Tryz.f98 T98 [x_p0] w K = B98 x_p0 w K := by kernel_rfl
theorem c98 {x_p0 : Value} {w : World} {K : Value → World → Prop} (h : B98 x_p0 w K) : Calls prog 98 #[x_p0] w (Ret K) :=
  denFn_calls Tryz.func98 T98_ok (Eq.mpr (B98_eq x_p0 w K) h)

-- 97 internal/strconv.isPowerOfTwo
def T97 : Ann := (.seq .none (.seq .none .none))
theorem T97_ok : chkFn prog Tryz.f97 T97 = true := by kernel_rfl
def B97 (x_p0 : Value) (w : World) (K : Value → World → Prop) : Prop :=
  pvv prog (binOp .sub 3 x_p0 (.int .i64 1)) w fun t_0 w =>
  pvv prog (binOp .and 3 x_p0 t_0) w fun t_1 w =>
  pvv prog (oEq .eql 3 (.tmp 6) (.const (.int .i64 0)) t_1 (.int .i64 0)) w fun t_2 w =>
  K t_2 w
theorem B97_eq (x_p0 : Value) (w : World) (K : Value → World → Prop) : denFn prog Tryz.f97 T97 [x_p0] w K = B97 x_p0 w K := by kernel_rfl
theorem c97 {x_p0 : Value} {w : World} {K : Value → World → Prop} (h : B97 x_p0 w K) : Calls prog 97 #[x_p0] w (Ret K) :=
  denFn_calls Tryz.func97 T97_ok (Eq.mpr (B97_eq x_p0 w K) h)

-- 23 holdfast/holdfastref11.Num
def T23 : Ann := (.seq .none (.seq .none (.seq .none .none)))
theorem T23_ok : chkFn prog Tryz.f23 T23 = true := by kernel_rfl
def B23 (n_p0 : Value) (w : World) (K : Value → World → Prop) : Prop :=
  Calls prog 39 #[n_p0] w (Ret fun t_0 w =>
  pvv prog (Instr.extract t_0 0) w fun t_1 w =>
  pvv prog (Instr.extract t_0 1) w fun t_2 w =>
  K t_1 w)
theorem B23_eq (n_p0 : Value) (w : World) (K : Value → World → Prop) : denFn prog Tryz.f23 T23 [n_p0] w K = B23 n_p0 w K := by kernel_rfl
theorem c23 {n_p0 : Value} {w : World} {K : Value → World → Prop} (h : B23 n_p0 w K) : Calls prog 23 #[n_p0] w (Ret K) :=
  denFn_calls Tryz.func23 T23_ok (Eq.mpr (B23_eq n_p0 w K) h)

-- 40 holdfast/holdfastref07.Bytes
def T40 : Ann := (.seq .none (.seq .none .none))
theorem T40_ok : chkFn prog Tryz.f40 T40 = true := by kernel_rfl
def B40 (h_p0 : Value) (w : World) (K : Value → World → Prop) : Prop :=
  efv prog (Instr.box 44 h_p0) w fun h_0 w =>
  ldv prog (Instr.loadAt 44 h_0) w fun t_1 w =>
  Calls prog 43 #[t_1] w (Ret fun t_2 w =>
  K t_2 w)
theorem B40_eq (h_p0 : Value) (w : World) (K : Value → World → Prop) : denFn prog Tryz.f40 T40 [h_p0] w K = B40 h_p0 w K := by kernel_rfl
theorem c40 {h_p0 : Value} {w : World} {K : Value → World → Prop} (h : B40 h_p0 w K) : Calls prog 40 #[h_p0] w (Ret K) :=
  denFn_calls Tryz.func40 T40_ok (Eq.mpr (B40_eq h_p0 w K) h)

-- 50 strings.HasPrefix
def T50 : Ann := (.seq .none (.seq .none .none))
theorem T50_ok : chkFn prog Tryz.f50 T50 = true := by kernel_rfl
def B50 (s_p0 prefix_p1 : Value) (w : World) (K : Value → World → Prop) : Prop :=
  Calls prog 58 #[s_p0, prefix_p1] w (Ret fun t_0 w =>
  K t_0 w)
theorem B50_eq (s_p0 prefix_p1 : Value) (w : World) (K : Value → World → Prop) : denFn prog Tryz.f50 T50 [s_p0, prefix_p1] w K = B50 s_p0 prefix_p1 w K := by kernel_rfl
theorem c50 {s_p0 prefix_p1 : Value} {w : World} {K : Value → World → Prop} (h : B50 s_p0 prefix_p1 w K) : Calls prog 50 #[s_p0, prefix_p1] w (Ret K) :=
  denFn_calls Tryz.func50 T50_ok (Eq.mpr (B50_eq s_p0 prefix_p1 w K) h)

-- 99 strings.IndexByte
def T99 : Ann := (.seq .none (.seq .none .none))
theorem T99_ok : chkFn prog Tryz.f99 T99 = true := by kernel_rfl
def B99 (s_p0 c_p1 : Value) (w : World) (K : Value → World → Prop) : Prop :=
  Calls prog 106 #[s_p0, c_p1] w (Ret fun t_0 w =>
  K t_0 w)
theorem B99_eq (s_p0 c_p1 : Value) (w : World) (K : Value → World → Prop) : denFn prog Tryz.f99 T99 [s_p0, c_p1] w K = B99 s_p0 c_p1 w K := by kernel_rfl
theorem c99 {s_p0 c_p1 : Value} {w : World} {K : Value → World → Prop} (h : B99 s_p0 c_p1 w K) : Calls prog 99 #[s_p0, c_p1] w (Ret K) :=
  denFn_calls Tryz.func99 T99_ok (Eq.mpr (B99_eq s_p0 c_p1 w K) h)

-- 93 strconv.Itoa
def T93 : Ann := (.seq .none (.seq .none .none))
theorem T93_ok : chkFn prog Tryz.f93 T93 = true := by kernel_rfl
def B93 (i_p0 : Value) (w : World) (K : Value → World → Prop) : Prop :=
  Calls prog 103 #[i_p0] w (Ret fun t_0 w =>
  K t_0 w)
theorem B93_eq (i_p0 : Value) (w : World) (K : Value → World → Prop) : denFn prog Tryz.f93 T93 [i_p0] w K = B93 i_p0 w K := by kernel_rfl
theorem c93 {i_p0 : Value} {w : World} {K : Value → World → Prop} (h : B93 i_p0 w K) : Calls prog 93 #[i_p0] w (Ret K) :=
  denFn_calls Tryz.func93 T93_ok (Eq.mpr (B93_eq i_p0 w K) h)


end Go.Proofs.YtjeiojibnmfibaaGreatDoor
