import Derived.Test.YtbcimkjgpplcpaaGreatDoorPI
set_option linter.all false
set_option maxRecDepth 100000
namespace Go.Proofs.YtbcimkjgpplcpaaGreatDoor
open Go Hold
-- 123 internal/strconv.formatBase10
def T123 : Ann := (.seq .none (.seq (.block (.loop 79228162514264337593543430130 [1, 4] (.seq (.seq .none (.seq .none .none)) (.block (.seq .none (.seq .none (.seq .none (.seq .none (.seq .none (.seq (.draw [.op 0 .pure, .op 1 .pure, .op 2 .pure, .op 3 .pure, .op 4 .pure, .op 5 .pure, .op 6 .pure, .op 7 .pure, .op 8 .pure, .op 9 .pure, .op 10 .pure, .op 11 .pure, .op 12 .eff, .op 13 .pure, .op 14 .eff]) (.seq (.draw [.op 0 .pure, .op 1 .pure, .op 2 .pure, .op 3 .pure, .op 4 .pure, .op 5 .pure, .op 6 .pure, .op 7 .pure, .op 8 .pure, .op 9 .pure, .op 10 .pure, .op 11 .pure, .op 12 .eff, .op 13 .pure, .op 14 .eff]) (.seq (.draw [.op 0 .pure, .op 1 .pure, .op 2 .pure, .op 3 .pure, .op 4 .pure, .op 5 .pure, .op 6 .pure, .op 7 .pure, .op 8 .pure, .op 9 .pure, .op 10 .pure, .op 11 .pure, .op 12 .eff, .op 13 .pure, .op 14 .eff]) (.seq (.draw [.op 0 .pure, .op 1 .pure, .op 2 .pure, .op 3 .pure, .op 4 .pure, .op 5 .pure, .op 6 .pure, .op 7 .pure, .op 8 .pure, .op 9 .pure, .op 10 .pure, .op 11 .pure, .op 12 .eff, .op 13 .pure, .op 14 .eff]) .none))))))))))))) (.seq .none (.meet 348449143726724073936438540659756472791056 [4, 12] (.seq .none (.seq (.seq .none (.seq .none (.seq .none (.seq (.draw [.op 0 .pure, .op 1 .pure, .op 2 .pure, .op 3 .pure, .op 4 .pure, .op 5 .pure, .op 6 .pure, .op 7 .pure, .op 8 .pure, .op 9 .pure, .op 10 .pure, .op 11 .pure, .op 12 .eff, .op 13 .pure, .op 14 .eff]) (.seq (.draw [.op 0 .pure, .op 1 .pure, .op 2 .pure, .op 3 .pure, .op 4 .pure, .op 5 .pure, .op 6 .pure, .op 7 .pure, .op 8 .pure, .op 9 .pure, .op 10 .pure, .op 11 .pure, .op 12 .eff, .op 13 .pure, .op 14 .eff]) .none))))) .none)) (.meet 1461501288881759191162698246220685009525284081680 [4, 12] (.seq .none (.seq (.seq .none (.seq .none (.seq (.draw [.op 0 .pure, .op 1 .pure, .op 2 .pure, .op 3 .pure, .op 4 .pure, .op 5 .pure, .op 6 .pure, .op 7 .pure, .op 8 .pure, .op 9 .pure, .op 10 .pure, .op 11 .pure, .op 12 .eff, .op 13 .pure, .op 14 .eff]) .none))) .none)) (.seq .none (.seq .none .none)))))))
theorem T123_ok : chkFn prog Tryz.f123 T123 = true := by kernel_rfl
def B123 (a_p0 u_p1 : Value) (w : World) (K : Value → World → Prop) : Prop :=
  pv prog (oBi .len #[152] 3 #[false] #[a_p0]) w fun t_0 w =>
  lp (fun σ w again_3 => pop σ fun u_1 σ => pop σ fun nd_2 σ => fin σ <|
    pvv prog (binOp .geq 3 nd_2 (.int .i64 8)) w fun t_4 w =>
    cd t_4 (
      pvv prog (binOp .rem 123 u_1 (.int .u64 100000000)) w fun t_5 w =>
      pvv prog (convert 123 121 t_5) w fun t_6 w =>
      pvv prog (binOp .quo 123 u_1 (.int .u64 100000000)) w fun t_7 w =>
      pvv prog (binOp .quo 121 t_6 (.int .u32 10000)) w fun t_8 w =>
      pvv prog (binOp .rem 121 t_6 (.int .u32 10000)) w fun t_9 w =>
      pvv prog (binOp .quo 121 t_9 (.int .u32 100)) w fun t_10 w =>
      pvv prog (binOp .mul 121 t_10 (.int .u32 2)) w fun t_11 w =>
      pvv prog (binOp .rem 121 t_9 (.int .u32 100)) w fun t_12 w =>
      pvv prog (binOp .mul 121 t_12 (.int .u32 2)) w fun t_13 w =>
      pvv prog (binOp .quo 121 t_8 (.int .u32 100)) w fun t_14 w =>
      pvv prog (binOp .mul 121 t_14 (.int .u32 2)) w fun t_15 w =>
      pvv prog (binOp .rem 121 t_8 (.int .u32 100)) w fun t_16 w =>
      pvv prog (binOp .mul 121 t_16 (.int .u32 2)) w fun t_17 w =>
      dr w fun w =>
      pvv prog (binOp .sub 3 nd_2 (.int .i64 1)) w fun t_18 w =>
      pvv prog (binOp .sub 3 nd_2 (.int .i64 2)) w fun t_19 w =>
      pvv prog (binOp .add 121 t_13 (.int .u32 1)) w fun t_20 w =>
      pvv prog (Instr.index 9 (.string ⟨#[48, 48, 48, 49, 48, 50, 48, 51, 48, 52, 48, 53, 48, 54, 48, 55, 48, 56, 48, 57, 49, 48, 49, 49, 49, 50, 49, 51, 49, 52, 49, 53, 49, 54, 49, 55, 49, 56, 49, 57, 50, 48, 50, 49, 50, 50, 50, 51, 50, 52, 50, 53, 50, 54, 50, 55, 50, 56, 50, 57, 51, 48, 51, 49, 51, 50, 51, 51, 51, 52, 51, 53, 51, 54, 51, 55, 51, 56, 51, 57, 52, 48, 52, 49, 52, 50, 52, 51, 52, 52, 52, 53, 52, 54, 52, 55, 52, 56, 52, 57, 53, 48, 53, 49, 53, 50, 53, 51, 53, 52, 53, 53, 53, 54, 53, 55, 53, 56, 53, 57, 54, 48, 54, 49, 54, 50, 54, 51, 54, 52, 54, 53, 54, 54, 54, 55, 54, 56, 54, 57, 55, 48, 55, 49, 55, 50, 55, 51, 55, 52, 55, 53, 55, 54, 55, 55, 55, 56, 55, 57, 56, 48, 56, 49, 56, 50, 56, 51, 56, 52, 56, 53, 56, 54, 56, 55, 56, 56, 56, 57, 57, 48, 57, 49, 57, 50, 57, 51, 57, 52, 57, 53, 57, 54, 57, 55, 57, 56, 57, 57]⟩) t_20) w fun t_21 w =>
      pvv prog (Instr.index 9 (.string ⟨#[48, 48, 48, 49, 48, 50, 48, 51, 48, 52, 48, 53, 48, 54, 48, 55, 48, 56, 48, 57, 49, 48, 49, 49, 49, 50, 49, 51, 49, 52, 49, 53, 49, 54, 49, 55, 49, 56, 49, 57, 50, 48, 50, 49, 50, 50, 50, 51, 50, 52, 50, 53, 50, 54, 50, 55, 50, 56, 50, 57, 51, 48, 51, 49, 51, 50, 51, 51, 51, 52, 51, 53, 51, 54, 51, 55, 51, 56, 51, 57, 52, 48, 52, 49, 52, 50, 52, 51, 52, 52, 52, 53, 52, 54, 52, 55, 52, 56, 52, 57, 53, 48, 53, 49, 53, 50, 53, 51, 53, 52, 53, 53, 53, 54, 53, 55, 53, 56, 53, 57, 54, 48, 54, 49, 54, 50, 54, 51, 54, 52, 54, 53, 54, 54, 54, 55, 54, 56, 54, 57, 55, 48, 55, 49, 55, 50, 55, 51, 55, 52, 55, 53, 55, 54, 55, 55, 55, 56, 55, 57, 56, 48, 56, 49, 56, 50, 56, 51, 56, 52, 56, 53, 56, 54, 56, 55, 56, 56, 56, 57, 57, 48, 57, 49, 57, 50, 57, 51, 57, 52, 57, 53, 57, 54, 57, 55, 57, 56, 57, 57]⟩) t_13) w fun t_22 w =>
      pvv prog (Instr.indexAt 152 a_p0 t_18) w fun t_23 w =>
      efu prog (Instr.storeAt 5 t_23 t_21) w fun u_24 w =>
      pvv prog (Instr.indexAt 152 a_p0 t_19) w fun t_25 w =>
      efu prog (Instr.storeAt 5 t_25 t_22) w fun u_26 w =>
      dr w fun w =>
      pvv prog (binOp .sub 3 nd_2 (.int .i64 3)) w fun t_27 w =>
      pvv prog (binOp .sub 3 nd_2 (.int .i64 4)) w fun t_28 w =>
      pvv prog (binOp .add 121 t_11 (.int .u32 1)) w fun t_29 w =>
      pvv prog (Instr.index 9 (.string ⟨#[48, 48, 48, 49, 48, 50, 48, 51, 48, 52, 48, 53, 48, 54, 48, 55, 48, 56, 48, 57, 49, 48, 49, 49, 49, 50, 49, 51, 49, 52, 49, 53, 49, 54, 49, 55, 49, 56, 49, 57, 50, 48, 50, 49, 50, 50, 50, 51, 50, 52, 50, 53, 50, 54, 50, 55, 50, 56, 50, 57, 51, 48, 51, 49, 51, 50, 51, 51, 51, 52, 51, 53, 51, 54, 51, 55, 51, 56, 51, 57, 52, 48, 52, 49, 52, 50, 52, 51, 52, 52, 52, 53, 52, 54, 52, 55, 52, 56, 52, 57, 53, 48, 53, 49, 53, 50, 53, 51, 53, 52, 53, 53, 53, 54, 53, 55, 53, 56, 53, 57, 54, 48, 54, 49, 54, 50, 54, 51, 54, 52, 54, 53, 54, 54, 54, 55, 54, 56, 54, 57, 55, 48, 55, 49, 55, 50, 55, 51, 55, 52, 55, 53, 55, 54, 55, 55, 55, 56, 55, 57, 56, 48, 56, 49, 56, 50, 56, 51, 56, 52, 56, 53, 56, 54, 56, 55, 56, 56, 56, 57, 57, 48, 57, 49, 57, 50, 57, 51, 57, 52, 57, 53, 57, 54, 57, 55, 57, 56, 57, 57]⟩) t_29) w fun t_30 w =>
      pvv prog (Instr.index 9 (.string ⟨#[48, 48, 48, 49, 48, 50, 48, 51, 48, 52, 48, 53, 48, 54, 48, 55, 48, 56, 48, 57, 49, 48, 49, 49, 49, 50, 49, 51, 49, 52, 49, 53, 49, 54, 49, 55, 49, 56, 49, 57, 50, 48, 50, 49, 50, 50, 50, 51, 50, 52, 50, 53, 50, 54, 50, 55, 50, 56, 50, 57, 51, 48, 51, 49, 51, 50, 51, 51, 51, 52, 51, 53, 51, 54, 51, 55, 51, 56, 51, 57, 52, 48, 52, 49, 52, 50, 52, 51, 52, 52, 52, 53, 52, 54, 52, 55, 52, 56, 52, 57, 53, 48, 53, 49, 53, 50, 53, 51, 53, 52, 53, 53, 53, 54, 53, 55, 53, 56, 53, 57, 54, 48, 54, 49, 54, 50, 54, 51, 54, 52, 54, 53, 54, 54, 54, 55, 54, 56, 54, 57, 55, 48, 55, 49, 55, 50, 55, 51, 55, 52, 55, 53, 55, 54, 55, 55, 55, 56, 55, 57, 56, 48, 56, 49, 56, 50, 56, 51, 56, 52, 56, 53, 56, 54, 56, 55, 56, 56, 56, 57, 57, 48, 57, 49, 57, 50, 57, 51, 57, 52, 57, 53, 57, 54, 57, 55, 57, 56, 57, 57]⟩) t_11) w fun t_31 w =>
      pvv prog (Instr.indexAt 152 a_p0 t_27) w fun t_32 w =>
      efu prog (Instr.storeAt 5 t_32 t_30) w fun u_33 w =>
      pvv prog (Instr.indexAt 152 a_p0 t_28) w fun t_34 w =>
      efu prog (Instr.storeAt 5 t_34 t_31) w fun u_35 w =>
      dr w fun w =>
      pvv prog (binOp .sub 3 nd_2 (.int .i64 5)) w fun t_36 w =>
      pvv prog (binOp .sub 3 nd_2 (.int .i64 6)) w fun t_37 w =>
      pvv prog (binOp .add 121 t_17 (.int .u32 1)) w fun t_38 w =>
      pvv prog (Instr.index 9 (.string ⟨#[48, 48, 48, 49, 48, 50, 48, 51, 48, 52, 48, 53, 48, 54, 48, 55, 48, 56, 48, 57, 49, 48, 49, 49, 49, 50, 49, 51, 49, 52, 49, 53, 49, 54, 49, 55, 49, 56, 49, 57, 50, 48, 50, 49, 50, 50, 50, 51, 50, 52, 50, 53, 50, 54, 50, 55, 50, 56, 50, 57, 51, 48, 51, 49, 51, 50, 51, 51, 51, 52, 51, 53, 51, 54, 51, 55, 51, 56, 51, 57, 52, 48, 52, 49, 52, 50, 52, 51, 52, 52, 52, 53, 52, 54, 52, 55, 52, 56, 52, 57, 53, 48, 53, 49, 53, 50, 53, 51, 53, 52, 53, 53, 53, 54, 53, 55, 53, 56, 53, 57, 54, 48, 54, 49, 54, 50, 54, 51, 54, 52, 54, 53, 54, 54, 54, 55, 54, 56, 54, 57, 55, 48, 55, 49, 55, 50, 55, 51, 55, 52, 55, 53, 55, 54, 55, 55, 55, 56, 55, 57, 56, 48, 56, 49, 56, 50, 56, 51, 56, 52, 56, 53, 56, 54, 56, 55, 56, 56, 56, 57, 57, 48, 57, 49, 57, 50, 57, 51, 57, 52, 57, 53, 57, 54, 57, 55, 57, 56, 57, 57]⟩) t_38) w fun t_39 w =>
      pvv prog (Instr.index 9 (.string ⟨#[48, 48, 48, 49, 48, 50, 48, 51, 48, 52, 48, 53, 48, 54, 48, 55, 48, 56, 48, 57, 49, 48, 49, 49, 49, 50, 49, 51, 49, 52, 49, 53, 49, 54, 49, 55, 49, 56, 49, 57, 50, 48, 50, 49, 50, 50, 50, 51, 50, 52, 50, 53, 50, 54, 50, 55, 50, 56, 50, 57, 51, 48, 51, 49, 51, 50, 51, 51, 51, 52, 51, 53, 51, 54, 51, 55, 51, 56, 51, 57, 52, 48, 52, 49, 52, 50, 52, 51, 52, 52, 52, 53, 52, 54, 52, 55, 52, 56, 52, 57, 53, 48, 53, 49, 53, 50, 53, 51, 53, 52, 53, 53, 53, 54, 53, 55, 53, 56, 53, 57, 54, 48, 54, 49, 54, 50, 54, 51, 54, 52, 54, 53, 54, 54, 54, 55, 54, 56, 54, 57, 55, 48, 55, 49, 55, 50, 55, 51, 55, 52, 55, 53, 55, 54, 55, 55, 55, 56, 55, 57, 56, 48, 56, 49, 56, 50, 56, 51, 56, 52, 56, 53, 56, 54, 56, 55, 56, 56, 56, 57, 57, 48, 57, 49, 57, 50, 57, 51, 57, 52, 57, 53, 57, 54, 57, 55, 57, 56, 57, 57]⟩) t_17) w fun t_40 w =>
      pvv prog (Instr.indexAt 152 a_p0 t_36) w fun t_41 w =>
      efu prog (Instr.storeAt 5 t_41 t_39) w fun u_42 w =>
      pvv prog (Instr.indexAt 152 a_p0 t_37) w fun t_43 w =>
      efu prog (Instr.storeAt 5 t_43 t_40) w fun u_44 w =>
      dr w fun w =>
      pvv prog (binOp .sub 3 nd_2 (.int .i64 7)) w fun t_45 w =>
      pvv prog (binOp .sub 3 nd_2 (.int .i64 8)) w fun t_46 w =>
      pvv prog (binOp .add 121 t_15 (.int .u32 1)) w fun t_47 w =>
      pvv prog (Instr.index 9 (.string ⟨#[48, 48, 48, 49, 48, 50, 48, 51, 48, 52, 48, 53, 48, 54, 48, 55, 48, 56, 48, 57, 49, 48, 49, 49, 49, 50, 49, 51, 49, 52, 49, 53, 49, 54, 49, 55, 49, 56, 49, 57, 50, 48, 50, 49, 50, 50, 50, 51, 50, 52, 50, 53, 50, 54, 50, 55, 50, 56, 50, 57, 51, 48, 51, 49, 51, 50, 51, 51, 51, 52, 51, 53, 51, 54, 51, 55, 51, 56, 51, 57, 52, 48, 52, 49, 52, 50, 52, 51, 52, 52, 52, 53, 52, 54, 52, 55, 52, 56, 52, 57, 53, 48, 53, 49, 53, 50, 53, 51, 53, 52, 53, 53, 53, 54, 53, 55, 53, 56, 53, 57, 54, 48, 54, 49, 54, 50, 54, 51, 54, 52, 54, 53, 54, 54, 54, 55, 54, 56, 54, 57, 55, 48, 55, 49, 55, 50, 55, 51, 55, 52, 55, 53, 55, 54, 55, 55, 55, 56, 55, 57, 56, 48, 56, 49, 56, 50, 56, 51, 56, 52, 56, 53, 56, 54, 56, 55, 56, 56, 56, 57, 57, 48, 57, 49, 57, 50, 57, 51, 57, 52, 57, 53, 57, 54, 57, 55, 57, 56, 57, 57]⟩) t_47) w fun t_48 w =>
      pvv prog (Instr.index 9 (.string ⟨#[48, 48, 48, 49, 48, 50, 48, 51, 48, 52, 48, 53, 48, 54, 48, 55, 48, 56, 48, 57, 49, 48, 49, 49, 49, 50, 49, 51, 49, 52, 49, 53, 49, 54, 49, 55, 49, 56, 49, 57, 50, 48, 50, 49, 50, 50, 50, 51, 50, 52, 50, 53, 50, 54, 50, 55, 50, 56, 50, 57, 51, 48, 51, 49, 51, 50, 51, 51, 51, 52, 51, 53, 51, 54, 51, 55, 51, 56, 51, 57, 52, 48, 52, 49, 52, 50, 52, 51, 52, 52, 52, 53, 52, 54, 52, 55, 52, 56, 52, 57, 53, 48, 53, 49, 53, 50, 53, 51, 53, 52, 53, 53, 53, 54, 53, 55, 53, 56, 53, 57, 54, 48, 54, 49, 54, 50, 54, 51, 54, 52, 54, 53, 54, 54, 54, 55, 54, 56, 54, 57, 55, 48, 55, 49, 55, 50, 55, 51, 55, 52, 55, 53, 55, 54, 55, 55, 55, 56, 55, 57, 56, 48, 56, 49, 56, 50, 56, 51, 56, 52, 56, 53, 56, 54, 56, 55, 56, 56, 56, 57, 57, 48, 57, 49, 57, 50, 57, 51, 57, 52, 57, 53, 57, 54, 57, 55, 57, 56, 57, 57]⟩) t_15) w fun t_49 w =>
      pvv prog (Instr.indexAt 152 a_p0 t_45) w fun t_50 w =>
      efu prog (Instr.storeAt 5 t_50 t_48) w fun u_51 w =>
      pvv prog (Instr.indexAt 152 a_p0 t_46) w fun t_52 w =>
      efu prog (Instr.storeAt 5 t_52 t_49) w fun u_53 w =>
      pvv prog (binOp .sub 3 nd_2 (.int .i64 8)) w fun t_54 w =>
      again_3 [t_7, t_54] w) <|
    pvv prog (convert 123 121 u_1) w fun t_63 w =>
    jn (fun σ w => pop σ fun nd_64 σ => pop σ fun x_65 σ => fin σ <|
      jn (fun σ w => pop σ fun nd_66 σ => pop σ fun x_67 σ => fin σ <|
        pvv prog (binOp .gtr 3 nd_66 (.int .i64 0)) w fun t_68 w =>
        cd t_68 (
          pvv prog (binOp .add 121 (.int .u32 48) x_67) w fun t_69 w =>
          pvv prog (convert 121 5 t_69) w fun t_70 w =>
          pvv prog (Instr.indexAt 152 a_p0 (.int .i64 0)) w fun t_71 w =>
          efu prog (Instr.storeAt 5 t_71 t_70) w fun u_72 w =>
          K (.tuple #[]) w) <|
        K (.tuple #[]) w) fun k_73 =>
      pvv prog (binOp .geq 3 nd_64 (.int .i64 2)) w fun t_74 w =>
      cd t_74 (
        pvv prog (binOp .rem 121 x_65 (.int .u32 100)) w fun t_75 w =>
        pvv prog (binOp .mul 121 t_75 (.int .u32 2)) w fun t_76 w =>
        pvv prog (binOp .quo 121 x_65 (.int .u32 100)) w fun t_77 w =>
        dr w fun w =>
        pvv prog (binOp .sub 3 nd_64 (.int .i64 1)) w fun t_78 w =>
        pvv prog (binOp .sub 3 nd_64 (.int .i64 2)) w fun t_79 w =>
        pvv prog (binOp .add 121 t_76 (.int .u32 1)) w fun t_80 w =>
        pvv prog (Instr.index 9 (.string ⟨#[48, 48, 48, 49, 48, 50, 48, 51, 48, 52, 48, 53, 48, 54, 48, 55, 48, 56, 48, 57, 49, 48, 49, 49, 49, 50, 49, 51, 49, 52, 49, 53, 49, 54, 49, 55, 49, 56, 49, 57, 50, 48, 50, 49, 50, 50, 50, 51, 50, 52, 50, 53, 50, 54, 50, 55, 50, 56, 50, 57, 51, 48, 51, 49, 51, 50, 51, 51, 51, 52, 51, 53, 51, 54, 51, 55, 51, 56, 51, 57, 52, 48, 52, 49, 52, 50, 52, 51, 52, 52, 52, 53, 52, 54, 52, 55, 52, 56, 52, 57, 53, 48, 53, 49, 53, 50, 53, 51, 53, 52, 53, 53, 53, 54, 53, 55, 53, 56, 53, 57, 54, 48, 54, 49, 54, 50, 54, 51, 54, 52, 54, 53, 54, 54, 54, 55, 54, 56, 54, 57, 55, 48, 55, 49, 55, 50, 55, 51, 55, 52, 55, 53, 55, 54, 55, 55, 55, 56, 55, 57, 56, 48, 56, 49, 56, 50, 56, 51, 56, 52, 56, 53, 56, 54, 56, 55, 56, 56, 56, 57, 57, 48, 57, 49, 57, 50, 57, 51, 57, 52, 57, 53, 57, 54, 57, 55, 57, 56, 57, 57]⟩) t_80) w fun t_81 w =>
        pvv prog (Instr.index 9 (.string ⟨#[48, 48, 48, 49, 48, 50, 48, 51, 48, 52, 48, 53, 48, 54, 48, 55, 48, 56, 48, 57, 49, 48, 49, 49, 49, 50, 49, 51, 49, 52, 49, 53, 49, 54, 49, 55, 49, 56, 49, 57, 50, 48, 50, 49, 50, 50, 50, 51, 50, 52, 50, 53, 50, 54, 50, 55, 50, 56, 50, 57, 51, 48, 51, 49, 51, 50, 51, 51, 51, 52, 51, 53, 51, 54, 51, 55, 51, 56, 51, 57, 52, 48, 52, 49, 52, 50, 52, 51, 52, 52, 52, 53, 52, 54, 52, 55, 52, 56, 52, 57, 53, 48, 53, 49, 53, 50, 53, 51, 53, 52, 53, 53, 53, 54, 53, 55, 53, 56, 53, 57, 54, 48, 54, 49, 54, 50, 54, 51, 54, 52, 54, 53, 54, 54, 54, 55, 54, 56, 54, 57, 55, 48, 55, 49, 55, 50, 55, 51, 55, 52, 55, 53, 55, 54, 55, 55, 55, 56, 55, 57, 56, 48, 56, 49, 56, 50, 56, 51, 56, 52, 56, 53, 56, 54, 56, 55, 56, 56, 56, 57, 57, 48, 57, 49, 57, 50, 57, 51, 57, 52, 57, 53, 57, 54, 57, 55, 57, 56, 57, 57]⟩) t_76) w fun t_82 w =>
        pvv prog (Instr.indexAt 152 a_p0 t_78) w fun t_83 w =>
        efu prog (Instr.storeAt 5 t_83 t_81) w fun u_84 w =>
        pvv prog (Instr.indexAt 152 a_p0 t_79) w fun t_85 w =>
        efu prog (Instr.storeAt 5 t_85 t_82) w fun u_86 w =>
        pvv prog (binOp .sub 3 nd_64 (.int .i64 2)) w fun t_87 w =>
        k_73 [t_87, t_77] w) <|
      k_73 [nd_64, x_65] w) fun k_90 =>
    pvv prog (binOp .geq 3 nd_2 (.int .i64 4)) w fun t_91 w =>
    cd t_91 (
      pvv prog (binOp .rem 121 t_63 (.int .u32 10000)) w fun t_92 w =>
      pvv prog (binOp .quo 121 t_63 (.int .u32 10000)) w fun t_93 w =>
      pvv prog (binOp .quo 121 t_92 (.int .u32 100)) w fun t_94 w =>
      pvv prog (binOp .mul 121 t_94 (.int .u32 2)) w fun t_95 w =>
      pvv prog (binOp .rem 121 t_92 (.int .u32 100)) w fun t_96 w =>
      pvv prog (binOp .mul 121 t_96 (.int .u32 2)) w fun t_97 w =>
      dr w fun w =>
      pvv prog (binOp .sub 3 nd_2 (.int .i64 1)) w fun t_98 w =>
      pvv prog (binOp .sub 3 nd_2 (.int .i64 2)) w fun t_99 w =>
      pvv prog (binOp .add 121 t_97 (.int .u32 1)) w fun t_100 w =>
      pvv prog (Instr.index 9 (.string ⟨#[48, 48, 48, 49, 48, 50, 48, 51, 48, 52, 48, 53, 48, 54, 48, 55, 48, 56, 48, 57, 49, 48, 49, 49, 49, 50, 49, 51, 49, 52, 49, 53, 49, 54, 49, 55, 49, 56, 49, 57, 50, 48, 50, 49, 50, 50, 50, 51, 50, 52, 50, 53, 50, 54, 50, 55, 50, 56, 50, 57, 51, 48, 51, 49, 51, 50, 51, 51, 51, 52, 51, 53, 51, 54, 51, 55, 51, 56, 51, 57, 52, 48, 52, 49, 52, 50, 52, 51, 52, 52, 52, 53, 52, 54, 52, 55, 52, 56, 52, 57, 53, 48, 53, 49, 53, 50, 53, 51, 53, 52, 53, 53, 53, 54, 53, 55, 53, 56, 53, 57, 54, 48, 54, 49, 54, 50, 54, 51, 54, 52, 54, 53, 54, 54, 54, 55, 54, 56, 54, 57, 55, 48, 55, 49, 55, 50, 55, 51, 55, 52, 55, 53, 55, 54, 55, 55, 55, 56, 55, 57, 56, 48, 56, 49, 56, 50, 56, 51, 56, 52, 56, 53, 56, 54, 56, 55, 56, 56, 56, 57, 57, 48, 57, 49, 57, 50, 57, 51, 57, 52, 57, 53, 57, 54, 57, 55, 57, 56, 57, 57]⟩) t_100) w fun t_101 w =>
      pvv prog (Instr.index 9 (.string ⟨#[48, 48, 48, 49, 48, 50, 48, 51, 48, 52, 48, 53, 48, 54, 48, 55, 48, 56, 48, 57, 49, 48, 49, 49, 49, 50, 49, 51, 49, 52, 49, 53, 49, 54, 49, 55, 49, 56, 49, 57, 50, 48, 50, 49, 50, 50, 50, 51, 50, 52, 50, 53, 50, 54, 50, 55, 50, 56, 50, 57, 51, 48, 51, 49, 51, 50, 51, 51, 51, 52, 51, 53, 51, 54, 51, 55, 51, 56, 51, 57, 52, 48, 52, 49, 52, 50, 52, 51, 52, 52, 52, 53, 52, 54, 52, 55, 52, 56, 52, 57, 53, 48, 53, 49, 53, 50, 53, 51, 53, 52, 53, 53, 53, 54, 53, 55, 53, 56, 53, 57, 54, 48, 54, 49, 54, 50, 54, 51, 54, 52, 54, 53, 54, 54, 54, 55, 54, 56, 54, 57, 55, 48, 55, 49, 55, 50, 55, 51, 55, 52, 55, 53, 55, 54, 55, 55, 55, 56, 55, 57, 56, 48, 56, 49, 56, 50, 56, 51, 56, 52, 56, 53, 56, 54, 56, 55, 56, 56, 56, 57, 57, 48, 57, 49, 57, 50, 57, 51, 57, 52, 57, 53, 57, 54, 57, 55, 57, 56, 57, 57]⟩) t_97) w fun t_102 w =>
      pvv prog (Instr.indexAt 152 a_p0 t_98) w fun t_103 w =>
      efu prog (Instr.storeAt 5 t_103 t_101) w fun u_104 w =>
      pvv prog (Instr.indexAt 152 a_p0 t_99) w fun t_105 w =>
      efu prog (Instr.storeAt 5 t_105 t_102) w fun u_106 w =>
      dr w fun w =>
      pvv prog (binOp .sub 3 nd_2 (.int .i64 3)) w fun t_107 w =>
      pvv prog (binOp .sub 3 nd_2 (.int .i64 4)) w fun t_108 w =>
      pvv prog (binOp .add 121 t_95 (.int .u32 1)) w fun t_109 w =>
      pvv prog (Instr.index 9 (.string ⟨#[48, 48, 48, 49, 48, 50, 48, 51, 48, 52, 48, 53, 48, 54, 48, 55, 48, 56, 48, 57, 49, 48, 49, 49, 49, 50, 49, 51, 49, 52, 49, 53, 49, 54, 49, 55, 49, 56, 49, 57, 50, 48, 50, 49, 50, 50, 50, 51, 50, 52, 50, 53, 50, 54, 50, 55, 50, 56, 50, 57, 51, 48, 51, 49, 51, 50, 51, 51, 51, 52, 51, 53, 51, 54, 51, 55, 51, 56, 51, 57, 52, 48, 52, 49, 52, 50, 52, 51, 52, 52, 52, 53, 52, 54, 52, 55, 52, 56, 52, 57, 53, 48, 53, 49, 53, 50, 53, 51, 53, 52, 53, 53, 53, 54, 53, 55, 53, 56, 53, 57, 54, 48, 54, 49, 54, 50, 54, 51, 54, 52, 54, 53, 54, 54, 54, 55, 54, 56, 54, 57, 55, 48, 55, 49, 55, 50, 55, 51, 55, 52, 55, 53, 55, 54, 55, 55, 55, 56, 55, 57, 56, 48, 56, 49, 56, 50, 56, 51, 56, 52, 56, 53, 56, 54, 56, 55, 56, 56, 56, 57, 57, 48, 57, 49, 57, 50, 57, 51, 57, 52, 57, 53, 57, 54, 57, 55, 57, 56, 57, 57]⟩) t_109) w fun t_110 w =>
      pvv prog (Instr.index 9 (.string ⟨#[48, 48, 48, 49, 48, 50, 48, 51, 48, 52, 48, 53, 48, 54, 48, 55, 48, 56, 48, 57, 49, 48, 49, 49, 49, 50, 49, 51, 49, 52, 49, 53, 49, 54, 49, 55, 49, 56, 49, 57, 50, 48, 50, 49, 50, 50, 50, 51, 50, 52, 50, 53, 50, 54, 50, 55, 50, 56, 50, 57, 51, 48, 51, 49, 51, 50, 51, 51, 51, 52, 51, 53, 51, 54, 51, 55, 51, 56, 51, 57, 52, 48, 52, 49, 52, 50, 52, 51, 52, 52, 52, 53, 52, 54, 52, 55, 52, 56, 52, 57, 53, 48, 53, 49, 53, 50, 53, 51, 53, 52, 53, 53, 53, 54, 53, 55, 53, 56, 53, 57, 54, 48, 54, 49, 54, 50, 54, 51, 54, 52, 54, 53, 54, 54, 54, 55, 54, 56, 54, 57, 55, 48, 55, 49, 55, 50, 55, 51, 55, 52, 55, 53, 55, 54, 55, 55, 55, 56, 55, 57, 56, 48, 56, 49, 56, 50, 56, 51, 56, 52, 56, 53, 56, 54, 56, 55, 56, 56, 56, 57, 57, 48, 57, 49, 57, 50, 57, 51, 57, 52, 57, 53, 57, 54, 57, 55, 57, 56, 57, 57]⟩) t_95) w fun t_111 w =>
      pvv prog (Instr.indexAt 152 a_p0 t_107) w fun t_112 w =>
      efu prog (Instr.storeAt 5 t_112 t_110) w fun u_113 w =>
      pvv prog (Instr.indexAt 152 a_p0 t_108) w fun t_114 w =>
      efu prog (Instr.storeAt 5 t_114 t_111) w fun u_115 w =>
      pvv prog (binOp .sub 3 nd_2 (.int .i64 4)) w fun t_116 w =>
      k_90 [t_116, t_93] w) <|
    k_90 [nd_2, t_63] w) [u_p1, t_0] w
theorem B123_eq (a_p0 u_p1 : Value) (w : World) (K : Value → World → Prop) : denFn prog Tryz.f123 T123 [a_p0, u_p1] w K = B123 a_p0 u_p1 w K := by kernel_rfl
theorem c123 {a_p0 u_p1 : Value} {w : World} {K : Value → World → Prop} (h : B123 a_p0 u_p1 w K) : Calls prog 123 #[a_p0, u_p1] w (Ret K) :=
  denFn_calls Tryz.func123 T123_ok (Eq.mpr (B123_eq a_p0 u_p1 w K) h)

-- 101 internal/strconv.FormatInt
def T101 : Ann := (.seq .none (.seq (.seq .none (.seq (.seq (.seq .none (.seq (.seq .none .none) .none)) (.seq .none (.seq .none (.meet 62914624 [6] (.seq .none (.seq .none .none)) (.seq .none (.seq .none (.seq (.seq .none (.seq (.seq .none (.seq .none .none)) .none)) (.seq .none .none)))))))) .none)) (.seq .none (.seq .none .none))))
theorem T101_ok : chkFn prog Tryz.f101 T101 = true := by kernel_rfl
def B101 (i_p0 base_p1 : Value) (w : World) (K : Value → World → Prop) : Prop :=
  pvv prog (oEq .eql 3 (.tmp 10) (.const (.int .i64 10)) base_p1 (.int .i64 10)) w fun t_0 w =>
  cd t_0 (
    pvv prog (binOp .leq 2 (.int .i64 0) i_p0) w fun t_1 w =>
    gate (some (t_1, true)) (fun K => K i_p0 w) w fun t_2 w =>
    gate (some (t_1, true)) (fun K => pvv prog (binOp .lss 2 t_2 (.int .i64 100)) w K) w fun t_3 w =>
    pv prog (oPick t_1 t_3 (.bool false)) w fun t_4 w =>
    cd t_4 (
      Calls prog 121 #[i_p0] w (Ret fun t_5 w =>
      K t_5 w)) <|
    efv prog (Instr.alloc 150 true (.tuple #[])) w fun a_6 w =>
    pvv prog (convert 2 123 i_p0) w fun t_7 w =>
    jn (fun σ w => pop σ fun u_8 σ => fin σ <|
      Calls prog 122 #[u_8] w (Ret fun t_9 w =>
      pvv prog (binOp .add 3 (.int .i64 1) t_9) w fun t_10 w =>
      pvv prog (Instr.sliceAt 150 a_6 (some (.int .i64 1)) (some t_10) none) w fun t_11 w =>
      Calls prog 123 #[t_11, u_8] w (Ret fun t_12 w =>
      pvv prog (binOp .lss 2 i_p0 (.int .i64 0)) w fun t_13 w =>
      cd t_13 (
        pvv prog (Instr.indexAt 150 a_6 (.int .i64 0)) w fun t_14 w =>
        efu prog (Instr.storeAt 5 t_14 (.int .u8 45)) w fun u_15 w =>
        pvv prog (binOp .add 3 (.int .i64 1) t_9) w fun t_16 w =>
        pvv prog (Instr.sliceAt 150 a_6 none (some t_16) none) w fun t_17 w =>
        efv prog (convert 152 9 t_17) w fun t_18 w =>
        K t_18 w) <|
      pvv prog (binOp .add 3 (.int .i64 1) t_9) w fun t_19 w =>
      pvv prog (Instr.sliceAt 150 a_6 (some (.int .i64 1)) (some t_19) none) w fun t_20 w =>
      efv prog (convert 152 9 t_20) w fun t_21 w =>
      K t_21 w))) fun k_22 =>
    pvv prog (binOp .lss 2 i_p0 (.int .i64 0)) w fun t_23 w =>
    cd t_23 (
      pvv prog (Op.unary .neg t_7) w fun t_24 w =>
      k_22 [t_24] w) <|
    k_22 [t_7] w) <|
  pvv prog (convert 2 123 i_p0) w fun t_25 w =>
  pvv prog (binOp .lss 2 i_p0 (.int .i64 0)) w fun t_26 w =>
  Calls prog 124 #[(.slice none 0 0), t_25, base_p1, t_26, (.bool false)] w (Ret fun t_27 w =>
  pvv prog (Instr.extract t_27 0) w fun t_28 w =>
  pvv prog (Instr.extract t_27 1) w fun t_29 w =>
  K t_29 w)
theorem B101_eq (i_p0 base_p1 : Value) (w : World) (K : Value → World → Prop) : denFn prog Tryz.f101 T101 [i_p0, base_p1] w K = B101 i_p0 base_p1 w K := by kernel_rfl
theorem c101 {i_p0 base_p1 : Value} {w : World} {K : Value → World → Prop} (h : B101 i_p0 base_p1 w K) : Calls prog 101 #[i_p0, base_p1] w (Ret K) :=
  denFn_calls Tryz.func101 T101_ok (Eq.mpr (B101_eq i_p0 base_p1 w K) h)

-- 90 math/bits.Len64
def T90 : Ann := (.seq .none (.meet 125 [0, 2] (.seq .none (.seq (.seq .none .none) .none)) (.meet 8069 [0, 2] (.seq .none (.seq (.seq .none .none) .none)) (.meet 516101 [0, 2] (.seq .none (.seq (.seq .none .none) .none)) (.seq .none .none)))))
theorem T90_ok : chkFn prog Tryz.f90 T90 = true := by kernel_rfl
def B90 (x_p0 : Value) (w : World) (K : Value → World → Prop) : Prop :=
  jn (fun σ w => pop σ fun x_0 σ => pop σ fun n_1 σ => fin σ <|
    jn (fun σ w => pop σ fun x_2 σ => pop σ fun n_3 σ => fin σ <|
      jn (fun σ w => pop σ fun x_4 σ => pop σ fun n_5 σ => fin σ <|
        pvv prog (convert 123 5 x_4) w fun t_6 w =>
        pvv prog (Instr.index 9 (.string ⟨#[0, 1, 2, 2, 3, 3, 3, 3, 4, 4, 4, 4, 4, 4, 4, 4, 5, 5, 5, 5, 5, 5, 5, 5, 5, 5, 5, 5, 5, 5, 5, 5, 6, 6, 6, 6, 6, 6, 6, 6, 6, 6, 6, 6, 6, 6, 6, 6, 6, 6, 6, 6, 6, 6, 6, 6, 6, 6, 6, 6, 6, 6, 6, 6, 7, 7, 7, 7, 7, 7, 7, 7, 7, 7, 7, 7, 7, 7, 7, 7, 7, 7, 7, 7, 7, 7, 7, 7, 7, 7, 7, 7, 7, 7, 7, 7, 7, 7, 7, 7, 7, 7, 7, 7, 7, 7, 7, 7, 7, 7, 7, 7, 7, 7, 7, 7, 7, 7, 7, 7, 7, 7, 7, 7, 7, 7, 7, 7, 8, 8, 8, 8, 8, 8, 8, 8, 8, 8, 8, 8, 8, 8, 8, 8, 8, 8, 8, 8, 8, 8, 8, 8, 8, 8, 8, 8, 8, 8, 8, 8, 8, 8, 8, 8, 8, 8, 8, 8, 8, 8, 8, 8, 8, 8, 8, 8, 8, 8, 8, 8, 8, 8, 8, 8, 8, 8, 8, 8, 8, 8, 8, 8, 8, 8, 8, 8, 8, 8, 8, 8, 8, 8, 8, 8, 8, 8, 8, 8, 8, 8, 8, 8, 8, 8, 8, 8, 8, 8, 8, 8, 8, 8, 8, 8, 8, 8, 8, 8, 8, 8, 8, 8, 8, 8, 8, 8, 8, 8, 8, 8, 8, 8, 8, 8, 8, 8, 8, 8, 8, 8, 8, 8, 8, 8, 8, 8]⟩) t_6) w fun t_7 w =>
        pvv prog (convert 5 3 t_7) w fun t_8 w =>
        pvv prog (binOp .add 3 n_5 t_8) w fun t_9 w =>
        K t_9 w) fun k_10 =>
      pvv prog (binOp .geq 123 x_2 (.int .u64 256)) w fun t_11 w =>
      cd t_11 (
        pvv prog (binOp .shr 123 x_2 (.int .u64 8)) w fun t_12 w =>
        pvv prog (binOp .add 3 n_3 (.int .i64 8)) w fun t_13 w =>
        k_10 [t_12, t_13] w) <|
      k_10 [x_2, n_3] w) fun k_14 =>
    pvv prog (binOp .geq 123 x_0 (.int .u64 65536)) w fun t_15 w =>
    cd t_15 (
      pvv prog (binOp .shr 123 x_0 (.int .u64 16)) w fun t_16 w =>
      pvv prog (binOp .add 3 n_1 (.int .i64 16)) w fun t_17 w =>
      k_14 [t_16, t_17] w) <|
    k_14 [x_0, n_1] w) fun k_18 =>
  pvv prog (binOp .geq 123 x_p0 (.int .u64 4294967296)) w fun t_19 w =>
  cd t_19 (
    pvv prog (binOp .shr 123 x_p0 (.int .u64 32)) w fun t_20 w =>
    k_18 [t_20, (.int .i64 32)] w) <|
  k_18 [x_p0, (.int .i64 0)] w
theorem B90_eq (x_p0 : Value) (w : World) (K : Value → World → Prop) : denFn prog Tryz.f90 T90 [x_p0] w K = B90 x_p0 w K := by kernel_rfl
theorem c90 {x_p0 : Value} {w : World} {K : Value → World → Prop} (h : B90 x_p0 w K) : Calls prog 90 #[x_p0] w (Ret K) :=
  denFn_calls Tryz.func90 T90_ok (Eq.mpr (B90_eq x_p0 w K) h)

-- 19 (*holdfast/token.Store).Access
def T19 : Ann := (.seq .none (.seq (.seq .none (.seq .none (.seq (.seq .none .none) .none))) (.seq .none (.seq (.seq .none (.seq (.seq .none .none) .none)) (.seq .none .none)))))
theorem T19_ok : chkFn prog Tryz.f19 T19 = true := by kernel_rfl
def B19 (s_p0 id_p1 now_p2 : Value) (w : World) (K : Value → World → Prop) : Prop :=
  efv prog (Instr.alloc 49 true (.tuple #[])) w fun t_0 w =>
  Calls prog 47 #[s_p0, now_p2] w (Ret fun t_1 w =>
  pvv prog (oEq .neq 36 (.tmp 14) (.const (.int .i64 0)) t_1 (.int .i64 0)) w fun t_2 w =>
  cd t_2 (
    pvv prog (Instr.build 49 #[]) w fun t_3 w =>
    efu prog (Instr.storeAt 49 t_0 t_3) w fun u_4 w =>
    ∃ r_5, (do loadVar 49 (← asAddr t_0)).run prog w = .ok r_5 w ∧ K (.tuple #[r_5, t_1]) w) <|
  pv prog (oNil s_p0) w fun t_6 w =>
  pvv prog (Instr.fieldAt 67 t_6 1) w fun t_7 w =>
  ldv prog (Instr.loadAt 65 t_7) w fun t_8 w =>
  Calls prog 53 #[t_8, id_p1] w (Ret fun t_9 w =>
  pvv prog (Instr.extract t_9 0) w fun t_10 w =>
  pvv prog (Instr.extract t_9 1) w fun t_11 w =>
  efv prog (Instr.alloc 49 true (.tuple #[])) w fun t_12 w =>
  efu prog (Instr.storeAt 49 t_12 t_10) w fun u_13 w =>
  pvv prog (oEq .eql 36 (.tmp 27) (.const (.int .i64 0)) t_11 (.int .i64 0)) w fun t_14 w =>
  gate (some (t_14, true)) (fun K => K now_p2 w) w fun t_15 w =>
  gate (some (t_14, true)) (fun K => pvv prog (Instr.fieldAt 49 t_12 3) w K) w fun t_16 w =>
  gate (some (t_14, true)) (fun K => ldv prog (Instr.loadAt 3 t_16) w K) w fun t_17 w =>
  gate (some (t_14, true)) (fun K => pvv prog (binOp .geq 3 t_15 t_17) w K) w fun t_18 w =>
  pv prog (oPick t_14 t_18 (.bool false)) w fun t_19 w =>
  cd t_19 (
    pvv prog (Instr.build 49 #[]) w fun t_20 w =>
    efu prog (Instr.storeAt 49 t_0 t_20) w fun u_21 w =>
    ∃ r_22, (do loadVar 49 (← asAddr t_0)).run prog w = .ok r_22 w ∧ K (.tuple #[r_22, (.int .i64 12)]) w) <|
  ldv prog (Instr.loadAt 49 t_12) w fun t_23 w =>
  efu prog (Instr.storeAt 49 t_0 t_23) w fun u_24 w =>
  ∃ r_25, (do loadVar 49 (← asAddr t_0)).run prog w = .ok r_25 w ∧ K (.tuple #[r_25, t_11]) w))
theorem B19_eq (s_p0 id_p1 now_p2 : Value) (w : World) (K : Value → World → Prop) : denFn prog Tryz.f19 T19 [s_p0, id_p1, now_p2] w K = B19 s_p0 id_p1 now_p2 w K := by kernel_rfl
theorem c19 {s_p0 id_p1 now_p2 : Value} {w : World} {K : Value → World → Prop} (h : B19 s_p0 id_p1 now_p2 w K) : Calls prog 19 #[s_p0, id_p1, now_p2] w (Ret K) :=
  denFn_calls Tryz.func19 T19_ok (Eq.mpr (B19_eq s_p0 id_p1 now_p2 w K) h)

-- 89 math/bits.Len32
def T89 : Ann := (.seq .none (.meet 125 [0, 2] (.seq .none (.seq (.seq .none .none) .none)) (.meet 8069 [0, 2] (.seq .none (.seq (.seq .none .none) .none)) (.seq .none .none))))
theorem T89_ok : chkFn prog Tryz.f89 T89 = true := by kernel_rfl
def B89 (x_p0 : Value) (w : World) (K : Value → World → Prop) : Prop :=
  jn (fun σ w => pop σ fun x_0 σ => pop σ fun n_1 σ => fin σ <|
    jn (fun σ w => pop σ fun x_2 σ => pop σ fun n_3 σ => fin σ <|
      pvv prog (convert 121 5 x_2) w fun t_4 w =>
      pvv prog (Instr.index 9 (.string ⟨#[0, 1, 2, 2, 3, 3, 3, 3, 4, 4, 4, 4, 4, 4, 4, 4, 5, 5, 5, 5, 5, 5, 5, 5, 5, 5, 5, 5, 5, 5, 5, 5, 6, 6, 6, 6, 6, 6, 6, 6, 6, 6, 6, 6, 6, 6, 6, 6, 6, 6, 6, 6, 6, 6, 6, 6, 6, 6, 6, 6, 6, 6, 6, 6, 7, 7, 7, 7, 7, 7, 7, 7, 7, 7, 7, 7, 7, 7, 7, 7, 7, 7, 7, 7, 7, 7, 7, 7, 7, 7, 7, 7, 7, 7, 7, 7, 7, 7, 7, 7, 7, 7, 7, 7, 7, 7, 7, 7, 7, 7, 7, 7, 7, 7, 7, 7, 7, 7, 7, 7, 7, 7, 7, 7, 7, 7, 7, 7, 8, 8, 8, 8, 8, 8, 8, 8, 8, 8, 8, 8, 8, 8, 8, 8, 8, 8, 8, 8, 8, 8, 8, 8, 8, 8, 8, 8, 8, 8, 8, 8, 8, 8, 8, 8, 8, 8, 8, 8, 8, 8, 8, 8, 8, 8, 8, 8, 8, 8, 8, 8, 8, 8, 8, 8, 8, 8, 8, 8, 8, 8, 8, 8, 8, 8, 8, 8, 8, 8, 8, 8, 8, 8, 8, 8, 8, 8, 8, 8, 8, 8, 8, 8, 8, 8, 8, 8, 8, 8, 8, 8, 8, 8, 8, 8, 8, 8, 8, 8, 8, 8, 8, 8, 8, 8, 8, 8, 8, 8, 8, 8, 8, 8, 8, 8, 8, 8, 8, 8, 8, 8, 8, 8, 8, 8, 8, 8]⟩) t_4) w fun t_5 w =>
      pvv prog (convert 5 3 t_5) w fun t_6 w =>
      pvv prog (binOp .add 3 n_3 t_6) w fun t_7 w =>
      K t_7 w) fun k_8 =>
    pvv prog (binOp .geq 121 x_0 (.int .u32 256)) w fun t_9 w =>
    cd t_9 (
      pvv prog (binOp .shr 121 x_0 (.int .u64 8)) w fun t_10 w =>
      pvv prog (binOp .add 3 n_1 (.int .i64 8)) w fun t_11 w =>
      k_8 [t_10, t_11] w) <|
    k_8 [x_0, n_1] w) fun k_12 =>
  pvv prog (binOp .geq 121 x_p0 (.int .u32 65536)) w fun t_13 w =>
  cd t_13 (
    pvv prog (binOp .shr 121 x_p0 (.int .u64 16)) w fun t_14 w =>
    k_12 [t_14, (.int .i64 16)] w) <|
  k_12 [x_p0, (.int .i64 0)] w
theorem B89_eq (x_p0 : Value) (w : World) (K : Value → World → Prop) : denFn prog Tryz.f89 T89 [x_p0] w K = B89 x_p0 w K := by kernel_rfl
theorem c89 {x_p0 : Value} {w : World} {K : Value → World → Prop} (h : B89 x_p0 w K) : Calls prog 89 #[x_p0] w (Ret K) :=
  denFn_calls Tryz.func89 T89_ok (Eq.mpr (B89_eq x_p0 w K) h)

-- 34 (*holdfast/token.Store).ends
def T34 : Ann := (.seq .none (.seq (.seq .none (.seq (.seq .none .none) .none)) (.seq .none (.seq (.seq .none (.block (.loop 2147352736 [5, 17] (.seq .none (.seq (.seq .none .none) (.seq (.block (.seq .none (.seq .none .none))) .none)))))) (.seq .none .none)))))
theorem T34_ok : chkFn prog Tryz.f34 T34 = true := by kernel_rfl
def B34 (s_p0 is_p1 : Value) (w : World) (K : Value → World → Prop) : Prop :=
  pvv prog (oEq .eql 24 (.tmp 8) (.const (.pointer none)) s_p0 (.pointer none)) w fun t_0 w =>
  cd t_0 (
    K (.slice none 0 0) w) <|
  pv prog (oNil s_p0) w fun t_1 w =>
  pvv prog (Instr.fieldAt 67 t_1 0) w fun t_2 w =>
  ldv prog (Instr.loadAt 62 t_2) w fun t_3 w =>
  Calls prog 41 #[t_3, is_p1] w (Ret fun t_4 w =>
  pv prog (oBi .len #[43] 3 #[false] #[t_4]) w fun t_5 w =>
  lp (fun σ w again_8 => pop σ fun out_6 σ => pop σ fun t_7 σ => fin σ <|
    pvv prog (binOp .lss 3 t_7 t_5) w fun t_9 w =>
    cd t_9 (
      pvv prog (Instr.indexAt 43 t_4 t_7) w fun t_10 w =>
      ldv prog (Instr.loadAt 35 t_10) w fun t_11 w =>
      efv prog (Instr.alloc 35 true (.tuple #[])) w fun f_12 w =>
      efu prog (Instr.storeAt 35 f_12 t_11) w fun u_13 w =>
      pvv prog (Instr.fieldAt 35 f_12 0) w fun t_14 w =>
      ldv prog (Instr.loadAt 3 t_14) w fun t_15 w =>
      Calls prog 52 #[s_p0, t_15] w (Ret fun t_16 w =>
      pvv prog (Instr.fieldAt 35 f_12 0) w fun t_17 w =>
      ldv prog (Instr.loadAt 3 t_17) w fun t_18 w =>
      efv prog (Instr.buildSlice 23 1 #[(0, t_18)]) w fun t_19 w =>
      ef prog (oBi .append #[23, 23] 23 #[false, false] #[out_6, t_19]) w fun t_20 w =>
      pvv prog (binOp .add 3 t_7 (.int .i64 1)) w fun t_21 w =>
      again_8 [t_20, t_21] w)) <|
    K out_6 w) [(.slice none 0 0), (.int .i64 0)] w)
theorem B34_eq (s_p0 is_p1 : Value) (w : World) (K : Value → World → Prop) : denFn prog Tryz.f34 T34 [s_p0, is_p1] w K = B34 s_p0 is_p1 w K := by kernel_rfl
theorem c34 {s_p0 is_p1 : Value} {w : World} {K : Value → World → Prop} (h : B34 s_p0 is_p1 w K) : Calls prog 34 #[s_p0, is_p1] w (Ret K) :=
  denFn_calls Tryz.func34 T34_ok (Eq.mpr (B34_eq s_p0 is_p1 w K) h)

-- 121 internal/strconv.small
def T121 : Ann := (.seq .none (.seq (.seq .none (.seq (.seq .none .none) .none)) (.seq .none .none)))
theorem T121_ok : chkFn prog Tryz.f121 T121 = true := by kernel_rfl
def B121 (i_p0 : Value) (w : World) (K : Value → World → Prop) : Prop :=
  pvv prog (binOp .lss 3 i_p0 (.int .i64 10)) w fun t_0 w =>
  cd t_0 (
    pvv prog (binOp .add 3 i_p0 (.int .i64 1)) w fun t_1 w =>
    pvv prog (Instr.sliceAt 9 (.string ⟨#[48, 49, 50, 51, 52, 53, 54, 55, 56, 57, 97, 98, 99, 100, 101, 102, 103, 104, 105, 106, 107, 108, 109, 110, 111, 112, 113, 114, 115, 116, 117, 118, 119, 120, 121, 122]⟩) (some i_p0) (some t_1) none) w fun t_2 w =>
    K t_2 w) <|
  pvv prog (binOp .mul 3 i_p0 (.int .i64 2)) w fun t_3 w =>
  pvv prog (binOp .mul 3 i_p0 (.int .i64 2)) w fun t_4 w =>
  pvv prog (binOp .add 3 t_4 (.int .i64 2)) w fun t_5 w =>
  pvv prog (Instr.sliceAt 9 (.string ⟨#[48, 48, 48, 49, 48, 50, 48, 51, 48, 52, 48, 53, 48, 54, 48, 55, 48, 56, 48, 57, 49, 48, 49, 49, 49, 50, 49, 51, 49, 52, 49, 53, 49, 54, 49, 55, 49, 56, 49, 57, 50, 48, 50, 49, 50, 50, 50, 51, 50, 52, 50, 53, 50, 54, 50, 55, 50, 56, 50, 57, 51, 48, 51, 49, 51, 50, 51, 51, 51, 52, 51, 53, 51, 54, 51, 55, 51, 56, 51, 57, 52, 48, 52, 49, 52, 50, 52, 51, 52, 52, 52, 53, 52, 54, 52, 55, 52, 56, 52, 57, 53, 48, 53, 49, 53, 50, 53, 51, 53, 52, 53, 53, 53, 54, 53, 55, 53, 56, 53, 57, 54, 48, 54, 49, 54, 50, 54, 51, 54, 52, 54, 53, 54, 54, 54, 55, 54, 56, 54, 57, 55, 48, 55, 49, 55, 50, 55, 51, 55, 52, 55, 53, 55, 54, 55, 55, 55, 56, 55, 57, 56, 48, 56, 49, 56, 50, 56, 51, 56, 52, 56, 53, 56, 54, 56, 55, 56, 56, 56, 57, 57, 48, 57, 49, 57, 50, 57, 51, 57, 52, 57, 53, 57, 54, 57, 55, 57, 56, 57, 57]⟩) (some t_3) (some t_5) none) w fun t_6 w =>
  K t_6 w
theorem B121_eq (i_p0 : Value) (w : World) (K : Value → World → Prop) : denFn prog Tryz.f121 T121 [i_p0] w K = B121 i_p0 w K := by kernel_rfl
theorem c121 {i_p0 : Value} {w : World} {K : Value → World → Prop} (h : B121 i_p0 w K) : Calls prog 121 #[i_p0] w (Ret K) :=
  denFn_calls Tryz.func121 T121_ok (Eq.mpr (B121_eq i_p0 w K) h)

-- 95 strings.trimRightASCII
def T95 : Ann := (.seq .none (.meet 2097121 [0] (.block (.loop 2097121 [0] (.seq (.seq .none (.seq .none .none)) (.block (.seq (.seq .none (.seq .none .none)) .none))))) (.seq .none .none)))
theorem T95_ok : chkFn prog Tryz.f95 T95 = true := by kernel_rfl
def B95 (s_p0 as_p1 : Value) (w : World) (K : Value → World → Prop) : Prop :=
  jn (fun σ w => pop σ fun s_0 σ => fin σ <|
    K s_0 w) fun k_1 =>
  lp (fun σ w again_3 => pop σ fun s_2 σ => fin σ <|
    pv prog (oBi .len #[9] 3 #[false] #[s_2]) w fun t_4 w =>
    pvv prog (binOp .gtr 3 t_4 (.int .i64 0)) w fun t_5 w =>
    cd t_5 (
      pv prog (oBi .len #[9] 3 #[false] #[s_2]) w fun t_6 w =>
      pvv prog (binOp .sub 3 t_6 (.int .i64 1)) w fun t_7 w =>
      pvv prog (Instr.index 9 s_2 t_7) w fun t_8 w =>
      Calls prog 107 #[as_p1, t_8] w (Ret fun t_9 w =>
      pvv prog (Op.unary .not t_9) w fun t_10 w =>
      cd t_10 (
        k_1 [s_2] w) <|
      pv prog (oBi .len #[9] 3 #[false] #[s_2]) w fun t_11 w =>
      pvv prog (binOp .sub 3 t_11 (.int .i64 1)) w fun t_12 w =>
      pvv prog (Instr.sliceAt 9 s_2 none (some t_12) none) w fun t_13 w =>
      again_3 [t_13] w)) <|
    k_1 [s_2] w) [s_p0] w
theorem B95_eq (s_p0 as_p1 : Value) (w : World) (K : Value → World → Prop) : denFn prog Tryz.f95 T95 [s_p0, as_p1] w K = B95 s_p0 as_p1 w K := by kernel_rfl
theorem c95 {s_p0 as_p1 : Value} {w : World} {K : Value → World → Prop} (h : B95 s_p0 as_p1 w K) : Calls prog 95 #[s_p0, as_p1] w (Ret K) :=
  denFn_calls Tryz.func95 T95_ok (Eq.mpr (B95_eq s_p0 as_p1 w K) h)

-- 48 holdfast/codec.IsName
def T48 : Ann := (.seq .none (.seq .none .none))
theorem T48_ok : chkFn prog Tryz.f48 T48 = true := by kernel_rfl
def B48 (s_p0 : Value) (w : World) (K : Value → World → Prop) : Prop :=
  pvv prog (oEq .neq 9 (.tmp 3) (.const (.string ⟨#[]⟩)) s_p0 (.string ⟨#[]⟩)) w fun t_0 w =>
  gate (some (t_0, true)) (fun K => K s_p0 w) w fun t_1 w =>
  gate (some (t_0, true)) (fun K => pv prog (oBi .len #[9] 3 #[false] #[t_1]) w K) w fun t_2 w =>
  gate (some (t_0, true)) (fun K => pvv prog (binOp .leq 3 t_2 (.int .i64 9)) w K) w fun t_3 w =>
  pv prog (oPick t_0 t_3 (.bool false)) w fun t_4 w =>
  gate (some (t_4, true)) (fun K => K s_p0 w) w fun t_5 w =>
  gate (some (t_4, true)) (fun K => Calls prog 72 #[t_5, (.string ⟨#[97, 98, 99, 100, 101, 102, 103, 104, 105, 106, 107, 108, 109, 110, 111, 112, 113, 114, 115, 116, 117, 118, 119, 120, 121, 122, 48, 49, 50, 51, 52, 53, 54, 55, 56, 57, 45]⟩)] w (Ret K)) w fun t_6 w =>
  gate (some (t_4, true)) (fun K => pvv prog (oEq .eql 9 (.tmp 12) (.const (.string ⟨#[]⟩)) t_6 (.string ⟨#[]⟩)) w K) w fun t_7 w =>
  pv prog (oPick t_4 t_7 (.bool false)) w fun t_8 w =>
  K t_8 w
theorem B48_eq (s_p0 : Value) (w : World) (K : Value → World → Prop) : denFn prog Tryz.f48 T48 [s_p0] w K = B48 s_p0 w K := by kernel_rfl
theorem c48 {s_p0 : Value} {w : World} {K : Value → World → Prop} (h : B48 s_p0 w K) : Calls prog 48 #[s_p0] w (Ret K) :=
  denFn_calls Tryz.func48 T48_ok (Eq.mpr (B48_eq s_p0 w K) h)

-- 47 (*holdfast/token.Store).time
def T47 : Ann := (.seq .none (.seq (.block (.seq .none (.seq (.seq .none .none) (.seq .none (.seq (.seq .none .none) (.seq .none (.seq (.seq .none .none) .none))))))) (.seq .none .none)))
theorem T47_ok : chkFn prog Tryz.f47 T47 = true := by kernel_rfl
def B47 (s_p0 now_p1 : Value) (w : World) (K : Value → World → Prop) : Prop :=
  pvv prog (oEq .eql 24 (.tmp 6) (.const (.pointer none)) s_p0 (.pointer none)) w fun t_0 w =>
  cd t_0 (
    K (.int .i64 1) w) <|
  pvv prog (binOp .lss 3 now_p1 (.int .i64 0)) w fun t_1 w =>
  gate (some (t_1, false)) (fun K => K now_p1 w) w fun t_2 w =>
  gate (some (t_1, false)) (fun K => pvv prog (binOp .gtr 3 t_2 (.int .i64 1099511627776)) w K) w fun t_3 w =>
  pv prog (oPick t_1 (.bool true) t_3) w fun t_4 w =>
  cd t_4 (
    K (.int .i64 2) w) <|
  pv prog (oNil s_p0) w fun t_5 w =>
  pvv prog (Instr.fieldAt 67 t_5 2) w fun t_6 w =>
  ldv prog (Instr.loadAt 3 t_6) w fun t_7 w =>
  pvv prog (binOp .lss 3 now_p1 t_7) w fun t_8 w =>
  cd t_8 (
    K (.int .i64 9) w) <|
  K (.int .i64 0) w
theorem B47_eq (s_p0 now_p1 : Value) (w : World) (K : Value → World → Prop) : denFn prog Tryz.f47 T47 [s_p0, now_p1] w K = B47 s_p0 now_p1 w K := by kernel_rfl
theorem c47 {s_p0 now_p1 : Value} {w : World} {K : Value → World → Prop} (h : B47 s_p0 now_p1 w K) : Calls prog 47 #[s_p0, now_p1] w (Ret K) :=
  denFn_calls Tryz.func47 T47_ok (Eq.mpr (B47_eq s_p0 now_p1 w K) h)

-- 108 unicode/utf8.DecodeRuneInString
def T108 : Ann := (.seq .none (.seq (.seq .none (.seq (.seq .none .none) .none)) .none))
theorem T108_ok : chkFn prog Tryz.f108 T108 = true := by kernel_rfl
def B108 (s_p0 : Value) (w : World) (K : Value → World → Prop) : Prop :=
  pvv prog (oEq .neq 9 (.tmp 4) (.const (.string ⟨#[]⟩)) s_p0 (.string ⟨#[]⟩)) w fun t_0 w =>
  gate (some (t_0, true)) (fun K => K s_p0 w) w fun t_1 w =>
  gate (some (t_0, true)) (fun K => pvv prog (Instr.index 9 t_1 (.int .i64 0)) w K) w fun t_2 w =>
  gate (some (t_0, true)) (fun K => pvv prog (binOp .lss 5 t_2 (.int .u8 128)) w K) w fun t_3 w =>
  pv prog (oPick t_0 t_3 (.bool false)) w fun t_4 w =>
  cd t_4 (
    pvv prog (Instr.index 9 s_p0 (.int .i64 0)) w fun t_5 w =>
    pvv prog (convert 5 21 t_5) w fun t_6 w =>
    K (.tuple #[t_6, (.int .i64 1)]) w) <|
  Calls prog 126 #[s_p0] w (Ret fun t_7 w =>
  pvv prog (Instr.extract t_7 0) w fun t_8 w =>
  pvv prog (Instr.extract t_7 1) w fun t_9 w =>
  K (.tuple #[t_8, t_9]) w)
theorem B108_eq (s_p0 : Value) (w : World) (K : Value → World → Prop) : denFn prog Tryz.f108 T108 [s_p0] w K = B108 s_p0 w K := by kernel_rfl
theorem c108 {s_p0 : Value} {w : World} {K : Value → World → Prop} (h : B108 s_p0 w K) : Calls prog 108 #[s_p0] w (Ret K) :=
  denFn_calls Tryz.func108 T108_ok (Eq.mpr (B108_eq s_p0 w K) h)

-- 78 maps.Keys[map[int]holdfast/api.Family,int,holdfast/api.Family]$1
def T78 : Ann := (.seq .none (.block (.loop 16328 [] (.seq .none (.seq (.seq .none .none) (.block (.seq .none (.seq .none (.seq .none .none)))))))))
theorem T78_ok : chkFn prog Tryz.f78 T78 = true := by kernel_rfl
def B78 (yield_p0 x_p1 : Value) (w : World) (K : Value → World → Prop) : Prop :=
  ldv prog (Instr.loadAt 60 x_p1) w fun t_0 w =>
  efv prog (Instr.range 60 t_0) w fun t_1 w =>
  lp (fun σ w again_2 => fin σ <|
    efv prog (Instr.next t_1 false 0) w fun t_3 w =>
    pvv prog (Instr.extract t_3 0) w fun t_4 w =>
    cd t_4 (
      efv prog (Instr.entry t_1) w fun t_5 w =>
      pvv prog (Instr.extract t_5 0) w fun t_6 w =>
      ef prog (oCall yield_p0 #[t_6]) w fun t_7 w =>
      pvv prog (Op.unary .not t_7) w fun t_8 w =>
      cd t_8 (
        K (.tuple #[]) w) <|
      again_2 [] w) <|
    K (.tuple #[]) w) [] w
theorem B78_eq (yield_p0 x_p1 : Value) (w : World) (K : Value → World → Prop) : denFn prog Tryz.f78 T78 [yield_p0, x_p1] w K = B78 yield_p0 x_p1 w K := by kernel_rfl
theorem c78 {yield_p0 x_p1 : Value} {w : World} {K : Value → World → Prop} (h : B78 yield_p0 x_p1 w K) : Calls prog 78 #[yield_p0, x_p1] w (Ret K) :=
  denFn_calls Tryz.func78 T78_ok (Eq.mpr (B78_eq yield_p0 x_p1 w K) h)

-- 46 cmp.Compare[string]
def T46 : Ann := (.seq .none (.seq .none (.seq .none (.seq (.seq .none (.seq (.seq (.seq .none (.seq (.seq .none .none) .none)) (.seq .none .none)) .none)) (.seq (.seq .none (.seq (.seq .none .none) .none)) (.seq (.seq .none (.seq (.seq .none .none) .none)) (.seq (.seq .none (.seq (.seq .none .none) .none)) (.seq .none .none))))))))
theorem T46_ok : chkFn prog Tryz.f46 T46 = true := by kernel_rfl
def B46 (x_p0 y_p1 : Value) (w : World) (K : Value → World → Prop) : Prop :=
  Calls prog 71 #[x_p0] w (Ret fun t_0 w =>
  Calls prog 71 #[y_p1] w (Ret fun t_1 w =>
  cd t_0 (
    cd t_1 (
      K (.int .i64 0) w) <|
    K (.int .i64 (-1)) w) <|
  cd t_1 (
    K (.int .i64 1) w) <|
  pvv prog (binOp .lss 9 x_p0 y_p1) w fun t_2 w =>
  cd t_2 (
    K (.int .i64 (-1)) w) <|
  pvv prog (binOp .gtr 9 x_p0 y_p1) w fun t_3 w =>
  cd t_3 (
    K (.int .i64 1) w) <|
  K (.int .i64 0) w))
theorem B46_eq (x_p0 y_p1 : Value) (w : World) (K : Value → World → Prop) : denFn prog Tryz.f46 T46 [x_p0, y_p1] w K = B46 x_p0 y_p1 w K := by kernel_rfl
theorem c46 {x_p0 y_p1 : Value} {w : World} {K : Value → World → Prop} (h : B46 x_p0 y_p1 w K) : Calls prog 46 #[x_p0, y_p1] w (Ret K) :=
  denFn_calls Tryz.func46 T46_ok (Eq.mpr (B46_eq x_p0 y_p1 w K) h)

-- 142 math/bits.TrailingZeros32
def T142 : Ann := (.seq .none (.seq (.seq .none (.seq (.seq .none .none) .none)) (.seq .none .none)))
theorem T142_ok : chkFn prog Tryz.f142 T142 = true := by kernel_rfl
def B142 (x_p0 : Value) (w : World) (K : Value → World → Prop) : Prop :=
  pvv prog (oEq .eql 121 (.tmp 3) (.const (.int .u32 0)) x_p0 (.int .u32 0)) w fun t_0 w =>
  cd t_0 (
    K (.int .i64 32) w) <|
  pvv prog (Op.unary .neg x_p0) w fun t_1 w =>
  pvv prog (binOp .and 121 x_p0 t_1) w fun t_2 w =>
  pvv prog (binOp .mul 121 t_2 (.int .u32 125613361)) w fun t_3 w =>
  pvv prog (binOp .shr 121 t_3 (.int .u64 27)) w fun t_4 w =>
  pvv prog (Instr.indexAt 172 (.pointer (some ⟨4, 0, none⟩)) t_4) w fun t_5 w =>
  ldv prog (Instr.loadAt 5 t_5) w fun t_6 w =>
  pvv prog (convert 5 3 t_6) w fun t_7 w =>
  K t_7 w
theorem B142_eq (x_p0 : Value) (w : World) (K : Value → World → Prop) : denFn prog Tryz.f142 T142 [x_p0] w K = B142 x_p0 w K := by kernel_rfl
theorem c142 {x_p0 : Value} {w : World} {K : Value → World → Prop} (h : B142 x_p0 w K) : Calls prog 142 #[x_p0] w (Ret K) :=
  denFn_calls Tryz.func142 T142_ok (Eq.mpr (B142_eq x_p0 w K) h)

-- 11 (*holdfast/token.Store).EndClient
def T11 : Ann := (.seq .none (.seq .none .none))
theorem T11_ok : chkFn prog Tryz.f11 T11 = true := by kernel_rfl
def B11 (s_p0 client_p1 sessions_p2 : Value) (w : World) (K : Value → World → Prop) : Prop :=
  efv prog (Instr.box 9 client_p1) w fun client_0 w =>
  efv prog (Instr.box 23 sessions_p2) w fun sessions_1 w =>
  pvv prog (Instr.makeFunc (.func 35) #[] #[client_0, sessions_1]) w fun t_2 w =>
  Calls prog 34 #[s_p0, t_2] w (Ret fun t_3 w =>
  K t_3 w)
theorem B11_eq (s_p0 client_p1 sessions_p2 : Value) (w : World) (K : Value → World → Prop) : denFn prog Tryz.f11 T11 [s_p0, client_p1, sessions_p2] w K = B11 s_p0 client_p1 sessions_p2 w K := by kernel_rfl
theorem c11 {s_p0 client_p1 sessions_p2 : Value} {w : World} {K : Value → World → Prop} (h : B11 s_p0 client_p1 sessions_p2 w K) : Calls prog 11 #[s_p0, client_p1, sessions_p2] w (Ret K) :=
  denFn_calls Tryz.func11 T11_ok (Eq.mpr (B11_eq s_p0 client_p1 sessions_p2 w K) h)

-- 45 (*holdfast/token.Store).Rows$1
def T45 : Ann := (.seq .none (.seq .none .none))
theorem T45_ok : chkFn prog Tryz.f45 T45 = true := by kernel_rfl
def B45 (a_p0 b_p1 : Value) (w : World) (K : Value → World → Prop) : Prop :=
  efv prog (Instr.box 84 a_p0) w fun a_0 w =>
  efv prog (Instr.box 84 b_p1) w fun b_1 w =>
  pvv prog (Instr.fieldAt 84 a_0 0) w fun t_2 w =>
  ldv prog (Instr.loadAt 9 t_2) w fun t_3 w =>
  pvv prog (Instr.fieldAt 84 b_1 0) w fun t_4 w =>
  ldv prog (Instr.loadAt 9 t_4) w fun t_5 w =>
  Calls prog 46 #[t_3, t_5] w (Ret fun t_6 w =>
  K t_6 w)
theorem B45_eq (a_p0 b_p1 : Value) (w : World) (K : Value → World → Prop) : denFn prog Tryz.f45 T45 [a_p0, b_p1] w K = B45 a_p0 b_p1 w K := by kernel_rfl
theorem c45 {a_p0 b_p1 : Value} {w : World} {K : Value → World → Prop} (h : B45 a_p0 b_p1 w K) : Calls prog 45 #[a_p0, b_p1] w (Ret K) :=
  denFn_calls Tryz.func45 T45_ok (Eq.mpr (B45_eq a_p0 b_p1 w K) h)

-- 44 slices.SortFunc[[]holdfast/api.Row,holdfast/api.Row]
def T44 : Ann := (.seq .none .none)
theorem T44_ok : chkFn prog Tryz.f44 T44 = true := by kernel_rfl
def B44 (x_p0 cmp_p1 : Value) (w : World) (K : Value → World → Prop) : Prop :=
  pv prog (oBi .len #[45] 3 #[false] #[x_p0]) w fun t_0 w =>
  pvv prog (convert 3 106 t_0) w fun t_1 w =>
  Calls prog 70 #[t_1] w (Ret fun t_2 w =>
  Calls prog 69 #[x_p0, (.int .i64 0), t_0, t_2, cmp_p1] w (Ret fun t_3 w =>
  K (.tuple #[]) w))
theorem B44_eq (x_p0 cmp_p1 : Value) (w : World) (K : Value → World → Prop) : denFn prog Tryz.f44 T44 [x_p0, cmp_p1] w K = B44 x_p0 cmp_p1 w K := by kernel_rfl
theorem c44 {x_p0 cmp_p1 : Value} {w : World} {K : Value → World → Prop} (h : B44 x_p0 cmp_p1 w K) : Calls prog 44 #[x_p0, cmp_p1] w (Ret K) :=
  denFn_calls Tryz.func44 T44_ok (Eq.mpr (B44_eq x_p0 cmp_p1 w K) h)

-- 13 (*holdfast/token.Store).EndSessions
def T13 : Ann := (.seq .none (.seq .none .none))
theorem T13_ok : chkFn prog Tryz.f13 T13 = true := by kernel_rfl
def B13 (s_p0 sessions_p1 : Value) (w : World) (K : Value → World → Prop) : Prop :=
  efv prog (Instr.box 23 sessions_p1) w fun sessions_0 w =>
  pvv prog (Instr.makeFunc (.func 38) #[] #[sessions_0]) w fun t_1 w =>
  Calls prog 34 #[s_p0, t_1] w (Ret fun t_2 w =>
  K t_2 w)
theorem B13_eq (s_p0 sessions_p1 : Value) (w : World) (K : Value → World → Prop) : denFn prog Tryz.f13 T13 [s_p0, sessions_p1] w K = B13 s_p0 sessions_p1 w K := by kernel_rfl
theorem c13 {s_p0 sessions_p1 : Value} {w : World} {K : Value → World → Prop} (h : B13 s_p0 sessions_p1 w K) : Calls prog 13 #[s_p0, sessions_p1] w (Ret K) :=
  denFn_calls Tryz.func13 T13_ok (Eq.mpr (B13_eq s_p0 sessions_p1 w K) h)

-- 136 math/bits.TrailingZeros
def T136 : Ann := (.seq .none (.seq (.seq (.seq .none .none) .none) (.seq .none .none)))
theorem T136_ok : chkFn prog Tryz.f136 T136 = true := by kernel_rfl
def B136 (x_p0 : Value) (w : World) (K : Value → World → Prop) : Prop :=
  cd (.bool false) (
    pvv prog (convert 106 121 x_p0) w fun t_0 w =>
    Calls prog 142 #[t_0] w (Ret fun t_1 w =>
    K t_1 w)) <|
  Calls prog 143 #[x_p0] w (Ret fun t_2 w =>
  K t_2 w)
theorem B136_eq (x_p0 : Value) (w : World) (K : Value → World → Prop) : denFn prog Tryz.f136 T136 [x_p0] w K = B136 x_p0 w K := by kernel_rfl
theorem c136 {x_p0 : Value} {w : World} {K : Value → World → Prop} (h : B136 x_p0 w K) : Calls prog 136 #[x_p0] w (Ret K) :=
  denFn_calls Tryz.func136 T136_ok (Eq.mpr (B136_eq x_p0 w K) h)

-- 70 math/bits.Len
def T70 : Ann := (.seq .none (.seq (.seq (.seq .none .none) .none) (.seq .none .none)))
theorem T70_ok : chkFn prog Tryz.f70 T70 = true := by kernel_rfl
def B70 (x_p0 : Value) (w : World) (K : Value → World → Prop) : Prop :=
  cd (.bool false) (
    pvv prog (convert 106 121 x_p0) w fun t_0 w =>
    Calls prog 89 #[t_0] w (Ret fun t_1 w =>
    K t_1 w)) <|
  Calls prog 90 #[x_p0] w (Ret fun t_2 w =>
  K t_2 w)
theorem B70_eq (x_p0 : Value) (w : World) (K : Value → World → Prop) : denFn prog Tryz.f70 T70 [x_p0] w K = B70 x_p0 w K := by kernel_rfl
theorem c70 {x_p0 : Value} {w : World} {K : Value → World → Prop} (h : B70 x_p0 w K) : Calls prog 70 #[x_p0] w (Ret K) :=
  denFn_calls Tryz.func70 T70_ok (Eq.mpr (B70_eq x_p0 w K) h)

-- 36 slices.Contains[[]int,int]
def T36 : Ann := (.seq .none (.seq .none .none))
theorem T36_ok : chkFn prog Tryz.f36 T36 = true := by kernel_rfl
def B36 (s_p0 v_p1 : Value) (w : World) (K : Value → World → Prop) : Prop :=
  Calls prog 64 #[s_p0, v_p1] w (Ret fun t_0 w =>
  pvv prog (binOp .geq 3 t_0 (.int .i64 0)) w fun t_1 w =>
  K t_1 w)
theorem B36_eq (s_p0 v_p1 : Value) (w : World) (K : Value → World → Prop) : denFn prog Tryz.f36 T36 [s_p0, v_p1] w K = B36 s_p0 v_p1 w K := by kernel_rfl
theorem c36 {s_p0 v_p1 : Value} {w : World} {K : Value → World → Prop} (h : B36 s_p0 v_p1 w K) : Calls prog 36 #[s_p0, v_p1] w (Ret K) :=
  denFn_calls Tryz.func36 T36_ok (Eq.mpr (B36_eq s_p0 v_p1 w K) h)

-- 133 internal/strconv.log10Pow2
def T133 : Ann := (.seq .none (.seq .none .none))
theorem T133_ok : chkFn prog Tryz.f133 T133 = true := by kernel_rfl
def B133 (x_p0 : Value) (w : World) (K : Value → World → Prop) : Prop :=
  pvv prog (binOp .mul 3 x_p0 (.int .i64 78913)) w fun t_0 w =>
  pvv prog (binOp .shr 3 t_0 (.int .u64 18)) w fun t_1 w =>
  K t_1 w
theorem B133_eq (x_p0 : Value) (w : World) (K : Value → World → Prop) : denFn prog Tryz.f133 T133 [x_p0] w K = B133 x_p0 w K := by kernel_rfl
theorem c133 {x_p0 : Value} {w : World} {K : Value → World → Prop} (h : B133 x_p0 w K) : Calls prog 133 #[x_p0] w (Ret K) :=
  denFn_calls Tryz.func133 T133_ok (Eq.mpr (B133_eq x_p0 w K) h)

-- 134 internal/strconv.bool2[int]
def T134 : Ann := (.seq .none (.seq (.seq .none (.seq (.seq .none .none) .none)) (.seq .none .none)))
theorem T134_ok : chkFn prog Tryz.f134 T134 = true := by kernel_rfl
def B134 (b_p0 : Value) (w : World) (K : Value → World → Prop) : Prop :=
  cd b_p0 (
    K (.int .i64 1) w) <|
  K (.int .i64 0) w
theorem B134_eq (b_p0 : Value) (w : World) (K : Value → World → Prop) : denFn prog Tryz.f134 T134 [b_p0] w K = B134 b_p0 w K := by kernel_rfl
theorem c134 {b_p0 : Value} {w : World} {K : Value → World → Prop} (h : B134 b_p0 w K) : Calls prog 134 #[b_p0] w (Ret K) :=
  denFn_calls Tryz.func134 T134_ok (Eq.mpr (B134_eq b_p0 w K) h)

-- 80 strconv.FormatInt
def T80 : Ann := (.seq .none (.seq .none .none))
theorem T80_ok : chkFn prog Tryz.f80 T80 = true := by kernel_rfl
def B80 (i_p0 base_p1 : Value) (w : World) (K : Value → World → Prop) : Prop :=
  Calls prog 101 #[i_p0, base_p1] w (Ret fun t_0 w =>
  K t_0 w)
theorem B80_eq (i_p0 base_p1 : Value) (w : World) (K : Value → World → Prop) : denFn prog Tryz.f80 T80 [i_p0, base_p1] w K = B80 i_p0 base_p1 w K := by kernel_rfl
theorem c80 {i_p0 base_p1 : Value} {w : World} {K : Value → World → Prop} (h : B80 i_p0 base_p1 w K) : Calls prog 80 #[i_p0, base_p1] w (Ret K) :=
  denFn_calls Tryz.func80 T80_ok (Eq.mpr (B80_eq i_p0 base_p1 w K) h)


end Go.Proofs.YtbcimkjgpplcpaaGreatDoor
