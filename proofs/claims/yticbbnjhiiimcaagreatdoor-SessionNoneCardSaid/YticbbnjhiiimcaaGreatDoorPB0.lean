import Derived.Test.YticbbnjhiiimcaaGreatDoorPI
set_option linter.all false
set_option maxRecDepth 100000
namespace Go.Proofs.YticbbnjhiiimcaaGreatDoor
open Go Hold
-- 89 internal/strconv.formatBase10
def T89 : Ann := (.seq .none (.seq (.block (.loop 79228162514264337593543430130 [1, 4] (.seq (.seq .none (.seq .none .none)) (.block (.seq .none (.seq .none (.seq .none (.seq .none (.seq .none (.seq (.draw [.op 0 .pure, .op 1 .pure, .op 2 .pure, .op 3 .pure, .op 4 .pure, .op 5 .pure, .op 6 .pure, .op 7 .pure, .op 8 .pure, .op 9 .pure, .op 10 .pure, .op 11 .pure, .op 12 .eff, .op 13 .pure, .op 14 .eff]) (.seq (.draw [.op 0 .pure, .op 1 .pure, .op 2 .pure, .op 3 .pure, .op 4 .pure, .op 5 .pure, .op 6 .pure, .op 7 .pure, .op 8 .pure, .op 9 .pure, .op 10 .pure, .op 11 .pure, .op 12 .eff, .op 13 .pure, .op 14 .eff]) (.seq (.draw [.op 0 .pure, .op 1 .pure, .op 2 .pure, .op 3 .pure, .op 4 .pure, .op 5 .pure, .op 6 .pure, .op 7 .pure, .op 8 .pure, .op 9 .pure, .op 10 .pure, .op 11 .pure, .op 12 .eff, .op 13 .pure, .op 14 .eff]) (.seq (.draw [.op 0 .pure, .op 1 .pure, .op 2 .pure, .op 3 .pure, .op 4 .pure, .op 5 .pure, .op 6 .pure, .op 7 .pure, .op 8 .pure, .op 9 .pure, .op 10 .pure, .op 11 .pure, .op 12 .eff, .op 13 .pure, .op 14 .eff]) .none))))))))))))) (.seq .none (.meet 348449143726724073936438540659756472791056 [4, 12] (.seq .none (.seq (.seq .none (.seq .none (.seq .none (.seq (.draw [.op 0 .pure, .op 1 .pure, .op 2 .pure, .op 3 .pure, .op 4 .pure, .op 5 .pure, .op 6 .pure, .op 7 .pure, .op 8 .pure, .op 9 .pure, .op 10 .pure, .op 11 .pure, .op 12 .eff, .op 13 .pure, .op 14 .eff]) (.seq (.draw [.op 0 .pure, .op 1 .pure, .op 2 .pure, .op 3 .pure, .op 4 .pure, .op 5 .pure, .op 6 .pure, .op 7 .pure, .op 8 .pure, .op 9 .pure, .op 10 .pure, .op 11 .pure, .op 12 .eff, .op 13 .pure, .op 14 .eff]) .none))))) .none)) (.meet 1461501288881759191162698246220685009525284081680 [4, 12] (.seq .none (.seq (.seq .none (.seq .none (.seq (.draw [.op 0 .pure, .op 1 .pure, .op 2 .pure, .op 3 .pure, .op 4 .pure, .op 5 .pure, .op 6 .pure, .op 7 .pure, .op 8 .pure, .op 9 .pure, .op 10 .pure, .op 11 .pure, .op 12 .eff, .op 13 .pure, .op 14 .eff]) .none))) .none)) (.seq .none (.seq .none .none)))))))
theorem T89_ok : chkFn prog Tryz.f89 T89 = true := by kernel_rfl
def B89 (a_p0 u_p1 : Value) (w : World) (K : Value → World → Prop) : Prop :=
  pv prog (oBi .len #[120] 3 #[false] #[a_p0]) w fun t_0 w =>
  lp (fun σ w again_3 => pop σ fun u_1 σ => pop σ fun nd_2 σ => fin σ <|
    pvv prog (binOp .geq 3 nd_2 (.int .i64 8)) w fun t_4 w =>
    cd t_4 (
      pvv prog (binOp .rem 97 u_1 (.int .u64 100000000)) w fun t_5 w =>
      pvv prog (convert 97 95 t_5) w fun t_6 w =>
      pvv prog (binOp .quo 97 u_1 (.int .u64 100000000)) w fun t_7 w =>
      pvv prog (binOp .quo 95 t_6 (.int .u32 10000)) w fun t_8 w =>
      pvv prog (binOp .rem 95 t_6 (.int .u32 10000)) w fun t_9 w =>
      pvv prog (binOp .quo 95 t_9 (.int .u32 100)) w fun t_10 w =>
      pvv prog (binOp .mul 95 t_10 (.int .u32 2)) w fun t_11 w =>
      pvv prog (binOp .rem 95 t_9 (.int .u32 100)) w fun t_12 w =>
      pvv prog (binOp .mul 95 t_12 (.int .u32 2)) w fun t_13 w =>
      pvv prog (binOp .quo 95 t_8 (.int .u32 100)) w fun t_14 w =>
      pvv prog (binOp .mul 95 t_14 (.int .u32 2)) w fun t_15 w =>
      pvv prog (binOp .rem 95 t_8 (.int .u32 100)) w fun t_16 w =>
      pvv prog (binOp .mul 95 t_16 (.int .u32 2)) w fun t_17 w =>
      dr w fun w =>
      pvv prog (binOp .sub 3 nd_2 (.int .i64 1)) w fun t_18 w =>
      pvv prog (binOp .sub 3 nd_2 (.int .i64 2)) w fun t_19 w =>
      pvv prog (binOp .add 95 t_13 (.int .u32 1)) w fun t_20 w =>
      pvv prog (Instr.index 9 (.string ⟨#[48, 48, 48, 49, 48, 50, 48, 51, 48, 52, 48, 53, 48, 54, 48, 55, 48, 56, 48, 57, 49, 48, 49, 49, 49, 50, 49, 51, 49, 52, 49, 53, 49, 54, 49, 55, 49, 56, 49, 57, 50, 48, 50, 49, 50, 50, 50, 51, 50, 52, 50, 53, 50, 54, 50, 55, 50, 56, 50, 57, 51, 48, 51, 49, 51, 50, 51, 51, 51, 52, 51, 53, 51, 54, 51, 55, 51, 56, 51, 57, 52, 48, 52, 49, 52, 50, 52, 51, 52, 52, 52, 53, 52, 54, 52, 55, 52, 56, 52, 57, 53, 48, 53, 49, 53, 50, 53, 51, 53, 52, 53, 53, 53, 54, 53, 55, 53, 56, 53, 57, 54, 48, 54, 49, 54, 50, 54, 51, 54, 52, 54, 53, 54, 54, 54, 55, 54, 56, 54, 57, 55, 48, 55, 49, 55, 50, 55, 51, 55, 52, 55, 53, 55, 54, 55, 55, 55, 56, 55, 57, 56, 48, 56, 49, 56, 50, 56, 51, 56, 52, 56, 53, 56, 54, 56, 55, 56, 56, 56, 57, 57, 48, 57, 49, 57, 50, 57, 51, 57, 52, 57, 53, 57, 54, 57, 55, 57, 56, 57, 57]⟩) t_20) w fun t_21 w =>
      pvv prog (Instr.index 9 (.string ⟨#[48, 48, 48, 49, 48, 50, 48, 51, 48, 52, 48, 53, 48, 54, 48, 55, 48, 56, 48, 57, 49, 48, 49, 49, 49, 50, 49, 51, 49, 52, 49, 53, 49, 54, 49, 55, 49, 56, 49, 57, 50, 48, 50, 49, 50, 50, 50, 51, 50, 52, 50, 53, 50, 54, 50, 55, 50, 56, 50, 57, 51, 48, 51, 49, 51, 50, 51, 51, 51, 52, 51, 53, 51, 54, 51, 55, 51, 56, 51, 57, 52, 48, 52, 49, 52, 50, 52, 51, 52, 52, 52, 53, 52, 54, 52, 55, 52, 56, 52, 57, 53, 48, 53, 49, 53, 50, 53, 51, 53, 52, 53, 53, 53, 54, 53, 55, 53, 56, 53, 57, 54, 48, 54, 49, 54, 50, 54, 51, 54, 52, 54, 53, 54, 54, 54, 55, 54, 56, 54, 57, 55, 48, 55, 49, 55, 50, 55, 51, 55, 52, 55, 53, 55, 54, 55, 55, 55, 56, 55, 57, 56, 48, 56, 49, 56, 50, 56, 51, 56, 52, 56, 53, 56, 54, 56, 55, 56, 56, 56, 57, 57, 48, 57, 49, 57, 50, 57, 51, 57, 52, 57, 53, 57, 54, 57, 55, 57, 56, 57, 57]⟩) t_13) w fun t_22 w =>
      pvv prog (Instr.indexAt 120 a_p0 t_18) w fun t_23 w =>
      efu prog (Instr.storeAt 5 t_23 t_21) w fun u_24 w =>
      pvv prog (Instr.indexAt 120 a_p0 t_19) w fun t_25 w =>
      efu prog (Instr.storeAt 5 t_25 t_22) w fun u_26 w =>
      dr w fun w =>
      pvv prog (binOp .sub 3 nd_2 (.int .i64 3)) w fun t_27 w =>
      pvv prog (binOp .sub 3 nd_2 (.int .i64 4)) w fun t_28 w =>
      pvv prog (binOp .add 95 t_11 (.int .u32 1)) w fun t_29 w =>
      pvv prog (Instr.index 9 (.string ⟨#[48, 48, 48, 49, 48, 50, 48, 51, 48, 52, 48, 53, 48, 54, 48, 55, 48, 56, 48, 57, 49, 48, 49, 49, 49, 50, 49, 51, 49, 52, 49, 53, 49, 54, 49, 55, 49, 56, 49, 57, 50, 48, 50, 49, 50, 50, 50, 51, 50, 52, 50, 53, 50, 54, 50, 55, 50, 56, 50, 57, 51, 48, 51, 49, 51, 50, 51, 51, 51, 52, 51, 53, 51, 54, 51, 55, 51, 56, 51, 57, 52, 48, 52, 49, 52, 50, 52, 51, 52, 52, 52, 53, 52, 54, 52, 55, 52, 56, 52, 57, 53, 48, 53, 49, 53, 50, 53, 51, 53, 52, 53, 53, 53, 54, 53, 55, 53, 56, 53, 57, 54, 48, 54, 49, 54, 50, 54, 51, 54, 52, 54, 53, 54, 54, 54, 55, 54, 56, 54, 57, 55, 48, 55, 49, 55, 50, 55, 51, 55, 52, 55, 53, 55, 54, 55, 55, 55, 56, 55, 57, 56, 48, 56, 49, 56, 50, 56, 51, 56, 52, 56, 53, 56, 54, 56, 55, 56, 56, 56, 57, 57, 48, 57, 49, 57, 50, 57, 51, 57, 52, 57, 53, 57, 54, 57, 55, 57, 56, 57, 57]⟩) t_29) w fun t_30 w =>
      pvv prog (Instr.index 9 (.string ⟨#[48, 48, 48, 49, 48, 50, 48, 51, 48, 52, 48, 53, 48, 54, 48, 55, 48, 56, 48, 57, 49, 48, 49, 49, 49, 50, 49, 51, 49, 52, 49, 53, 49, 54, 49, 55, 49, 56, 49, 57, 50, 48, 50, 49, 50, 50, 50, 51, 50, 52, 50, 53, 50, 54, 50, 55, 50, 56, 50, 57, 51, 48, 51, 49, 51, 50, 51, 51, 51, 52, 51, 53, 51, 54, 51, 55, 51, 56, 51, 57, 52, 48, 52, 49, 52, 50, 52, 51, 52, 52, 52, 53, 52, 54, 52, 55, 52, 56, 52, 57, 53, 48, 53, 49, 53, 50, 53, 51, 53, 52, 53, 53, 53, 54, 53, 55, 53, 56, 53, 57, 54, 48, 54, 49, 54, 50, 54, 51, 54, 52, 54, 53, 54, 54, 54, 55, 54, 56, 54, 57, 55, 48, 55, 49, 55, 50, 55, 51, 55, 52, 55, 53, 55, 54, 55, 55, 55, 56, 55, 57, 56, 48, 56, 49, 56, 50, 56, 51, 56, 52, 56, 53, 56, 54, 56, 55, 56, 56, 56, 57, 57, 48, 57, 49, 57, 50, 57, 51, 57, 52, 57, 53, 57, 54, 57, 55, 57, 56, 57, 57]⟩) t_11) w fun t_31 w =>
      pvv prog (Instr.indexAt 120 a_p0 t_27) w fun t_32 w =>
      efu prog (Instr.storeAt 5 t_32 t_30) w fun u_33 w =>
      pvv prog (Instr.indexAt 120 a_p0 t_28) w fun t_34 w =>
      efu prog (Instr.storeAt 5 t_34 t_31) w fun u_35 w =>
      dr w fun w =>
      pvv prog (binOp .sub 3 nd_2 (.int .i64 5)) w fun t_36 w =>
      pvv prog (binOp .sub 3 nd_2 (.int .i64 6)) w fun t_37 w =>
      pvv prog (binOp .add 95 t_17 (.int .u32 1)) w fun t_38 w =>
      pvv prog (Instr.index 9 (.string ⟨#[48, 48, 48, 49, 48, 50, 48, 51, 48, 52, 48, 53, 48, 54, 48, 55, 48, 56, 48, 57, 49, 48, 49, 49, 49, 50, 49, 51, 49, 52, 49, 53, 49, 54, 49, 55, 49, 56, 49, 57, 50, 48, 50, 49, 50, 50, 50, 51, 50, 52, 50, 53, 50, 54, 50, 55, 50, 56, 50, 57, 51, 48, 51, 49, 51, 50, 51, 51, 51, 52, 51, 53, 51, 54, 51, 55, 51, 56, 51, 57, 52, 48, 52, 49, 52, 50, 52, 51, 52, 52, 52, 53, 52, 54, 52, 55, 52, 56, 52, 57, 53, 48, 53, 49, 53, 50, 53, 51, 53, 52, 53, 53, 53, 54, 53, 55, 53, 56, 53, 57, 54, 48, 54, 49, 54, 50, 54, 51, 54, 52, 54, 53, 54, 54, 54, 55, 54, 56, 54, 57, 55, 48, 55, 49, 55, 50, 55, 51, 55, 52, 55, 53, 55, 54, 55, 55, 55, 56, 55, 57, 56, 48, 56, 49, 56, 50, 56, 51, 56, 52, 56, 53, 56, 54, 56, 55, 56, 56, 56, 57, 57, 48, 57, 49, 57, 50, 57, 51, 57, 52, 57, 53, 57, 54, 57, 55, 57, 56, 57, 57]⟩) t_38) w fun t_39 w =>
      pvv prog (Instr.index 9 (.string ⟨#[48, 48, 48, 49, 48, 50, 48, 51, 48, 52, 48, 53, 48, 54, 48, 55, 48, 56, 48, 57, 49, 48, 49, 49, 49, 50, 49, 51, 49, 52, 49, 53, 49, 54, 49, 55, 49, 56, 49, 57, 50, 48, 50, 49, 50, 50, 50, 51, 50, 52, 50, 53, 50, 54, 50, 55, 50, 56, 50, 57, 51, 48, 51, 49, 51, 50, 51, 51, 51, 52, 51, 53, 51, 54, 51, 55, 51, 56, 51, 57, 52, 48, 52, 49, 52, 50, 52, 51, 52, 52, 52, 53, 52, 54, 52, 55, 52, 56, 52, 57, 53, 48, 53, 49, 53, 50, 53, 51, 53, 52, 53, 53, 53, 54, 53, 55, 53, 56, 53, 57, 54, 48, 54, 49, 54, 50, 54, 51, 54, 52, 54, 53, 54, 54, 54, 55, 54, 56, 54, 57, 55, 48, 55, 49, 55, 50, 55, 51, 55, 52, 55, 53, 55, 54, 55, 55, 55, 56, 55, 57, 56, 48, 56, 49, 56, 50, 56, 51, 56, 52, 56, 53, 56, 54, 56, 55, 56, 56, 56, 57, 57, 48, 57, 49, 57, 50, 57, 51, 57, 52, 57, 53, 57, 54, 57, 55, 57, 56, 57, 57]⟩) t_17) w fun t_40 w =>
      pvv prog (Instr.indexAt 120 a_p0 t_36) w fun t_41 w =>
      efu prog (Instr.storeAt 5 t_41 t_39) w fun u_42 w =>
      pvv prog (Instr.indexAt 120 a_p0 t_37) w fun t_43 w =>
      efu prog (Instr.storeAt 5 t_43 t_40) w fun u_44 w =>
      dr w fun w =>
      pvv prog (binOp .sub 3 nd_2 (.int .i64 7)) w fun t_45 w =>
      pvv prog (binOp .sub 3 nd_2 (.int .i64 8)) w fun t_46 w =>
      pvv prog (binOp .add 95 t_15 (.int .u32 1)) w fun t_47 w =>
      pvv prog (Instr.index 9 (.string ⟨#[48, 48, 48, 49, 48, 50, 48, 51, 48, 52, 48, 53, 48, 54, 48, 55, 48, 56, 48, 57, 49, 48, 49, 49, 49, 50, 49, 51, 49, 52, 49, 53, 49, 54, 49, 55, 49, 56, 49, 57, 50, 48, 50, 49, 50, 50, 50, 51, 50, 52, 50, 53, 50, 54, 50, 55, 50, 56, 50, 57, 51, 48, 51, 49, 51, 50, 51, 51, 51, 52, 51, 53, 51, 54, 51, 55, 51, 56, 51, 57, 52, 48, 52, 49, 52, 50, 52, 51, 52, 52, 52, 53, 52, 54, 52, 55, 52, 56, 52, 57, 53, 48, 53, 49, 53, 50, 53, 51, 53, 52, 53, 53, 53, 54, 53, 55, 53, 56, 53, 57, 54, 48, 54, 49, 54, 50, 54, 51, 54, 52, 54, 53, 54, 54, 54, 55, 54, 56, 54, 57, 55, 48, 55, 49, 55, 50, 55, 51, 55, 52, 55, 53, 55, 54, 55, 55, 55, 56, 55, 57, 56, 48, 56, 49, 56, 50, 56, 51, 56, 52, 56, 53, 56, 54, 56, 55, 56, 56, 56, 57, 57, 48, 57, 49, 57, 50, 57, 51, 57, 52, 57, 53, 57, 54, 57, 55, 57, 56, 57, 57]⟩) t_47) w fun t_48 w =>
      pvv prog (Instr.index 9 (.string ⟨#[48, 48, 48, 49, 48, 50, 48, 51, 48, 52, 48, 53, 48, 54, 48, 55, 48, 56, 48, 57, 49, 48, 49, 49, 49, 50, 49, 51, 49, 52, 49, 53, 49, 54, 49, 55, 49, 56, 49, 57, 50, 48, 50, 49, 50, 50, 50, 51, 50, 52, 50, 53, 50, 54, 50, 55, 50, 56, 50, 57, 51, 48, 51, 49, 51, 50, 51, 51, 51, 52, 51, 53, 51, 54, 51, 55, 51, 56, 51, 57, 52, 48, 52, 49, 52, 50, 52, 51, 52, 52, 52, 53, 52, 54, 52, 55, 52, 56, 52, 57, 53, 48, 53, 49, 53, 50, 53, 51, 53, 52, 53, 53, 53, 54, 53, 55, 53, 56, 53, 57, 54, 48, 54, 49, 54, 50, 54, 51, 54, 52, 54, 53, 54, 54, 54, 55, 54, 56, 54, 57, 55, 48, 55, 49, 55, 50, 55, 51, 55, 52, 55, 53, 55, 54, 55, 55, 55, 56, 55, 57, 56, 48, 56, 49, 56, 50, 56, 51, 56, 52, 56, 53, 56, 54, 56, 55, 56, 56, 56, 57, 57, 48, 57, 49, 57, 50, 57, 51, 57, 52, 57, 53, 57, 54, 57, 55, 57, 56, 57, 57]⟩) t_15) w fun t_49 w =>
      pvv prog (Instr.indexAt 120 a_p0 t_45) w fun t_50 w =>
      efu prog (Instr.storeAt 5 t_50 t_48) w fun u_51 w =>
      pvv prog (Instr.indexAt 120 a_p0 t_46) w fun t_52 w =>
      efu prog (Instr.storeAt 5 t_52 t_49) w fun u_53 w =>
      pvv prog (binOp .sub 3 nd_2 (.int .i64 8)) w fun t_54 w =>
      again_3 [t_7, t_54] w) <|
    pvv prog (convert 97 95 u_1) w fun t_63 w =>
    jn (fun σ w => pop σ fun nd_64 σ => pop σ fun x_65 σ => fin σ <|
      jn (fun σ w => pop σ fun nd_66 σ => pop σ fun x_67 σ => fin σ <|
        pvv prog (binOp .gtr 3 nd_66 (.int .i64 0)) w fun t_68 w =>
        cd t_68 (
          pvv prog (binOp .add 95 (.int .u32 48) x_67) w fun t_69 w =>
          pvv prog (convert 95 5 t_69) w fun t_70 w =>
          pvv prog (Instr.indexAt 120 a_p0 (.int .i64 0)) w fun t_71 w =>
          efu prog (Instr.storeAt 5 t_71 t_70) w fun u_72 w =>
          K (.tuple #[]) w) <|
        K (.tuple #[]) w) fun k_73 =>
      pvv prog (binOp .geq 3 nd_64 (.int .i64 2)) w fun t_74 w =>
      cd t_74 (
        pvv prog (binOp .rem 95 x_65 (.int .u32 100)) w fun t_75 w =>
        pvv prog (binOp .mul 95 t_75 (.int .u32 2)) w fun t_76 w =>
        pvv prog (binOp .quo 95 x_65 (.int .u32 100)) w fun t_77 w =>
        dr w fun w =>
        pvv prog (binOp .sub 3 nd_64 (.int .i64 1)) w fun t_78 w =>
        pvv prog (binOp .sub 3 nd_64 (.int .i64 2)) w fun t_79 w =>
        pvv prog (binOp .add 95 t_76 (.int .u32 1)) w fun t_80 w =>
        pvv prog (Instr.index 9 (.string ⟨#[48, 48, 48, 49, 48, 50, 48, 51, 48, 52, 48, 53, 48, 54, 48, 55, 48, 56, 48, 57, 49, 48, 49, 49, 49, 50, 49, 51, 49, 52, 49, 53, 49, 54, 49, 55, 49, 56, 49, 57, 50, 48, 50, 49, 50, 50, 50, 51, 50, 52, 50, 53, 50, 54, 50, 55, 50, 56, 50, 57, 51, 48, 51, 49, 51, 50, 51, 51, 51, 52, 51, 53, 51, 54, 51, 55, 51, 56, 51, 57, 52, 48, 52, 49, 52, 50, 52, 51, 52, 52, 52, 53, 52, 54, 52, 55, 52, 56, 52, 57, 53, 48, 53, 49, 53, 50, 53, 51, 53, 52, 53, 53, 53, 54, 53, 55, 53, 56, 53, 57, 54, 48, 54, 49, 54, 50, 54, 51, 54, 52, 54, 53, 54, 54, 54, 55, 54, 56, 54, 57, 55, 48, 55, 49, 55, 50, 55, 51, 55, 52, 55, 53, 55, 54, 55, 55, 55, 56, 55, 57, 56, 48, 56, 49, 56, 50, 56, 51, 56, 52, 56, 53, 56, 54, 56, 55, 56, 56, 56, 57, 57, 48, 57, 49, 57, 50, 57, 51, 57, 52, 57, 53, 57, 54, 57, 55, 57, 56, 57, 57]⟩) t_80) w fun t_81 w =>
        pvv prog (Instr.index 9 (.string ⟨#[48, 48, 48, 49, 48, 50, 48, 51, 48, 52, 48, 53, 48, 54, 48, 55, 48, 56, 48, 57, 49, 48, 49, 49, 49, 50, 49, 51, 49, 52, 49, 53, 49, 54, 49, 55, 49, 56, 49, 57, 50, 48, 50, 49, 50, 50, 50, 51, 50, 52, 50, 53, 50, 54, 50, 55, 50, 56, 50, 57, 51, 48, 51, 49, 51, 50, 51, 51, 51, 52, 51, 53, 51, 54, 51, 55, 51, 56, 51, 57, 52, 48, 52, 49, 52, 50, 52, 51, 52, 52, 52, 53, 52, 54, 52, 55, 52, 56, 52, 57, 53, 48, 53, 49, 53, 50, 53, 51, 53, 52, 53, 53, 53, 54, 53, 55, 53, 56, 53, 57, 54, 48, 54, 49, 54, 50, 54, 51, 54, 52, 54, 53, 54, 54, 54, 55, 54, 56, 54, 57, 55, 48, 55, 49, 55, 50, 55, 51, 55, 52, 55, 53, 55, 54, 55, 55, 55, 56, 55, 57, 56, 48, 56, 49, 56, 50, 56, 51, 56, 52, 56, 53, 56, 54, 56, 55, 56, 56, 56, 57, 57, 48, 57, 49, 57, 50, 57, 51, 57, 52, 57, 53, 57, 54, 57, 55, 57, 56, 57, 57]⟩) t_76) w fun t_82 w =>
        pvv prog (Instr.indexAt 120 a_p0 t_78) w fun t_83 w =>
        efu prog (Instr.storeAt 5 t_83 t_81) w fun u_84 w =>
        pvv prog (Instr.indexAt 120 a_p0 t_79) w fun t_85 w =>
        efu prog (Instr.storeAt 5 t_85 t_82) w fun u_86 w =>
        pvv prog (binOp .sub 3 nd_64 (.int .i64 2)) w fun t_87 w =>
        k_73 [t_87, t_77] w) <|
      k_73 [nd_64, x_65] w) fun k_90 =>
    pvv prog (binOp .geq 3 nd_2 (.int .i64 4)) w fun t_91 w =>
    cd t_91 (
      pvv prog (binOp .rem 95 t_63 (.int .u32 10000)) w fun t_92 w =>
      pvv prog (binOp .quo 95 t_63 (.int .u32 10000)) w fun t_93 w =>
      pvv prog (binOp .quo 95 t_92 (.int .u32 100)) w fun t_94 w =>
      pvv prog (binOp .mul 95 t_94 (.int .u32 2)) w fun t_95 w =>
      pvv prog (binOp .rem 95 t_92 (.int .u32 100)) w fun t_96 w =>
      pvv prog (binOp .mul 95 t_96 (.int .u32 2)) w fun t_97 w =>
      dr w fun w =>
      pvv prog (binOp .sub 3 nd_2 (.int .i64 1)) w fun t_98 w =>
      pvv prog (binOp .sub 3 nd_2 (.int .i64 2)) w fun t_99 w =>
      pvv prog (binOp .add 95 t_97 (.int .u32 1)) w fun t_100 w =>
      pvv prog (Instr.index 9 (.string ⟨#[48, 48, 48, 49, 48, 50, 48, 51, 48, 52, 48, 53, 48, 54, 48, 55, 48, 56, 48, 57, 49, 48, 49, 49, 49, 50, 49, 51, 49, 52, 49, 53, 49, 54, 49, 55, 49, 56, 49, 57, 50, 48, 50, 49, 50, 50, 50, 51, 50, 52, 50, 53, 50, 54, 50, 55, 50, 56, 50, 57, 51, 48, 51, 49, 51, 50, 51, 51, 51, 52, 51, 53, 51, 54, 51, 55, 51, 56, 51, 57, 52, 48, 52, 49, 52, 50, 52, 51, 52, 52, 52, 53, 52, 54, 52, 55, 52, 56, 52, 57, 53, 48, 53, 49, 53, 50, 53, 51, 53, 52, 53, 53, 53, 54, 53, 55, 53, 56, 53, 57, 54, 48, 54, 49, 54, 50, 54, 51, 54, 52, 54, 53, 54, 54, 54, 55, 54, 56, 54, 57, 55, 48, 55, 49, 55, 50, 55, 51, 55, 52, 55, 53, 55, 54, 55, 55, 55, 56, 55, 57, 56, 48, 56, 49, 56, 50, 56, 51, 56, 52, 56, 53, 56, 54, 56, 55, 56, 56, 56, 57, 57, 48, 57, 49, 57, 50, 57, 51, 57, 52, 57, 53, 57, 54, 57, 55, 57, 56, 57, 57]⟩) t_100) w fun t_101 w =>
      pvv prog (Instr.index 9 (.string ⟨#[48, 48, 48, 49, 48, 50, 48, 51, 48, 52, 48, 53, 48, 54, 48, 55, 48, 56, 48, 57, 49, 48, 49, 49, 49, 50, 49, 51, 49, 52, 49, 53, 49, 54, 49, 55, 49, 56, 49, 57, 50, 48, 50, 49, 50, 50, 50, 51, 50, 52, 50, 53, 50, 54, 50, 55, 50, 56, 50, 57, 51, 48, 51, 49, 51, 50, 51, 51, 51, 52, 51, 53, 51, 54, 51, 55, 51, 56, 51, 57, 52, 48, 52, 49, 52, 50, 52, 51, 52, 52, 52, 53, 52, 54, 52, 55, 52, 56, 52, 57, 53, 48, 53, 49, 53, 50, 53, 51, 53, 52, 53, 53, 53, 54, 53, 55, 53, 56, 53, 57, 54, 48, 54, 49, 54, 50, 54, 51, 54, 52, 54, 53, 54, 54, 54, 55, 54, 56, 54, 57, 55, 48, 55, 49, 55, 50, 55, 51, 55, 52, 55, 53, 55, 54, 55, 55, 55, 56, 55, 57, 56, 48, 56, 49, 56, 50, 56, 51, 56, 52, 56, 53, 56, 54, 56, 55, 56, 56, 56, 57, 57, 48, 57, 49, 57, 50, 57, 51, 57, 52, 57, 53, 57, 54, 57, 55, 57, 56, 57, 57]⟩) t_97) w fun t_102 w =>
      pvv prog (Instr.indexAt 120 a_p0 t_98) w fun t_103 w =>
      efu prog (Instr.storeAt 5 t_103 t_101) w fun u_104 w =>
      pvv prog (Instr.indexAt 120 a_p0 t_99) w fun t_105 w =>
      efu prog (Instr.storeAt 5 t_105 t_102) w fun u_106 w =>
      dr w fun w =>
      pvv prog (binOp .sub 3 nd_2 (.int .i64 3)) w fun t_107 w =>
      pvv prog (binOp .sub 3 nd_2 (.int .i64 4)) w fun t_108 w =>
      pvv prog (binOp .add 95 t_95 (.int .u32 1)) w fun t_109 w =>
      pvv prog (Instr.index 9 (.string ⟨#[48, 48, 48, 49, 48, 50, 48, 51, 48, 52, 48, 53, 48, 54, 48, 55, 48, 56, 48, 57, 49, 48, 49, 49, 49, 50, 49, 51, 49, 52, 49, 53, 49, 54, 49, 55, 49, 56, 49, 57, 50, 48, 50, 49, 50, 50, 50, 51, 50, 52, 50, 53, 50, 54, 50, 55, 50, 56, 50, 57, 51, 48, 51, 49, 51, 50, 51, 51, 51, 52, 51, 53, 51, 54, 51, 55, 51, 56, 51, 57, 52, 48, 52, 49, 52, 50, 52, 51, 52, 52, 52, 53, 52, 54, 52, 55, 52, 56, 52, 57, 53, 48, 53, 49, 53, 50, 53, 51, 53, 52, 53, 53, 53, 54, 53, 55, 53, 56, 53, 57, 54, 48, 54, 49, 54, 50, 54, 51, 54, 52, 54, 53, 54, 54, 54, 55, 54, 56, 54, 57, 55, 48, 55, 49, 55, 50, 55, 51, 55, 52, 55, 53, 55, 54, 55, 55, 55, 56, 55, 57, 56, 48, 56, 49, 56, 50, 56, 51, 56, 52, 56, 53, 56, 54, 56, 55, 56, 56, 56, 57, 57, 48, 57, 49, 57, 50, 57, 51, 57, 52, 57, 53, 57, 54, 57, 55, 57, 56, 57, 57]⟩) t_109) w fun t_110 w =>
      pvv prog (Instr.index 9 (.string ⟨#[48, 48, 48, 49, 48, 50, 48, 51, 48, 52, 48, 53, 48, 54, 48, 55, 48, 56, 48, 57, 49, 48, 49, 49, 49, 50, 49, 51, 49, 52, 49, 53, 49, 54, 49, 55, 49, 56, 49, 57, 50, 48, 50, 49, 50, 50, 50, 51, 50, 52, 50, 53, 50, 54, 50, 55, 50, 56, 50, 57, 51, 48, 51, 49, 51, 50, 51, 51, 51, 52, 51, 53, 51, 54, 51, 55, 51, 56, 51, 57, 52, 48, 52, 49, 52, 50, 52, 51, 52, 52, 52, 53, 52, 54, 52, 55, 52, 56, 52, 57, 53, 48, 53, 49, 53, 50, 53, 51, 53, 52, 53, 53, 53, 54, 53, 55, 53, 56, 53, 57, 54, 48, 54, 49, 54, 50, 54, 51, 54, 52, 54, 53, 54, 54, 54, 55, 54, 56, 54, 57, 55, 48, 55, 49, 55, 50, 55, 51, 55, 52, 55, 53, 55, 54, 55, 55, 55, 56, 55, 57, 56, 48, 56, 49, 56, 50, 56, 51, 56, 52, 56, 53, 56, 54, 56, 55, 56, 56, 56, 57, 57, 48, 57, 49, 57, 50, 57, 51, 57, 52, 57, 53, 57, 54, 57, 55, 57, 56, 57, 57]⟩) t_95) w fun t_111 w =>
      pvv prog (Instr.indexAt 120 a_p0 t_107) w fun t_112 w =>
      efu prog (Instr.storeAt 5 t_112 t_110) w fun u_113 w =>
      pvv prog (Instr.indexAt 120 a_p0 t_108) w fun t_114 w =>
      efu prog (Instr.storeAt 5 t_114 t_111) w fun u_115 w =>
      pvv prog (binOp .sub 3 nd_2 (.int .i64 4)) w fun t_116 w =>
      k_90 [t_116, t_93] w) <|
    k_90 [nd_2, t_63] w) [u_p1, t_0] w
theorem B89_eq (a_p0 u_p1 : Value) (w : World) (K : Value → World → Prop) : denFn prog Tryz.f89 T89 [a_p0, u_p1] w K = B89 a_p0 u_p1 w K := by kernel_rfl
theorem c89 {a_p0 u_p1 : Value} {w : World} {K : Value → World → Prop} (h : B89 a_p0 u_p1 w K) : Calls prog 89 #[a_p0, u_p1] w (Ret K) :=
  denFn_calls Tryz.func89 T89_ok (Eq.mpr (B89_eq a_p0 u_p1 w K) h)

-- 132 gosem.cut.vars
def T132 : Ann := (.seq .none (.seq .none (.seq .none .none)))
theorem T132_ok : chkFn prog Tryz.f132 T132 = true := by kernel_rfl
def B132 (w : World) (K : Value → World → Prop) : Prop :=
  pvv prog (Instr.build 139 #[(0, (.int .u8 0)), (1, (.int .u8 1)), (2, (.int .u8 28)), (3, (.int .u8 2)), (4, (.int .u8 29)), (5, (.int .u8 14)), (6, (.int .u8 24)), (7, (.int .u8 3)), (8, (.int .u8 30)), (9, (.int .u8 22)), (10, (.int .u8 20)), (11, (.int .u8 15)), (12, (.int .u8 25)), (13, (.int .u8 17)), (14, (.int .u8 4)), (15, (.int .u8 8)), (16, (.int .u8 31)), (17, (.int .u8 27)), (18, (.int .u8 13)), (19, (.int .u8 23)), (20, (.int .u8 21)), (21, (.int .u8 19)), (22, (.int .u8 16)), (23, (.int .u8 7)), (24, (.int .u8 26)), (25, (.int .u8 12)), (26, (.int .u8 18)), (27, (.int .u8 6)), (28, (.int .u8 11)), (29, (.int .u8 5)), (30, (.int .u8 10)), (31, (.int .u8 9))]) w fun t_0 w =>
  efu prog (Instr.storeAt 139 (.pointer (some ⟨4, 0, none⟩)) t_0) w fun u_1 w =>
  pvv prog (Instr.build 140 #[(0, (.int .u8 0)), (1, (.int .u8 1)), (2, (.int .u8 56)), (3, (.int .u8 2)), (4, (.int .u8 57)), (5, (.int .u8 49)), (6, (.int .u8 28)), (7, (.int .u8 3)), (8, (.int .u8 61)), (9, (.int .u8 58)), (10, (.int .u8 42)), (11, (.int .u8 50)), (12, (.int .u8 38)), (13, (.int .u8 29)), (14, (.int .u8 17)), (15, (.int .u8 4)), (16, (.int .u8 62)), (17, (.int .u8 47)), (18, (.int .u8 59)), (19, (.int .u8 36)), (20, (.int .u8 45)), (21, (.int .u8 43)), (22, (.int .u8 51)), (23, (.int .u8 22)), (24, (.int .u8 53)), (25, (.int .u8 39)), (26, (.int .u8 33)), (27, (.int .u8 30)), (28, (.int .u8 24)), (29, (.int .u8 18)), (30, (.int .u8 12)), (31, (.int .u8 5)), (32, (.int .u8 63)), (33, (.int .u8 55)), (34, (.int .u8 48)), (35, (.int .u8 27)), (36, (.int .u8 60)), (37, (.int .u8 41)), (38, (.int .u8 37)), (39, (.int .u8 16)), (40, (.int .u8 46)), (41, (.int .u8 35)), (42, (.int .u8 44)), (43, (.int .u8 21)), (44, (.int .u8 52)), (45, (.int .u8 32)), (46, (.int .u8 23)), (47, (.int .u8 11)), (48, (.int .u8 54)), (49, (.int .u8 26)), (50, (.int .u8 40)), (51, (.int .u8 15)), (52, (.int .u8 34)), (53, (.int .u8 20)), (54, (.int .u8 31)), (55, (.int .u8 10)), (56, (.int .u8 25)), (57, (.int .u8 14)), (58, (.int .u8 19)), (59, (.int .u8 9)), (60, (.int .u8 13)), (61, (.int .u8 8)), (62, (.int .u8 7)), (63, (.int .u8 6))]) w fun t_2 w =>
  efu prog (Instr.storeAt 140 (.pointer (some ⟨5, 0, none⟩)) t_2) w fun u_3 w =>
  pvv prog (Instr.build 136 #[(0, (.int .u64 1)), (1, (.int .u64 10)), (2, (.int .u64 100)), (3, (.int .u64 1000)), (4, (.int .u64 10000)), (5, (.int .u64 100000)), (6, (.int .u64 1000000)), (7, (.int .u64 10000000)), (8, (.int .u64 100000000)), (9, (.int .u64 1000000000)), (10, (.int .u64 10000000000)), (11, (.int .u64 100000000000)), (12, (.int .u64 1000000000000)), (13, (.int .u64 10000000000000)), (14, (.int .u64 100000000000000)), (15, (.int .u64 1000000000000000)), (16, (.int .u64 10000000000000000)), (17, (.int .u64 100000000000000000)), (18, (.int .u64 1000000000000000000)), (19, (.int .u64 10000000000000000000))]) w fun t_4 w =>
  efu prog (Instr.storeAt 136 (.pointer (some ⟨2, 0, none⟩)) t_4) w fun u_5 w =>
  pvv prog (Instr.build 128 #[(0, (.int .u8 128)), (1, (.int .u8 191))]) w fun t_6 w =>
  pvv prog (Instr.build 128 #[(0, (.int .u8 160)), (1, (.int .u8 191))]) w fun t_7 w =>
  pvv prog (Instr.build 128 #[(0, (.int .u8 128)), (1, (.int .u8 159))]) w fun t_8 w =>
  pvv prog (Instr.build 128 #[(0, (.int .u8 144)), (1, (.int .u8 191))]) w fun t_9 w =>
  pvv prog (Instr.build 128 #[(0, (.int .u8 128)), (1, (.int .u8 143))]) w fun t_10 w =>
  pvv prog (Instr.build 129 #[(0, t_6), (1, t_7), (2, t_8), (3, t_9), (4, t_10)]) w fun t_11 w =>
  efu prog (Instr.storeAt 129 (.pointer (some ⟨1, 0, none⟩)) t_11) w fun u_12 w =>
  K (.tuple #[]) w
theorem B132_eq (w : World) (K : Value → World → Prop) : denFn prog Tryz.f132 T132 [] w K = B132  w K := by kernel_rfl
theorem c132 {w : World} {K : Value → World → Prop} (h : B132  w K) : Calls prog 132 #[] w (Ret K) :=
  denFn_calls Tryz.func132 T132_ok (Eq.mpr (B132_eq  w K) h)

-- 51 slices.insertionSortCmpFunc[holdfast/api.Row]
def T51 : Ann := (.seq .none (.block (.loop 9007199254737664 [8] (.seq (.seq .none (.seq .none .none)) (.seq (.block (.seq .none (.block (.loop 9007199254479360 [9] (.seq (.seq (.draw [.op 0 .pure, .op 1 .pure, .op 2 .pure, .op 3 .pure, .op 4 .pure, .op 5 .pure, .op 6 .pure, .op 7 .pure, .op 9 .pure, .op 10 .pure, .op 11 .pure, .op 12 .pure, .op 8 .load, .op 13 .load, .op 14 .eff, .op 15 .pure, .op 16 .pure]) (.seq .none .none)) (.seq (.block (.draw [.op 0 .pure, .op 1 .pure, .op 2 .pure, .op 3 .pure, .op 4 .pure, .op 5 .pure, .op 6 .pure, .op 7 .pure, .op 8 .pure, .op 10 .pure, .op 11 .pure, .op 12 .pure, .op 9 .load, .op 13 .load, .op 14 .pure, .op 15 .eff, .op 16 .pure, .op 17 .eff])) .none)))))) .none)))))
theorem T51_ok : chkFn prog Tryz.f51 T51 = true := by kernel_rfl
def B51 (data_p0 a_p1 b_p2 cmp_p3 : Value) (w : World) (K : Value → World → Prop) : Prop :=
  pvv prog (binOp .add 3 a_p1 (.int .i64 1)) w fun t_0 w =>
  lp (fun σ w again_2 => pop σ fun i_1 σ => fin σ <|
    pvv prog (binOp .lss 3 i_1 b_p2) w fun t_3 w =>
    cd t_3 (
      lp (fun σ w again_5 => pop σ fun j_4 σ => fin σ <|
        dr w fun w =>
        pvv prog (binOp .gtr 3 j_4 a_p1) w fun t_6 w =>
        gate (some (t_6, true)) (fun K => K cmp_p3 w) w fun t_7 w =>
        gate (some (t_6, true)) (fun K => K data_p0 w) w fun t_8 w =>
        gate (some (t_6, true)) (fun K => K j_4 w) w fun t_9 w =>
        gate (some (t_6, true)) (fun K => pvv prog (Instr.indexAt 40 t_8 t_9) w K) w fun t_10 w =>
        gate (some (t_6, true)) (fun K => K data_p0 w) w fun t_11 w =>
        gate (some (t_6, true)) (fun K => K j_4 w) w fun t_12 w =>
        gate (some (t_6, true)) (fun K => pvv prog (binOp .sub 3 t_12 (.int .i64 1)) w K) w fun t_13 w =>
        gate (some (t_6, true)) (fun K => pvv prog (Instr.indexAt 40 t_11 t_13) w K) w fun t_14 w =>
        bindS (vN (Instr.loadAt 58 t_10)) fun m_16 => gate (some (t_6, true)) (fun K => ldv prog (Instr.loadAt 58 t_10) w K) w fun t_15 w =>
        bindS (vN (Instr.loadAt 58 t_14)) fun m_18 => gate (some (t_6, true)) (fun K => ldv prog (Instr.loadAt 58 t_14) w K) w fun t_17 w =>
        gate (some (t_6, true)) (fun K => ef prog (oCall t_7 #[t_15, t_17]) w fun s_38 w => K s_38 w) w fun t_19 w =>
        gate (some (t_6, true)) (fun K => pvv prog (binOp .lss 3 t_19 (.int .i64 0)) w K) w fun t_20 w =>
        pv prog (oPick t_6 t_20 (.bool false)) w fun t_21 w =>
        cd t_21 (
          dr w fun w =>
          pvv prog (binOp .sub 3 j_4 (.int .i64 1)) w fun t_22 w =>
          pvv prog (binOp .sub 3 j_4 (.int .i64 1)) w fun t_23 w =>
          pvv prog (Instr.indexAt 40 data_p0 t_23) w fun t_24 w =>
          pvv prog (Instr.indexAt 40 data_p0 j_4) w fun t_25 w =>
          bindS (vN (Instr.loadAt 58 t_24)) fun m_27 => ldv prog (Instr.loadAt 58 t_24) w fun t_26 w =>
          bindS (vN (Instr.loadAt 58 t_25)) fun m_29 => ldv prog (Instr.loadAt 58 t_25) w fun t_28 w =>
          pvv prog (Instr.indexAt 40 data_p0 j_4) w fun t_30 w =>
          efu prog (Instr.storeAt 58 t_30 t_26) w fun u_31 w =>
          pvv prog (Instr.indexAt 40 data_p0 t_22) w fun t_32 w =>
          efu prog (Instr.storeAt 58 t_32 t_28) w fun u_33 w =>
          pvv prog (binOp .sub 3 j_4 (.int .i64 1)) w fun t_34 w =>
          again_5 [t_34] w) <|
        pvv prog (binOp .add 3 i_1 (.int .i64 1)) w fun t_37 w =>
        again_2 [t_37] w) [i_1] w) <|
    K (.tuple #[]) w) [t_0] w
theorem B51_eq (data_p0 a_p1 b_p2 cmp_p3 : Value) (w : World) (K : Value → World → Prop) : denFn prog Tryz.f51 T51 [data_p0, a_p1, b_p2, cmp_p3] w K = B51 data_p0 a_p1 b_p2 cmp_p3 w K := by kernel_rfl
theorem c51 {data_p0 a_p1 b_p2 cmp_p3 : Value} {w : World} {K : Value → World → Prop} (h : B51 data_p0 a_p1 b_p2 cmp_p3 w K) : Calls prog 51 #[data_p0, a_p1, b_p2, cmp_p3] w (Ret K) :=
  denFn_calls Tryz.func51 T51_ok (Eq.mpr (B51_eq data_p0 a_p1 b_p2 cmp_p3 w K) h)

-- 64 unicode/utf8.DecodeLastRuneInString
def T64 : Ann := (.seq .none (.seq .none (.seq (.seq .none (.seq (.seq .none .none) .none)) (.seq .none (.seq .none (.seq (.seq .none (.seq (.seq .none .none) .none)) (.seq .none (.meet 17171480608 [5] (.seq .none (.block (.loop 17146314784 [5] (.seq (.seq .none (.seq .none .none)) (.seq (.block (.seq .none (.seq .none .none))) .none))))) (.meet 51539607584 [5] (.seq .none (.seq .none .none)) (.seq .none (.seq (.seq .none (.seq (.seq .none .none) .none)) (.seq .none .none))))))))))))
theorem T64_ok : chkFn prog Tryz.f64 T64 = true := by kernel_rfl
def B64 (s_p0 : Value) (w : World) (K : Value → World → Prop) : Prop :=
  pv prog (oBi .len #[9] 3 #[false] #[s_p0]) w fun t_0 w =>
  pvv prog (oEq .eql 3 (.tmp 9) (.const (.int .i64 0)) t_0 (.int .i64 0)) w fun t_1 w =>
  cd t_1 (
    K (.tuple #[(.int .i32 65533), (.int .i64 0)]) w) <|
  pvv prog (binOp .sub 3 t_0 (.int .i64 1)) w fun t_2 w =>
  pvv prog (Instr.index 9 s_p0 t_2) w fun t_3 w =>
  pvv prog (convert 5 21 t_3) w fun t_4 w =>
  pvv prog (binOp .lss 21 t_4 (.int .i32 128)) w fun t_5 w =>
  cd t_5 (
    K (.tuple #[t_4, (.int .i64 1)]) w) <|
  pvv prog (binOp .sub 3 t_0 (.int .i64 4)) w fun t_6 w =>
  pv prog (oBi .max #[3, 3] 3 #[false, true] #[t_6, (.int .i64 0)]) w fun t_7 w =>
  jn (fun σ w => pop σ fun start_8 σ => fin σ <|
    jn (fun σ w => pop σ fun start_9 σ => fin σ <|
      pvv prog (Instr.sliceAt 9 s_p0 (some start_9) (some t_0) none) w fun t_10 w =>
      Calls prog 62 #[t_10] w (Ret fun t_11 w =>
      pvv prog (Instr.extract t_11 0) w fun t_12 w =>
      pvv prog (Instr.extract t_11 1) w fun t_13 w =>
      pvv prog (binOp .add 3 start_9 t_13) w fun t_14 w =>
      pvv prog (oEq .neq 3 (.tmp 46) (.tmp 47) t_14 t_0) w fun t_15 w =>
      cd t_15 (
        K (.tuple #[(.int .i32 65533), (.int .i64 1)]) w) <|
      K (.tuple #[t_12, t_13]) w)) fun k_16 =>
    pvv prog (binOp .lss 3 start_8 (.int .i64 0)) w fun t_17 w =>
    cd t_17 (
      k_16 [(.int .i64 0)] w) <|
    k_16 [start_8] w) fun k_18 =>
  pvv prog (binOp .sub 3 t_2 (.int .i64 1)) w fun t_19 w =>
  lp (fun σ w again_21 => pop σ fun start_20 σ => fin σ <|
    pvv prog (binOp .geq 3 start_20 t_7) w fun t_22 w =>
    cd t_22 (
      pvv prog (Instr.index 9 s_p0 start_20) w fun t_23 w =>
      Calls prog 76 #[t_23] w (Ret fun t_24 w =>
      cd t_24 (
        k_18 [start_20] w) <|
      pvv prog (binOp .sub 3 start_20 (.int .i64 1)) w fun t_25 w =>
      again_21 [t_25] w)) <|
    k_18 [start_20] w) [t_19] w
theorem B64_eq (s_p0 : Value) (w : World) (K : Value → World → Prop) : denFn prog Tryz.f64 T64 [s_p0] w K = B64 s_p0 w K := by kernel_rfl
theorem c64 {s_p0 : Value} {w : World} {K : Value → World → Prop} (h : B64 s_p0 w K) : Calls prog 64 #[s_p0] w (Ret K) :=
  denFn_calls Tryz.func64 T64_ok (Eq.mpr (B64_eq s_p0 w K) h)

-- 60 math/bits.Len64
def T60 : Ann := (.seq .none (.meet 125 [0, 2] (.seq .none (.seq (.seq .none .none) .none)) (.meet 8069 [0, 2] (.seq .none (.seq (.seq .none .none) .none)) (.meet 516101 [0, 2] (.seq .none (.seq (.seq .none .none) .none)) (.seq .none .none)))))
theorem T60_ok : chkFn prog Tryz.f60 T60 = true := by kernel_rfl
def B60 (x_p0 : Value) (w : World) (K : Value → World → Prop) : Prop :=
  jn (fun σ w => pop σ fun x_0 σ => pop σ fun n_1 σ => fin σ <|
    jn (fun σ w => pop σ fun x_2 σ => pop σ fun n_3 σ => fin σ <|
      jn (fun σ w => pop σ fun x_4 σ => pop σ fun n_5 σ => fin σ <|
        pvv prog (convert 97 5 x_4) w fun t_6 w =>
        pvv prog (Instr.index 9 (.string ⟨#[0, 1, 2, 2, 3, 3, 3, 3, 4, 4, 4, 4, 4, 4, 4, 4, 5, 5, 5, 5, 5, 5, 5, 5, 5, 5, 5, 5, 5, 5, 5, 5, 6, 6, 6, 6, 6, 6, 6, 6, 6, 6, 6, 6, 6, 6, 6, 6, 6, 6, 6, 6, 6, 6, 6, 6, 6, 6, 6, 6, 6, 6, 6, 6, 7, 7, 7, 7, 7, 7, 7, 7, 7, 7, 7, 7, 7, 7, 7, 7, 7, 7, 7, 7, 7, 7, 7, 7, 7, 7, 7, 7, 7, 7, 7, 7, 7, 7, 7, 7, 7, 7, 7, 7, 7, 7, 7, 7, 7, 7, 7, 7, 7, 7, 7, 7, 7, 7, 7, 7, 7, 7, 7, 7, 7, 7, 7, 7, 8, 8, 8, 8, 8, 8, 8, 8, 8, 8, 8, 8, 8, 8, 8, 8, 8, 8, 8, 8, 8, 8, 8, 8, 8, 8, 8, 8, 8, 8, 8, 8, 8, 8, 8, 8, 8, 8, 8, 8, 8, 8, 8, 8, 8, 8, 8, 8, 8, 8, 8, 8, 8, 8, 8, 8, 8, 8, 8, 8, 8, 8, 8, 8, 8, 8, 8, 8, 8, 8, 8, 8, 8, 8, 8, 8, 8, 8, 8, 8, 8, 8, 8, 8, 8, 8, 8, 8, 8, 8, 8, 8, 8, 8, 8, 8, 8, 8, 8, 8, 8, 8, 8, 8, 8, 8, 8, 8, 8, 8, 8, 8, 8, 8, 8, 8, 8, 8, 8, 8, 8, 8, 8, 8, 8, 8, 8, 8]⟩) t_6) w fun t_7 w =>
        pvv prog (convert 5 3 t_7) w fun t_8 w =>
        pvv prog (binOp .add 3 n_5 t_8) w fun t_9 w =>
        K t_9 w) fun k_10 =>
      pvv prog (binOp .geq 97 x_2 (.int .u64 256)) w fun t_11 w =>
      cd t_11 (
        pvv prog (binOp .shr 97 x_2 (.int .u64 8)) w fun t_12 w =>
        pvv prog (binOp .add 3 n_3 (.int .i64 8)) w fun t_13 w =>
        k_10 [t_12, t_13] w) <|
      k_10 [x_2, n_3] w) fun k_14 =>
    pvv prog (binOp .geq 97 x_0 (.int .u64 65536)) w fun t_15 w =>
    cd t_15 (
      pvv prog (binOp .shr 97 x_0 (.int .u64 16)) w fun t_16 w =>
      pvv prog (binOp .add 3 n_1 (.int .i64 16)) w fun t_17 w =>
      k_14 [t_16, t_17] w) <|
    k_14 [x_0, n_1] w) fun k_18 =>
  pvv prog (binOp .geq 97 x_p0 (.int .u64 4294967296)) w fun t_19 w =>
  cd t_19 (
    pvv prog (binOp .shr 97 x_p0 (.int .u64 32)) w fun t_20 w =>
    k_18 [t_20, (.int .i64 32)] w) <|
  k_18 [x_p0, (.int .i64 0)] w
theorem B60_eq (x_p0 : Value) (w : World) (K : Value → World → Prop) : denFn prog Tryz.f60 T60 [x_p0] w K = B60 x_p0 w K := by kernel_rfl
theorem c60 {x_p0 : Value} {w : World} {K : Value → World → Prop} (h : B60 x_p0 w K) : Calls prog 60 #[x_p0] w (Ret K) :=
  denFn_calls Tryz.func60 T60_ok (Eq.mpr (B60_eq x_p0 w K) h)

-- 16 (*holdfast/session.Table).find
def T16 : Ann := (.seq .none (.seq (.seq .none (.seq (.seq .none .none) .none)) (.seq .none (.seq (.seq .none (.seq (.seq .none .none) .none)) (.seq .none .none)))))
theorem T16_ok : chkFn prog Tryz.f16 T16 = true := by kernel_rfl
def B16 (t_p0 id_p1 : Value) (w : World) (K : Value → World → Prop) : Prop :=
  efv prog (Instr.alloc 26 true (.tuple #[])) w fun t_0 w =>
  pvv prog (binOp .lss 3 id_p1 (.int .i64 1)) w fun t_1 w =>
  gate (some (t_1, false)) (fun K => K id_p1 w) w fun t_2 w =>
  gate (some (t_1, false)) (fun K => K t_p0 w) w fun t_3 w =>
  gate (some (t_1, false)) (fun K => pv prog (oNil t_3) w K) w fun t_4 w =>
  gate (some (t_1, false)) (fun K => pvv prog (Instr.fieldAt 49 t_4 1) w K) w fun t_5 w =>
  gate (some (t_1, false)) (fun K => ldv prog (Instr.loadAt 3 t_5) w K) w fun t_6 w =>
  gate (some (t_1, false)) (fun K => pvv prog (binOp .geq 3 t_2 t_6) w K) w fun t_7 w =>
  pv prog (oPick t_1 (.bool true) t_7) w fun t_8 w =>
  cd t_8 (
    pvv prog (Instr.build 26 #[]) w fun t_9 w =>
    efu prog (Instr.storeAt 26 t_0 t_9) w fun u_10 w =>
    ∃ r_11, (do loadVar 26 (← asAddr t_0)).run prog w = .ok r_11 w ∧ K (.tuple #[r_11, (.int .i64 4)]) w) <|
  pv prog (oNil t_p0) w fun t_12 w =>
  pvv prog (Instr.fieldAt 49 t_12 2) w fun t_13 w =>
  ldv prog (Instr.loadAt 47 t_13) w fun t_14 w =>
  ldv prog (Instr.lookup 47 t_14 id_p1 true) w fun t_15 w =>
  pvv prog (Instr.extract t_15 0) w fun t_16 w =>
  pvv prog (Instr.extract t_15 1) w fun t_17 w =>
  efv prog (Instr.alloc 26 true (.tuple #[])) w fun s_18 w =>
  efu prog (Instr.storeAt 26 s_18 t_16) w fun u_19 w =>
  pvv prog (Op.unary .not t_17) w fun t_20 w =>
  cd t_20 (
    pvv prog (Instr.build 26 #[]) w fun t_21 w =>
    efu prog (Instr.storeAt 26 t_0 t_21) w fun u_22 w =>
    ∃ r_23, (do loadVar 26 (← asAddr t_0)).run prog w = .ok r_23 w ∧ K (.tuple #[r_23, (.int .i64 12)]) w) <|
  ldv prog (Instr.loadAt 26 s_18) w fun t_24 w =>
  efu prog (Instr.storeAt 26 t_0 t_24) w fun u_25 w =>
  ∃ r_26, (do loadVar 26 (← asAddr t_0)).run prog w = .ok r_26 w ∧ K (.tuple #[r_26, (.int .i64 0)]) w
theorem B16_eq (t_p0 id_p1 : Value) (w : World) (K : Value → World → Prop) : denFn prog Tryz.f16 T16 [t_p0, id_p1] w K = B16 t_p0 id_p1 w K := by kernel_rfl
theorem c16 {t_p0 id_p1 : Value} {w : World} {K : Value → World → Prop} (h : B16 t_p0 id_p1 w K) : Calls prog 16 #[t_p0, id_p1] w (Ret K) :=
  denFn_calls Tryz.func16 T16_ok (Eq.mpr (B16_eq t_p0 id_p1 w K) h)

-- 19 (*holdfast/session.Table).all
def T19 : Ann := (.seq .none (.seq .none (.seq (.seq .none (.block (.loop 137438920864 [5, 15] (.seq .none (.seq (.seq .none .none) (.meet 68719345824 [5] (.block (.seq .none (.seq .none (.seq .none .none)))) .none)))))) (.seq .none .none))))
theorem T19_ok : chkFn prog Tryz.f19 T19 = true := by kernel_rfl
def B19 (t_p0 is_p1 : Value) (w : World) (K : Value → World → Prop) : Prop :=
  pv prog (oNil t_p0) w fun t_0 w =>
  pvv prog (Instr.fieldAt 49 t_0 2) w fun t_1 w =>
  ldv prog (Instr.loadAt 47 t_1) w fun t_2 w =>
  Calls prog 33 #[t_2] w (Ret fun t_3 w =>
  Calls prog 32 #[t_3] w (Ret fun t_4 w =>
  pv prog (oBi .len #[31] 3 #[false] #[t_4]) w fun t_5 w =>
  lp (fun σ w again_8 => pop σ fun out_6 σ => pop σ fun t_7 σ => fin σ <|
    pvv prog (binOp .lss 3 t_7 t_5) w fun t_9 w =>
    cd t_9 (
      jn (fun σ w => pop σ fun out_10 σ => fin σ <|
        pvv prog (binOp .add 3 t_7 (.int .i64 1)) w fun t_11 w =>
        again_8 [out_10, t_11] w) fun k_12 =>
      pvv prog (Instr.indexAt 31 t_4 t_7) w fun t_13 w =>
      ldv prog (Instr.loadAt 3 t_13) w fun t_14 w =>
      pv prog (oNil t_p0) w fun t_15 w =>
      pvv prog (Instr.fieldAt 49 t_15 2) w fun t_16 w =>
      ldv prog (Instr.loadAt 47 t_16) w fun t_17 w =>
      ldv prog (Instr.lookup 47 t_17 t_14 false) w fun t_18 w =>
      ef prog (oCall is_p1 #[t_18]) w fun t_19 w =>
      cd t_19 (
        pv prog (oNil t_p0) w fun t_20 w =>
        pvv prog (Instr.fieldAt 49 t_20 2) w fun t_21 w =>
        ldv prog (Instr.loadAt 47 t_21) w fun t_22 w =>
        ldv prog (Instr.lookup 47 t_22 t_14 false) w fun t_23 w =>
        efv prog (Instr.buildSlice 34 1 #[(0, t_23)]) w fun t_24 w =>
        ef prog (oBi .append #[34, 34] 34 #[false, false] #[out_6, t_24]) w fun t_25 w =>
        k_12 [t_25] w) <|
      k_12 [out_6] w) <|
    K out_6 w) [(.slice none 0 0), (.int .i64 0)] w))
theorem B19_eq (t_p0 is_p1 : Value) (w : World) (K : Value → World → Prop) : denFn prog Tryz.f19 T19 [t_p0, is_p1] w K = B19 t_p0 is_p1 w K := by kernel_rfl
theorem c19 {t_p0 is_p1 : Value} {w : World} {K : Value → World → Prop} (h : B19 t_p0 is_p1 w K) : Calls prog 19 #[t_p0, is_p1] w (Ret K) :=
  denFn_calls Tryz.func19 T19_ok (Eq.mpr (B19_eq t_p0 is_p1 w K) h)

-- 75 strings.IndexRune
def T75 : Ann := (.seq .none (.block (.seq .none (.seq (.seq .none .none) (.seq .none (.seq (.seq (.seq .none (.block (.loop 12164183355622992813219379528005579144973741782332342384 [] (.seq .none (.seq (.seq .none .none) (.block (.seq .none (.seq .none (.seq (.seq .none .none) .none))))))))) (.seq .none .none)) (.seq .none (.seq (.seq .none .none) .none))))))))
theorem T75_ok : chkFn prog Tryz.f75 T75 = true := by kernel_rfl
def B75 (s_p0 r_p1 : Value) (w : World) (K : Value → World → Prop) : Prop :=
  pvv prog (binOp .leq 21 (.int .i32 0) r_p1) w fun t_0 w =>
  gate (some (t_0, true)) (fun K => K r_p1 w) w fun t_1 w =>
  gate (some (t_0, true)) (fun K => pvv prog (binOp .lss 21 t_1 (.int .i32 128)) w K) w fun t_2 w =>
  pv prog (oPick t_0 t_2 (.bool false)) w fun t_3 w =>
  cd t_3 (
    pvv prog (convert 21 5 r_p1) w fun t_4 w =>
    Calls prog 92 #[s_p0, t_4] w (Ret fun t_5 w =>
    K t_5 w)) <|
  pvv prog (oEq .eql 21 (.tmp 172) (.const (.int .i32 65533)) r_p1 (.int .i32 65533)) w fun t_6 w =>
  cd t_6 (
    efv prog (Instr.range 9 s_p0) w fun t_7 w =>
    lp (fun σ w again_8 => fin σ <|
      efv prog (Instr.next t_7 true 0) w fun t_9 w =>
      pvv prog (Instr.extract t_9 0) w fun t_10 w =>
      cd t_10 (
        pvv prog (Instr.extract t_9 1) w fun t_11 w =>
        pvv prog (Instr.extract t_9 2) w fun t_12 w =>
        pvv prog (oEq .eql 21 (.tmp 180) (.const (.int .i32 65533)) t_12 (.int .i32 65533)) w fun t_13 w =>
        cd t_13 (
          K t_11 w) <|
        again_8 [] w) <|
      K (.int .i64 (-1)) w) [] w) <|
  Calls prog 93 #[r_p1] w (Ret fun t_14 w =>
  pvv prog (Op.unary .not t_14) w fun t_15 w =>
  cd t_15 (
    K (.int .i64 (-1)) w) <|
  False)
theorem B75_eq (s_p0 r_p1 : Value) (w : World) (K : Value → World → Prop) : denFn prog Tryz.f75 T75 [s_p0, r_p1] w K = B75 s_p0 r_p1 w K := by kernel_rfl
theorem c75 {s_p0 r_p1 : Value} {w : World} {K : Value → World → Prop} (h : B75 s_p0 r_p1 w K) : Calls prog 75 #[s_p0, r_p1] w (Ret K) :=
  denFn_calls Tryz.func75 T75_ok (Eq.mpr (B75_eq s_p0 r_p1 w K) h)

-- 81 slices.reverseRangeOrdered[int]
def T81 : Ann := (.seq .none (.seq .none (.block (.loop 4294965440 [6, 7] (.seq (.seq .none (.seq .none .none)) (.block (.seq (.draw [.op 0 .pure, .op 1 .pure, .op 2 .pure, .op 3 .pure, .op 4 .pure, .op 5 .pure, .op 6 .pure, .op 8 .pure, .op 9 .pure, .op 10 .pure, .op 7 .load, .op 11 .load, .op 12 .pure, .op 13 .eff, .op 14 .pure, .op 15 .eff]) (.seq .none .none))))))))
theorem T81_ok : chkFn prog Tryz.f81 T81 = true := by kernel_rfl
def B81 (data_p0 a_p1 b_p2 : Value) (w : World) (K : Value → World → Prop) : Prop :=
  pvv prog (binOp .sub 3 b_p2 (.int .i64 1)) w fun t_0 w =>
  lp (fun σ w again_3 => pop σ fun i_1 σ => pop σ fun j_2 σ => fin σ <|
    pvv prog (binOp .lss 3 i_1 j_2) w fun t_4 w =>
    cd t_4 (
      dr w fun w =>
      pvv prog (Instr.indexAt 31 data_p0 j_2) w fun t_5 w =>
      pvv prog (Instr.indexAt 31 data_p0 i_1) w fun t_6 w =>
      bindS (vN (Instr.loadAt 3 t_5)) fun m_8 => ldv prog (Instr.loadAt 3 t_5) w fun t_7 w =>
      bindS (vN (Instr.loadAt 3 t_6)) fun m_10 => ldv prog (Instr.loadAt 3 t_6) w fun t_9 w =>
      pvv prog (Instr.indexAt 31 data_p0 i_1) w fun t_11 w =>
      efu prog (Instr.storeAt 3 t_11 t_7) w fun u_12 w =>
      pvv prog (Instr.indexAt 31 data_p0 j_2) w fun t_13 w =>
      efu prog (Instr.storeAt 3 t_13 t_9) w fun u_14 w =>
      pvv prog (binOp .add 3 i_1 (.int .i64 1)) w fun t_15 w =>
      pvv prog (binOp .sub 3 j_2 (.int .i64 1)) w fun t_16 w =>
      again_3 [t_15, t_16] w) <|
    K (.tuple #[]) w) [a_p1, t_0] w
theorem B81_eq (data_p0 a_p1 b_p2 : Value) (w : World) (K : Value → World → Prop) : denFn prog Tryz.f81 T81 [data_p0, a_p1, b_p2] w K = B81 data_p0 a_p1 b_p2 w K := by kernel_rfl
theorem c81 {data_p0 a_p1 b_p2 : Value} {w : World} {K : Value → World → Prop} (h : B81 data_p0 a_p1 b_p2 w K) : Calls prog 81 #[data_p0, a_p1, b_p2] w (Ret K) :=
  denFn_calls Tryz.func81 T81_ok (Eq.mpr (B81_eq data_p0 a_p1 b_p2 w K) h)

-- 43 strings.trimRightASCII
def T43 : Ann := (.seq .none (.meet 2097121 [0] (.block (.loop 2097121 [0] (.seq (.seq .none (.seq .none .none)) (.block (.seq (.seq .none (.seq .none .none)) .none))))) (.seq .none .none)))
theorem T43_ok : chkFn prog Tryz.f43 T43 = true := by kernel_rfl
def B43 (s_p0 as_p1 : Value) (w : World) (K : Value → World → Prop) : Prop :=
  jn (fun σ w => pop σ fun s_0 σ => fin σ <|
    K s_0 w) fun k_1 =>
  lp (fun σ w again_3 => pop σ fun s_2 σ => fin σ <|
    pv prog (oBi .len #[9] 3 #[false] #[s_2]) w fun t_4 w =>
    pvv prog (binOp .gtr 3 t_4 (.int .i64 0)) w fun t_5 w =>
    cd t_5 (
      pv prog (oBi .len #[9] 3 #[false] #[s_2]) w fun t_6 w =>
      pvv prog (binOp .sub 3 t_6 (.int .i64 1)) w fun t_7 w =>
      pvv prog (Instr.index 9 s_2 t_7) w fun t_8 w =>
      Calls prog 61 #[as_p1, t_8] w (Ret fun t_9 w =>
      pvv prog (Op.unary .not t_9) w fun t_10 w =>
      cd t_10 (
        k_1 [s_2] w) <|
      pv prog (oBi .len #[9] 3 #[false] #[s_2]) w fun t_11 w =>
      pvv prog (binOp .sub 3 t_11 (.int .i64 1)) w fun t_12 w =>
      pvv prog (Instr.sliceAt 9 s_2 none (some t_12) none) w fun t_13 w =>
      again_3 [t_13] w)) <|
    k_1 [s_2] w) [s_p0] w
theorem B43_eq (s_p0 as_p1 : Value) (w : World) (K : Value → World → Prop) : denFn prog Tryz.f43 T43 [s_p0, as_p1] w K = B43 s_p0 as_p1 w K := by kernel_rfl
theorem c43 {s_p0 as_p1 : Value} {w : World} {K : Value → World → Prop} (h : B43 s_p0 as_p1 w K) : Calls prog 43 #[s_p0, as_p1] w (Ret K) :=
  denFn_calls Tryz.func43 T43_ok (Eq.mpr (B43_eq s_p0 as_p1 w K) h)

-- 44 strings.trimLeftUnicode
def T44 : Ann := (.seq .none (.meet 4194273 [0] (.block (.loop 4194273 [0] (.seq (.seq .none (.seq .none .none)) (.block (.seq .none (.seq (.seq .none (.seq .none .none)) .none)))))) (.seq .none .none)))
theorem T44_ok : chkFn prog Tryz.f44 T44 = true := by kernel_rfl
def B44 (s_p0 cutset_p1 : Value) (w : World) (K : Value → World → Prop) : Prop :=
  jn (fun σ w => pop σ fun s_0 σ => fin σ <|
    K s_0 w) fun k_1 =>
  lp (fun σ w again_3 => pop σ fun s_2 σ => fin σ <|
    pv prog (oBi .len #[9] 3 #[false] #[s_2]) w fun t_4 w =>
    pvv prog (binOp .gtr 3 t_4 (.int .i64 0)) w fun t_5 w =>
    cd t_5 (
      Calls prog 62 #[s_2] w (Ret fun t_6 w =>
      pvv prog (Instr.extract t_6 0) w fun t_7 w =>
      pvv prog (Instr.extract t_6 1) w fun t_8 w =>
      Calls prog 63 #[cutset_p1, t_7] w (Ret fun t_9 w =>
      pvv prog (Op.unary .not t_9) w fun t_10 w =>
      cd t_10 (
        k_1 [s_2] w) <|
      pvv prog (Instr.sliceAt 9 s_2 (some t_8) none none) w fun t_11 w =>
      again_3 [t_11] w))) <|
    k_1 [s_2] w) [s_p0] w
theorem B44_eq (s_p0 cutset_p1 : Value) (w : World) (K : Value → World → Prop) : denFn prog Tryz.f44 T44 [s_p0, cutset_p1] w K = B44 s_p0 cutset_p1 w K := by kernel_rfl
theorem c44 {s_p0 cutset_p1 : Value} {w : World} {K : Value → World → Prop} (h : B44 s_p0 cutset_p1 w K) : Calls prog 44 #[s_p0, cutset_p1] w (Ret K) :=
  denFn_calls Tryz.func44 T44_ok (Eq.mpr (B44_eq s_p0 cutset_p1 w K) h)

-- 39 strings.trimLeftByte
def T39 : Ann := (.seq .none (.seq (.block (.loop 65505 [0] (.seq (.seq .none (.seq .none .none)) (.block .none)))) (.seq .none .none)))
theorem T39_ok : chkFn prog Tryz.f39 T39 = true := by kernel_rfl
def B39 (s_p0 c_p1 : Value) (w : World) (K : Value → World → Prop) : Prop :=
  lp (fun σ w again_1 => pop σ fun s_0 σ => fin σ <|
    pv prog (oBi .len #[9] 3 #[false] #[s_0]) w fun t_2 w =>
    pvv prog (binOp .gtr 3 t_2 (.int .i64 0)) w fun t_3 w =>
    gate (some (t_3, true)) (fun K => K s_0 w) w fun t_4 w =>
    gate (some (t_3, true)) (fun K => pvv prog (Instr.index 9 t_4 (.int .i64 0)) w K) w fun t_5 w =>
    gate (some (t_3, true)) (fun K => K c_p1 w) w fun t_6 w =>
    gate (some (t_3, true)) (fun K => pvv prog (oEq .eql 5 (.tmp 10) (.tmp 11) t_5 t_6) w K) w fun t_7 w =>
    pv prog (oPick t_3 t_7 (.bool false)) w fun t_8 w =>
    cd t_8 (
      pvv prog (Instr.sliceAt 9 s_0 (some (.int .i64 1)) none none) w fun t_9 w =>
      again_1 [t_9] w) <|
    K s_0 w) [s_p0] w
theorem B39_eq (s_p0 c_p1 : Value) (w : World) (K : Value → World → Prop) : denFn prog Tryz.f39 T39 [s_p0, c_p1] w K = B39 s_p0 c_p1 w K := by kernel_rfl
theorem c39 {s_p0 c_p1 : Value} {w : World} {K : Value → World → Prop} (h : B39 s_p0 c_p1 w K) : Calls prog 39 #[s_p0, c_p1] w (Ret K) :=
  denFn_calls Tryz.func39 T39_ok (Eq.mpr (B39_eq s_p0 c_p1 w K) h)

-- 48 maps.Keys[map[int]holdfast/api.Session,int,holdfast/api.Session]$1
def T48 : Ann := (.seq .none (.block (.loop 16328 [] (.seq .none (.seq (.seq .none .none) (.block (.seq .none (.seq .none (.seq .none .none)))))))))
theorem T48_ok : chkFn prog Tryz.f48 T48 = true := by kernel_rfl
def B48 (yield_p0 x_p1 : Value) (w : World) (K : Value → World → Prop) : Prop :=
  ldv prog (Instr.loadAt 47 x_p1) w fun t_0 w =>
  efv prog (Instr.range 47 t_0) w fun t_1 w =>
  lp (fun σ w again_2 => fin σ <|
    efv prog (Instr.next t_1 false 0) w fun t_3 w =>
    pvv prog (Instr.extract t_3 0) w fun t_4 w =>
    cd t_4 (
      efv prog (Instr.entry t_1) w fun t_5 w =>
      pvv prog (Instr.extract t_5 0) w fun t_6 w =>
      ef prog (oCall yield_p0 #[t_6]) w fun t_7 w =>
      pvv prog (Op.unary .not t_7) w fun t_8 w =>
      cd t_8 (
        K (.tuple #[]) w) <|
      again_2 [] w) <|
    K (.tuple #[]) w) [] w
theorem B48_eq (yield_p0 x_p1 : Value) (w : World) (K : Value → World → Prop) : denFn prog Tryz.f48 T48 [yield_p0, x_p1] w K = B48 yield_p0 x_p1 w K := by kernel_rfl
theorem c48 {yield_p0 x_p1 : Value} {w : World} {K : Value → World → Prop} (h : B48 yield_p0 x_p1 w K) : Calls prog 48 #[yield_p0, x_p1] w (Ret K) :=
  denFn_calls Tryz.func48 T48_ok (Eq.mpr (B48_eq yield_p0 x_p1 w K) h)

-- 10 (*holdfast/session.Table).End
def T10 : Ann := (.seq .none (.seq (.seq .none (.seq (.seq .none .none) .none)) (.seq .none (.seq .none (.seq .none .none)))))
theorem T10_ok : chkFn prog Tryz.f10 T10 = true := by kernel_rfl
def B10 (t_p0 id_p1 : Value) (w : World) (K : Value → World → Prop) : Prop :=
  pvv prog (oEq .eql 24 (.tmp 7) (.const (.pointer none)) t_p0 (.pointer none)) w fun t_0 w =>
  cd t_0 (
    K (.int .i64 1) w) <|
  Calls prog 16 #[t_p0, id_p1] w (Ret fun t_1 w =>
  pvv prog (Instr.extract t_1 0) w fun t_2 w =>
  pvv prog (Instr.extract t_1 1) w fun t_3 w =>
  efv prog (Instr.alloc 26 true (.tuple #[])) w fun t_4 w =>
  efu prog (Instr.storeAt 26 t_4 t_2) w fun u_5 w =>
  pv prog (oNil t_p0) w fun t_6 w =>
  pvv prog (Instr.fieldAt 49 t_6 2) w fun t_7 w =>
  ldv prog (Instr.loadAt 47 t_7) w fun t_8 w =>
  ef prog (oBi .delete #[47, 3] 0 #[false, false] #[t_8, id_p1]) w fun u_9 w =>
  K t_3 w)
theorem B10_eq (t_p0 id_p1 : Value) (w : World) (K : Value → World → Prop) : denFn prog Tryz.f10 T10 [t_p0, id_p1] w K = B10 t_p0 id_p1 w K := by kernel_rfl
theorem c10 {t_p0 id_p1 : Value} {w : World} {K : Value → World → Prop} (h : B10 t_p0 id_p1 w K) : Calls prog 10 #[t_p0, id_p1] w (Ret K) :=
  denFn_calls Tryz.func10 T10_ok (Eq.mpr (B10_eq t_p0 id_p1 w K) h)

-- 107 math/bits.TrailingZeros64
def T107 : Ann := (.seq .none (.seq (.seq .none (.seq (.seq .none .none) .none)) (.seq .none .none)))
theorem T107_ok : chkFn prog Tryz.f107 T107 = true := by kernel_rfl
def B107 (x_p0 : Value) (w : World) (K : Value → World → Prop) : Prop :=
  pvv prog (oEq .eql 97 (.tmp 3) (.const (.int .u64 0)) x_p0 (.int .u64 0)) w fun t_0 w =>
  cd t_0 (
    K (.int .i64 64) w) <|
  pvv prog (Op.unary .neg x_p0) w fun t_1 w =>
  pvv prog (binOp .and 97 x_p0 t_1) w fun t_2 w =>
  pvv prog (binOp .mul 97 t_2 (.int .u64 285870213051353865)) w fun t_3 w =>
  pvv prog (binOp .shr 97 t_3 (.int .u64 58)) w fun t_4 w =>
  pvv prog (Instr.indexAt 140 (.pointer (some ⟨5, 0, none⟩)) t_4) w fun t_5 w =>
  ldv prog (Instr.loadAt 5 t_5) w fun t_6 w =>
  pvv prog (convert 5 3 t_6) w fun t_7 w =>
  K t_7 w
theorem B107_eq (x_p0 : Value) (w : World) (K : Value → World → Prop) : denFn prog Tryz.f107 T107 [x_p0] w K = B107 x_p0 w K := by kernel_rfl
theorem c107 {x_p0 : Value} {w : World} {K : Value → World → Prop} (h : B107 x_p0 w K) : Calls prog 107 #[x_p0] w (Ret K) :=
  denFn_calls Tryz.func107 T107_ok (Eq.mpr (B107_eq x_p0 w K) h)

-- 106 math/bits.TrailingZeros32
def T106 : Ann := (.seq .none (.seq (.seq .none (.seq (.seq .none .none) .none)) (.seq .none .none)))
theorem T106_ok : chkFn prog Tryz.f106 T106 = true := by kernel_rfl
def B106 (x_p0 : Value) (w : World) (K : Value → World → Prop) : Prop :=
  pvv prog (oEq .eql 95 (.tmp 3) (.const (.int .u32 0)) x_p0 (.int .u32 0)) w fun t_0 w =>
  cd t_0 (
    K (.int .i64 32) w) <|
  pvv prog (Op.unary .neg x_p0) w fun t_1 w =>
  pvv prog (binOp .and 95 x_p0 t_1) w fun t_2 w =>
  pvv prog (binOp .mul 95 t_2 (.int .u32 125613361)) w fun t_3 w =>
  pvv prog (binOp .shr 95 t_3 (.int .u64 27)) w fun t_4 w =>
  pvv prog (Instr.indexAt 139 (.pointer (some ⟨4, 0, none⟩)) t_4) w fun t_5 w =>
  ldv prog (Instr.loadAt 5 t_5) w fun t_6 w =>
  pvv prog (convert 5 3 t_6) w fun t_7 w =>
  K t_7 w
theorem B106_eq (x_p0 : Value) (w : World) (K : Value → World → Prop) : denFn prog Tryz.f106 T106 [x_p0] w K = B106 x_p0 w K := by kernel_rfl
theorem c106 {x_p0 : Value} {w : World} {K : Value → World → Prop} (h : B106 x_p0 w K) : Calls prog 106 #[x_p0] w (Ret K) :=
  denFn_calls Tryz.func106 T106_ok (Eq.mpr (B106_eq x_p0 w K) h)

-- 88 internal/strconv.numDigits
def T88 : Ann := (.seq .none (.seq .none (.seq .none .none)))
theorem T88_ok : chkFn prog Tryz.f88 T88 = true := by kernel_rfl
def B88 (d_p0 : Value) (w : World) (K : Value → World → Prop) : Prop :=
  Calls prog 60 #[d_p0] w (Ret fun t_0 w =>
  Calls prog 100 #[t_0] w (Ret fun t_1 w =>
  pvv prog (Instr.indexAt 136 (.pointer (some ⟨2, 0, none⟩)) t_1) w fun t_2 w =>
  ldv prog (Instr.loadAt 97 t_2) w fun t_3 w =>
  pvv prog (binOp .geq 97 d_p0 t_3) w fun t_4 w =>
  Calls prog 101 #[t_4] w (Ret fun t_5 w =>
  pvv prog (binOp .add 3 t_1 t_5) w fun t_6 w =>
  K t_6 w)))
theorem B88_eq (d_p0 : Value) (w : World) (K : Value → World → Prop) : denFn prog Tryz.f88 T88 [d_p0] w K = B88 d_p0 w K := by kernel_rfl
theorem c88 {d_p0 : Value} {w : World} {K : Value → World → Prop} (h : B88 d_p0 w K) : Calls prog 88 #[d_p0] w (Ret K) :=
  denFn_calls Tryz.func88 T88_ok (Eq.mpr (B88_eq d_p0 w K) h)

-- 23 (*holdfast/session.Table).EndAll$1
def T23 : Ann := (.seq .none (.seq .none .none))
theorem T23_ok : chkFn prog Tryz.f23 T23 = true := by kernel_rfl
def B23 (s_p0 x_p1 : Value) (w : World) (K : Value → World → Prop) : Prop :=
  efv prog (Instr.box 26 s_p0) w fun s_0 w =>
  pvv prog (Instr.fieldAt 26 s_0 1) w fun t_1 w =>
  ldv prog (Instr.loadAt 23 t_1) w fun t_2 w =>
  ldv prog (Instr.loadAt 23 x_p1) w fun t_3 w =>
  pvv prog (oEq .eql 23 (.tmp 5) (.tmp 6) t_2 t_3) w fun t_4 w =>
  K t_4 w
theorem B23_eq (s_p0 x_p1 : Value) (w : World) (K : Value → World → Prop) : denFn prog Tryz.f23 T23 [s_p0, x_p1] w K = B23 s_p0 x_p1 w K := by kernel_rfl
theorem c23 {s_p0 x_p1 : Value} {w : World} {K : Value → World → Prop} (h : B23 s_p0 x_p1 w K) : Calls prog 23 #[s_p0, x_p1] w (Ret K) :=
  denFn_calls Tryz.func23 T23_ok (Eq.mpr (B23_eq s_p0 x_p1 w K) h)

-- 47 slices.Sort[[]int,int]
def T47 : Ann := (.seq .none .none)
theorem T47_ok : chkFn prog Tryz.f47 T47 = true := by kernel_rfl
def B47 (x_p0 : Value) (w : World) (K : Value → World → Prop) : Prop :=
  pv prog (oBi .len #[31] 3 #[false] #[x_p0]) w fun t_0 w =>
  pvv prog (convert 3 74 t_0) w fun t_1 w =>
  Calls prog 36 #[t_1] w (Ret fun t_2 w =>
  Calls prog 66 #[x_p0, (.int .i64 0), t_0, t_2] w (Ret fun t_3 w =>
  K (.tuple #[]) w))
theorem B47_eq (x_p0 : Value) (w : World) (K : Value → World → Prop) : denFn prog Tryz.f47 T47 [x_p0] w K = B47 x_p0 w K := by kernel_rfl
theorem c47 {x_p0 : Value} {w : World} {K : Value → World → Prop} (h : B47 x_p0 w K) : Calls prog 47 #[x_p0] w (Ret K) :=
  denFn_calls Tryz.func47 T47_ok (Eq.mpr (B47_eq x_p0 w K) h)

-- 70 slices.nextPowerOfTwo
def T70 : Ann := (.seq .none (.seq .none .none))
theorem T70_ok : chkFn prog Tryz.f70 T70 = true := by kernel_rfl
def B70 (length_p0 : Value) (w : World) (K : Value → World → Prop) : Prop :=
  pvv prog (convert 3 74 length_p0) w fun t_0 w =>
  Calls prog 36 #[t_0] w (Ret fun t_1 w =>
  pvv prog (binOp .shl 74 (.int .u64 1) t_1) w fun t_2 w =>
  K t_2 w)
theorem B70_eq (length_p0 : Value) (w : World) (K : Value → World → Prop) : denFn prog Tryz.f70 T70 [length_p0] w K = B70 length_p0 w K := by kernel_rfl
theorem c70 {length_p0 : Value} {w : World} {K : Value → World → Prop} (h : B70 length_p0 w K) : Calls prog 70 #[length_p0] w (Ret K) :=
  denFn_calls Tryz.func70 T70_ok (Eq.mpr (B70_eq length_p0 w K) h)

-- 100 internal/strconv.log10Pow2
def T100 : Ann := (.seq .none (.seq .none .none))
theorem T100_ok : chkFn prog Tryz.f100 T100 = true := by kernel_rfl
def B100 (x_p0 : Value) (w : World) (K : Value → World → Prop) : Prop :=
  pvv prog (binOp .mul 3 x_p0 (.int .i64 78913)) w fun t_0 w =>
  pvv prog (binOp .shr 3 t_0 (.int .u64 18)) w fun t_1 w =>
  K t_1 w
theorem B100_eq (x_p0 : Value) (w : World) (K : Value → World → Prop) : denFn prog Tryz.f100 T100 [x_p0] w K = B100 x_p0 w K := by kernel_rfl
theorem c100 {x_p0 : Value} {w : World} {K : Value → World → Prop} (h : B100 x_p0 w K) : Calls prog 100 #[x_p0] w (Ret K) :=
  denFn_calls Tryz.func100 T100_ok (Eq.mpr (B100_eq x_p0 w K) h)

-- 94 internal/bytealg.Cutover
def T94 : Ann := (.seq .none (.seq .none .none))
theorem T94_ok : chkFn prog Tryz.f94 T94 = true := by kernel_rfl
def B94 (n_p0 : Value) (w : World) (K : Value → World → Prop) : Prop :=
  pvv prog (binOp .add 3 n_p0 (.int .i64 16)) w fun t_0 w =>
  pvv prog (binOp .quo 3 t_0 (.int .i64 8)) w fun t_1 w =>
  K t_1 w
theorem B94_eq (n_p0 : Value) (w : World) (K : Value → World → Prop) : denFn prog Tryz.f94 T94 [n_p0] w K = B94 n_p0 w K := by kernel_rfl
theorem c94 {n_p0 : Value} {w : World} {K : Value → World → Prop} (h : B94 n_p0 w K) : Calls prog 94 #[n_p0] w (Ret K) :=
  denFn_calls Tryz.func94 T94_ok (Eq.mpr (B94_eq n_p0 w K) h)

-- 92 strings.IndexByte
def T92 : Ann := (.seq .none (.seq .none .none))
theorem T92_ok : chkFn prog Tryz.f92 T92 = true := by kernel_rfl
def B92 (s_p0 c_p1 : Value) (w : World) (K : Value → World → Prop) : Prop :=
  Calls prog 104 #[s_p0, c_p1] w (Ret fun t_0 w =>
  K t_0 w)
theorem B92_eq (s_p0 c_p1 : Value) (w : World) (K : Value → World → Prop) : denFn prog Tryz.f92 T92 [s_p0, c_p1] w K = B92 s_p0 c_p1 w K := by kernel_rfl
theorem c92 {s_p0 c_p1 : Value} {w : World} {K : Value → World → Prop} (h : B92 s_p0 c_p1 w K) : Calls prog 92 #[s_p0, c_p1] w (Ret K) :=
  denFn_calls Tryz.func92 T92_ok (Eq.mpr (B92_eq s_p0 c_p1 w K) h)

-- 37 cmp.isNaN[string]
def T37 : Ann := (.seq .none (.seq .none .none))
theorem T37_ok : chkFn prog Tryz.f37 T37 = true := by kernel_rfl
def B37 (x_p0 : Value) (w : World) (K : Value → World → Prop) : Prop :=
  pvv prog (oEq .neq 9 (.tmp 3) (.tmp 4) x_p0 x_p0) w fun t_0 w =>
  K t_0 w
theorem B37_eq (x_p0 : Value) (w : World) (K : Value → World → Prop) : denFn prog Tryz.f37 T37 [x_p0] w K = B37 x_p0 w K := by kernel_rfl
theorem c37 {x_p0 : Value} {w : World} {K : Value → World → Prop} (h : B37 x_p0 w K) : Calls prog 37 #[x_p0] w (Ret K) :=
  denFn_calls Tryz.func37 T37_ok (Eq.mpr (B37_eq x_p0 w K) h)


end Go.Proofs.YticbbnjhiiimcaaGreatDoor
