import Derived.Test.YtjeiojibnmfibaaDoorPI
set_option linter.all false
set_option maxRecDepth 100000
namespace Go.Proofs.YtjeiojibnmfibaaDoor
open Go Hold
-- 86 internal/strconv.formatBase10
def T86 : Ann := (.seq .none (.seq (.block (.loop 79228162514264337593543430130 [1, 4] (.seq (.seq .none (.seq .none .none)) (.block (.seq .none (.seq .none (.seq .none (.seq .none (.seq .none (.seq (.draw [.op 0 .pure, .op 1 .pure, .op 2 .pure, .op 3 .pure, .op 4 .pure, .op 5 .pure, .op 6 .pure, .op 7 .pure, .op 8 .pure, .op 9 .pure, .op 10 .pure, .op 11 .pure, .op 12 .eff, .op 13 .pure, .op 14 .eff]) (.seq (.draw [.op 0 .pure, .op 1 .pure, .op 2 .pure, .op 3 .pure, .op 4 .pure, .op 5 .pure, .op 6 .pure, .op 7 .pure, .op 8 .pure, .op 9 .pure, .op 10 .pure, .op 11 .pure, .op 12 .eff, .op 13 .pure, .op 14 .eff]) (.seq (.draw [.op 0 .pure, .op 1 .pure, .op 2 .pure, .op 3 .pure, .op 4 .pure, .op 5 .pure, .op 6 .pure, .op 7 .pure, .op 8 .pure, .op 9 .pure, .op 10 .pure, .op 11 .pure, .op 12 .eff, .op 13 .pure, .op 14 .eff]) (.seq (.draw [.op 0 .pure, .op 1 .pure, .op 2 .pure, .op 3 .pure, .op 4 .pure, .op 5 .pure, .op 6 .pure, .op 7 .pure, .op 8 .pure, .op 9 .pure, .op 10 .pure, .op 11 .pure, .op 12 .eff, .op 13 .pure, .op 14 .eff]) .none))))))))))))) (.seq .none (.meet 348449143726724073936438540659756472791056 [4, 12] (.seq .none (.seq (.seq .none (.seq .none (.seq .none (.seq (.draw [.op 0 .pure, .op 1 .pure, .op 2 .pure, .op 3 .pure, .op 4 .pure, .op 5 .pure, .op 6 .pure, .op 7 .pure, .op 8 .pure, .op 9 .pure, .op 10 .pure, .op 11 .pure, .op 12 .eff, .op 13 .pure, .op 14 .eff]) (.seq (.draw [.op 0 .pure, .op 1 .pure, .op 2 .pure, .op 3 .pure, .op 4 .pure, .op 5 .pure, .op 6 .pure, .op 7 .pure, .op 8 .pure, .op 9 .pure, .op 10 .pure, .op 11 .pure, .op 12 .eff, .op 13 .pure, .op 14 .eff]) .none))))) .none)) (.meet 1461501288881759191162698246220685009525284081680 [4, 12] (.seq .none (.seq (.seq .none (.seq .none (.seq (.draw [.op 0 .pure, .op 1 .pure, .op 2 .pure, .op 3 .pure, .op 4 .pure, .op 5 .pure, .op 6 .pure, .op 7 .pure, .op 8 .pure, .op 9 .pure, .op 10 .pure, .op 11 .pure, .op 12 .eff, .op 13 .pure, .op 14 .eff]) .none))) .none)) (.seq .none (.seq .none .none)))))))
theorem T86_ok : chkFn prog Tryd.f86 T86 = true := by kernel_rfl
def B86 (a_p0 u_p1 : Value) (w : World) (K : Value → World → Prop) : Prop :=
  pv prog (oBi .len #[72] 3 #[false] #[a_p0]) w fun t_0 w =>
  lp (fun σ w again_3 => pop σ fun u_1 σ => pop σ fun nd_2 σ => fin σ <|
    pvv prog (binOp .geq 3 nd_2 (.int .i64 8)) w fun t_4 w =>
    cd t_4 (
      pvv prog (binOp .rem 96 u_1 (.int .u64 100000000)) w fun t_5 w =>
      pvv prog (convert 96 101 t_5) w fun t_6 w =>
      pvv prog (binOp .quo 96 u_1 (.int .u64 100000000)) w fun t_7 w =>
      pvv prog (binOp .quo 101 t_6 (.int .u32 10000)) w fun t_8 w =>
      pvv prog (binOp .rem 101 t_6 (.int .u32 10000)) w fun t_9 w =>
      pvv prog (binOp .quo 101 t_9 (.int .u32 100)) w fun t_10 w =>
      pvv prog (binOp .mul 101 t_10 (.int .u32 2)) w fun t_11 w =>
      pvv prog (binOp .rem 101 t_9 (.int .u32 100)) w fun t_12 w =>
      pvv prog (binOp .mul 101 t_12 (.int .u32 2)) w fun t_13 w =>
      pvv prog (binOp .quo 101 t_8 (.int .u32 100)) w fun t_14 w =>
      pvv prog (binOp .mul 101 t_14 (.int .u32 2)) w fun t_15 w =>
      pvv prog (binOp .rem 101 t_8 (.int .u32 100)) w fun t_16 w =>
      pvv prog (binOp .mul 101 t_16 (.int .u32 2)) w fun t_17 w =>
      dr w fun w =>
      pvv prog (binOp .sub 3 nd_2 (.int .i64 1)) w fun t_18 w =>
      pvv prog (binOp .sub 3 nd_2 (.int .i64 2)) w fun t_19 w =>
      pvv prog (binOp .add 101 t_13 (.int .u32 1)) w fun t_20 w =>
      pvv prog (Instr.index 9 (.string ⟨#[48, 48, 48, 49, 48, 50, 48, 51, 48, 52, 48, 53, 48, 54, 48, 55, 48, 56, 48, 57, 49, 48, 49, 49, 49, 50, 49, 51, 49, 52, 49, 53, 49, 54, 49, 55, 49, 56, 49, 57, 50, 48, 50, 49, 50, 50, 50, 51, 50, 52, 50, 53, 50, 54, 50, 55, 50, 56, 50, 57, 51, 48, 51, 49, 51, 50, 51, 51, 51, 52, 51, 53, 51, 54, 51, 55, 51, 56, 51, 57, 52, 48, 52, 49, 52, 50, 52, 51, 52, 52, 52, 53, 52, 54, 52, 55, 52, 56, 52, 57, 53, 48, 53, 49, 53, 50, 53, 51, 53, 52, 53, 53, 53, 54, 53, 55, 53, 56, 53, 57, 54, 48, 54, 49, 54, 50, 54, 51, 54, 52, 54, 53, 54, 54, 54, 55, 54, 56, 54, 57, 55, 48, 55, 49, 55, 50, 55, 51, 55, 52, 55, 53, 55, 54, 55, 55, 55, 56, 55, 57, 56, 48, 56, 49, 56, 50, 56, 51, 56, 52, 56, 53, 56, 54, 56, 55, 56, 56, 56, 57, 57, 48, 57, 49, 57, 50, 57, 51, 57, 52, 57, 53, 57, 54, 57, 55, 57, 56, 57, 57]⟩) t_20) w fun t_21 w =>
      pvv prog (Instr.index 9 (.string ⟨#[48, 48, 48, 49, 48, 50, 48, 51, 48, 52, 48, 53, 48, 54, 48, 55, 48, 56, 48, 57, 49, 48, 49, 49, 49, 50, 49, 51, 49, 52, 49, 53, 49, 54, 49, 55, 49, 56, 49, 57, 50, 48, 50, 49, 50, 50, 50, 51, 50, 52, 50, 53, 50, 54, 50, 55, 50, 56, 50, 57, 51, 48, 51, 49, 51, 50, 51, 51, 51, 52, 51, 53, 51, 54, 51, 55, 51, 56, 51, 57, 52, 48, 52, 49, 52, 50, 52, 51, 52, 52, 52, 53, 52, 54, 52, 55, 52, 56, 52, 57, 53, 48, 53, 49, 53, 50, 53, 51, 53, 52, 53, 53, 53, 54, 53, 55, 53, 56, 53, 57, 54, 48, 54, 49, 54, 50, 54, 51, 54, 52, 54, 53, 54, 54, 54, 55, 54, 56, 54, 57, 55, 48, 55, 49, 55, 50, 55, 51, 55, 52, 55, 53, 55, 54, 55, 55, 55, 56, 55, 57, 56, 48, 56, 49, 56, 50, 56, 51, 56, 52, 56, 53, 56, 54, 56, 55, 56, 56, 56, 57, 57, 48, 57, 49, 57, 50, 57, 51, 57, 52, 57, 53, 57, 54, 57, 55, 57, 56, 57, 57]⟩) t_13) w fun t_22 w =>
      pvv prog (Instr.indexAt 72 a_p0 t_18) w fun t_23 w =>
      efu prog (Instr.storeAt 5 t_23 t_21) w fun u_24 w =>
      pvv prog (Instr.indexAt 72 a_p0 t_19) w fun t_25 w =>
      efu prog (Instr.storeAt 5 t_25 t_22) w fun u_26 w =>
      dr w fun w =>
      pvv prog (binOp .sub 3 nd_2 (.int .i64 3)) w fun t_27 w =>
      pvv prog (binOp .sub 3 nd_2 (.int .i64 4)) w fun t_28 w =>
      pvv prog (binOp .add 101 t_11 (.int .u32 1)) w fun t_29 w =>
      pvv prog (Instr.index 9 (.string ⟨#[48, 48, 48, 49, 48, 50, 48, 51, 48, 52, 48, 53, 48, 54, 48, 55, 48, 56, 48, 57, 49, 48, 49, 49, 49, 50, 49, 51, 49, 52, 49, 53, 49, 54, 49, 55, 49, 56, 49, 57, 50, 48, 50, 49, 50, 50, 50, 51, 50, 52, 50, 53, 50, 54, 50, 55, 50, 56, 50, 57, 51, 48, 51, 49, 51, 50, 51, 51, 51, 52, 51, 53, 51, 54, 51, 55, 51, 56, 51, 57, 52, 48, 52, 49, 52, 50, 52, 51, 52, 52, 52, 53, 52, 54, 52, 55, 52, 56, 52, 57, 53, 48, 53, 49, 53, 50, 53, 51, 53, 52, 53, 53, 53, 54, 53, 55, 53, 56, 53, 57, 54, 48, 54, 49, 54, 50, 54, 51, 54, 52, 54, 53, 54, 54, 54, 55, 54, 56, 54, 57, 55, 48, 55, 49, 55, 50, 55, 51, 55, 52, 55, 53, 55, 54, 55, 55, 55, 56, 55, 57, 56, 48, 56, 49, 56, 50, 56, 51, 56, 52, 56, 53, 56, 54, 56, 55, 56, 56, 56, 57, 57, 48, 57, 49, 57, 50, 57, 51, 57, 52, 57, 53, 57, 54, 57, 55, 57, 56, 57, 57]⟩) t_29) w fun t_30 w =>
      pvv prog (Instr.index 9 (.string ⟨#[48, 48, 48, 49, 48, 50, 48, 51, 48, 52, 48, 53, 48, 54, 48, 55, 48, 56, 48, 57, 49, 48, 49, 49, 49, 50, 49, 51, 49, 52, 49, 53, 49, 54, 49, 55, 49, 56, 49, 57, 50, 48, 50, 49, 50, 50, 50, 51, 50, 52, 50, 53, 50, 54, 50, 55, 50, 56, 50, 57, 51, 48, 51, 49, 51, 50, 51, 51, 51, 52, 51, 53, 51, 54, 51, 55, 51, 56, 51, 57, 52, 48, 52, 49, 52, 50, 52, 51, 52, 52, 52, 53, 52, 54, 52, 55, 52, 56, 52, 57, 53, 48, 53, 49, 53, 50, 53, 51, 53, 52, 53, 53, 53, 54, 53, 55, 53, 56, 53, 57, 54, 48, 54, 49, 54, 50, 54, 51, 54, 52, 54, 53, 54, 54, 54, 55, 54, 56, 54, 57, 55, 48, 55, 49, 55, 50, 55, 51, 55, 52, 55, 53, 55, 54, 55, 55, 55, 56, 55, 57, 56, 48, 56, 49, 56, 50, 56, 51, 56, 52, 56, 53, 56, 54, 56, 55, 56, 56, 56, 57, 57, 48, 57, 49, 57, 50, 57, 51, 57, 52, 57, 53, 57, 54, 57, 55, 57, 56, 57, 57]⟩) t_11) w fun t_31 w =>
      pvv prog (Instr.indexAt 72 a_p0 t_27) w fun t_32 w =>
      efu prog (Instr.storeAt 5 t_32 t_30) w fun u_33 w =>
      pvv prog (Instr.indexAt 72 a_p0 t_28) w fun t_34 w =>
      efu prog (Instr.storeAt 5 t_34 t_31) w fun u_35 w =>
      dr w fun w =>
      pvv prog (binOp .sub 3 nd_2 (.int .i64 5)) w fun t_36 w =>
      pvv prog (binOp .sub 3 nd_2 (.int .i64 6)) w fun t_37 w =>
      pvv prog (binOp .add 101 t_17 (.int .u32 1)) w fun t_38 w =>
      pvv prog (Instr.index 9 (.string ⟨#[48, 48, 48, 49, 48, 50, 48, 51, 48, 52, 48, 53, 48, 54, 48, 55, 48, 56, 48, 57, 49, 48, 49, 49, 49, 50, 49, 51, 49, 52, 49, 53, 49, 54, 49, 55, 49, 56, 49, 57, 50, 48, 50, 49, 50, 50, 50, 51, 50, 52, 50, 53, 50, 54, 50, 55, 50, 56, 50, 57, 51, 48, 51, 49, 51, 50, 51, 51, 51, 52, 51, 53, 51, 54, 51, 55, 51, 56, 51, 57, 52, 48, 52, 49, 52, 50, 52, 51, 52, 52, 52, 53, 52, 54, 52, 55, 52, 56, 52, 57, 53, 48, 53, 49, 53, 50, 53, 51, 53, 52, 53, 53, 53, 54, 53, 55, 53, 56, 53, 57, 54, 48, 54, 49, 54, 50, 54, 51, 54, 52, 54, 53, 54, 54, 54, 55, 54, 56, 54, 57, 55, 48, 55, 49, 55, 50, 55, 51, 55, 52, 55, 53, 55, 54, 55, 55, 55, 56, 55, 57, 56, 48, 56, 49, 56, 50, 56, 51, 56, 52, 56, 53, 56, 54, 56, 55, 56, 56, 56, 57, 57, 48, 57, 49, 57, 50, 57, 51, 57, 52, 57, 53, 57, 54, 57, 55, 57, 56, 57, 57]⟩) t_38) w fun t_39 w =>
      pvv prog (Instr.index 9 (.string ⟨#[48, 48, 48, 49, 48, 50, 48, 51, 48, 52, 48, 53, 48, 54, 48, 55, 48, 56, 48, 57, 49, 48, 49, 49, 49, 50, 49, 51, 49, 52, 49, 53, 49, 54, 49, 55, 49, 56, 49, 57, 50, 48, 50, 49, 50, 50, 50, 51, 50, 52, 50, 53, 50, 54, 50, 55, 50, 56, 50, 57, 51, 48, 51, 49, 51, 50, 51, 51, 51, 52, 51, 53, 51, 54, 51, 55, 51, 56, 51, 57, 52, 48, 52, 49, 52, 50, 52, 51, 52, 52, 52, 53, 52, 54, 52, 55, 52, 56, 52, 57, 53, 48, 53, 49, 53, 50, 53, 51, 53, 52, 53, 53, 53, 54, 53, 55, 53, 56, 53, 57, 54, 48, 54, 49, 54, 50, 54, 51, 54, 52, 54, 53, 54, 54, 54, 55, 54, 56, 54, 57, 55, 48, 55, 49, 55, 50, 55, 51, 55, 52, 55, 53, 55, 54, 55, 55, 55, 56, 55, 57, 56, 48, 56, 49, 56, 50, 56, 51, 56, 52, 56, 53, 56, 54, 56, 55, 56, 56, 56, 57, 57, 48, 57, 49, 57, 50, 57, 51, 57, 52, 57, 53, 57, 54, 57, 55, 57, 56, 57, 57]⟩) t_17) w fun t_40 w =>
      pvv prog (Instr.indexAt 72 a_p0 t_36) w fun t_41 w =>
      efu prog (Instr.storeAt 5 t_41 t_39) w fun u_42 w =>
      pvv prog (Instr.indexAt 72 a_p0 t_37) w fun t_43 w =>
      efu prog (Instr.storeAt 5 t_43 t_40) w fun u_44 w =>
      dr w fun w =>
      pvv prog (binOp .sub 3 nd_2 (.int .i64 7)) w fun t_45 w =>
      pvv prog (binOp .sub 3 nd_2 (.int .i64 8)) w fun t_46 w =>
      pvv prog (binOp .add 101 t_15 (.int .u32 1)) w fun t_47 w =>
      pvv prog (Instr.index 9 (.string ⟨#[48, 48, 48, 49, 48, 50, 48, 51, 48, 52, 48, 53, 48, 54, 48, 55, 48, 56, 48, 57, 49, 48, 49, 49, 49, 50, 49, 51, 49, 52, 49, 53, 49, 54, 49, 55, 49, 56, 49, 57, 50, 48, 50, 49, 50, 50, 50, 51, 50, 52, 50, 53, 50, 54, 50, 55, 50, 56, 50, 57, 51, 48, 51, 49, 51, 50, 51, 51, 51, 52, 51, 53, 51, 54, 51, 55, 51, 56, 51, 57, 52, 48, 52, 49, 52, 50, 52, 51, 52, 52, 52, 53, 52, 54, 52, 55, 52, 56, 52, 57, 53, 48, 53, 49, 53, 50, 53, 51, 53, 52, 53, 53, 53, 54, 53, 55, 53, 56, 53, 57, 54, 48, 54, 49, 54, 50, 54, 51, 54, 52, 54, 53, 54, 54, 54, 55, 54, 56, 54, 57, 55, 48, 55, 49, 55, 50, 55, 51, 55, 52, 55, 53, 55, 54, 55, 55, 55, 56, 55, 57, 56, 48, 56, 49, 56, 50, 56, 51, 56, 52, 56, 53, 56, 54, 56, 55, 56, 56, 56, 57, 57, 48, 57, 49, 57, 50, 57, 51, 57, 52, 57, 53, 57, 54, 57, 55, 57, 56, 57, 57]⟩) t_47) w fun t_48 w =>
      pvv prog (Instr.index 9 (.string ⟨#[48, 48, 48, 49, 48, 50, 48, 51, 48, 52, 48, 53, 48, 54, 48, 55, 48, 56, 48, 57, 49, 48, 49, 49, 49, 50, 49, 51, 49, 52, 49, 53, 49, 54, 49, 55, 49, 56, 49, 57, 50, 48, 50, 49, 50, 50, 50, 51, 50, 52, 50, 53, 50, 54, 50, 55, 50, 56, 50, 57, 51, 48, 51, 49, 51, 50, 51, 51, 51, 52, 51, 53, 51, 54, 51, 55, 51, 56, 51, 57, 52, 48, 52, 49, 52, 50, 52, 51, 52, 52, 52, 53, 52, 54, 52, 55, 52, 56, 52, 57, 53, 48, 53, 49, 53, 50, 53, 51, 53, 52, 53, 53, 53, 54, 53, 55, 53, 56, 53, 57, 54, 48, 54, 49, 54, 50, 54, 51, 54, 52, 54, 53, 54, 54, 54, 55, 54, 56, 54, 57, 55, 48, 55, 49, 55, 50, 55, 51, 55, 52, 55, 53, 55, 54, 55, 55, 55, 56, 55, 57, 56, 48, 56, 49, 56, 50, 56, 51, 56, 52, 56, 53, 56, 54, 56, 55, 56, 56, 56, 57, 57, 48, 57, 49, 57, 50, 57, 51, 57, 52, 57, 53, 57, 54, 57, 55, 57, 56, 57, 57]⟩) t_15) w fun t_49 w =>
      pvv prog (Instr.indexAt 72 a_p0 t_45) w fun t_50 w =>
      efu prog (Instr.storeAt 5 t_50 t_48) w fun u_51 w =>
      pvv prog (Instr.indexAt 72 a_p0 t_46) w fun t_52 w =>
      efu prog (Instr.storeAt 5 t_52 t_49) w fun u_53 w =>
      pvv prog (binOp .sub 3 nd_2 (.int .i64 8)) w fun t_54 w =>
      again_3 [t_7, t_54] w) <|
    pvv prog (convert 96 101 u_1) w fun t_63 w =>
    jn (fun σ w => pop σ fun nd_64 σ => pop σ fun x_65 σ => fin σ <|
      jn (fun σ w => pop σ fun nd_66 σ => pop σ fun x_67 σ => fin σ <|
        pvv prog (binOp .gtr 3 nd_66 (.int .i64 0)) w fun t_68 w =>
        cd t_68 (
          pvv prog (binOp .add 101 (.int .u32 48) x_67) w fun t_69 w =>
          pvv prog (convert 101 5 t_69) w fun t_70 w =>
          pvv prog (Instr.indexAt 72 a_p0 (.int .i64 0)) w fun t_71 w =>
          efu prog (Instr.storeAt 5 t_71 t_70) w fun u_72 w =>
          K (.tuple #[]) w) <|
        K (.tuple #[]) w) fun k_73 =>
      pvv prog (binOp .geq 3 nd_64 (.int .i64 2)) w fun t_74 w =>
      cd t_74 (
        pvv prog (binOp .rem 101 x_65 (.int .u32 100)) w fun t_75 w =>
        pvv prog (binOp .mul 101 t_75 (.int .u32 2)) w fun t_76 w =>
        pvv prog (binOp .quo 101 x_65 (.int .u32 100)) w fun t_77 w =>
        dr w fun w =>
        pvv prog (binOp .sub 3 nd_64 (.int .i64 1)) w fun t_78 w =>
        pvv prog (binOp .sub 3 nd_64 (.int .i64 2)) w fun t_79 w =>
        pvv prog (binOp .add 101 t_76 (.int .u32 1)) w fun t_80 w =>
        pvv prog (Instr.index 9 (.string ⟨#[48, 48, 48, 49, 48, 50, 48, 51, 48, 52, 48, 53, 48, 54, 48, 55, 48, 56, 48, 57, 49, 48, 49, 49, 49, 50, 49, 51, 49, 52, 49, 53, 49, 54, 49, 55, 49, 56, 49, 57, 50, 48, 50, 49, 50, 50, 50, 51, 50, 52, 50, 53, 50, 54, 50, 55, 50, 56, 50, 57, 51, 48, 51, 49, 51, 50, 51, 51, 51, 52, 51, 53, 51, 54, 51, 55, 51, 56, 51, 57, 52, 48, 52, 49, 52, 50, 52, 51, 52, 52, 52, 53, 52, 54, 52, 55, 52, 56, 52, 57, 53, 48, 53, 49, 53, 50, 53, 51, 53, 52, 53, 53, 53, 54, 53, 55, 53, 56, 53, 57, 54, 48, 54, 49, 54, 50, 54, 51, 54, 52, 54, 53, 54, 54, 54, 55, 54, 56, 54, 57, 55, 48, 55, 49, 55, 50, 55, 51, 55, 52, 55, 53, 55, 54, 55, 55, 55, 56, 55, 57, 56, 48, 56, 49, 56, 50, 56, 51, 56, 52, 56, 53, 56, 54, 56, 55, 56, 56, 56, 57, 57, 48, 57, 49, 57, 50, 57, 51, 57, 52, 57, 53, 57, 54, 57, 55, 57, 56, 57, 57]⟩) t_80) w fun t_81 w =>
        pvv prog (Instr.index 9 (.string ⟨#[48, 48, 48, 49, 48, 50, 48, 51, 48, 52, 48, 53, 48, 54, 48, 55, 48, 56, 48, 57, 49, 48, 49, 49, 49, 50, 49, 51, 49, 52, 49, 53, 49, 54, 49, 55, 49, 56, 49, 57, 50, 48, 50, 49, 50, 50, 50, 51, 50, 52, 50, 53, 50, 54, 50, 55, 50, 56, 50, 57, 51, 48, 51, 49, 51, 50, 51, 51, 51, 52, 51, 53, 51, 54, 51, 55, 51, 56, 51, 57, 52, 48, 52, 49, 52, 50, 52, 51, 52, 52, 52, 53, 52, 54, 52, 55, 52, 56, 52, 57, 53, 48, 53, 49, 53, 50, 53, 51, 53, 52, 53, 53, 53, 54, 53, 55, 53, 56, 53, 57, 54, 48, 54, 49, 54, 50, 54, 51, 54, 52, 54, 53, 54, 54, 54, 55, 54, 56, 54, 57, 55, 48, 55, 49, 55, 50, 55, 51, 55, 52, 55, 53, 55, 54, 55, 55, 55, 56, 55, 57, 56, 48, 56, 49, 56, 50, 56, 51, 56, 52, 56, 53, 56, 54, 56, 55, 56, 56, 56, 57, 57, 48, 57, 49, 57, 50, 57, 51, 57, 52, 57, 53, 57, 54, 57, 55, 57, 56, 57, 57]⟩) t_76) w fun t_82 w =>
        pvv prog (Instr.indexAt 72 a_p0 t_78) w fun t_83 w =>
        efu prog (Instr.storeAt 5 t_83 t_81) w fun u_84 w =>
        pvv prog (Instr.indexAt 72 a_p0 t_79) w fun t_85 w =>
        efu prog (Instr.storeAt 5 t_85 t_82) w fun u_86 w =>
        pvv prog (binOp .sub 3 nd_64 (.int .i64 2)) w fun t_87 w =>
        k_73 [t_87, t_77] w) <|
      k_73 [nd_64, x_65] w) fun k_90 =>
    pvv prog (binOp .geq 3 nd_2 (.int .i64 4)) w fun t_91 w =>
    cd t_91 (
      pvv prog (binOp .rem 101 t_63 (.int .u32 10000)) w fun t_92 w =>
      pvv prog (binOp .quo 101 t_63 (.int .u32 10000)) w fun t_93 w =>
      pvv prog (binOp .quo 101 t_92 (.int .u32 100)) w fun t_94 w =>
      pvv prog (binOp .mul 101 t_94 (.int .u32 2)) w fun t_95 w =>
      pvv prog (binOp .rem 101 t_92 (.int .u32 100)) w fun t_96 w =>
      pvv prog (binOp .mul 101 t_96 (.int .u32 2)) w fun t_97 w =>
      dr w fun w =>
      pvv prog (binOp .sub 3 nd_2 (.int .i64 1)) w fun t_98 w =>
      pvv prog (binOp .sub 3 nd_2 (.int .i64 2)) w fun t_99 w =>
      pvv prog (binOp .add 101 t_97 (.int .u32 1)) w fun t_100 w =>
      pvv prog (Instr.index 9 (.string ⟨#[48, 48, 48, 49, 48, 50, 48, 51, 48, 52, 48, 53, 48, 54, 48, 55, 48, 56, 48, 57, 49, 48, 49, 49, 49, 50, 49, 51, 49, 52, 49, 53, 49, 54, 49, 55, 49, 56, 49, 57, 50, 48, 50, 49, 50, 50, 50, 51, 50, 52, 50, 53, 50, 54, 50, 55, 50, 56, 50, 57, 51, 48, 51, 49, 51, 50, 51, 51, 51, 52, 51, 53, 51, 54, 51, 55, 51, 56, 51, 57, 52, 48, 52, 49, 52, 50, 52, 51, 52, 52, 52, 53, 52, 54, 52, 55, 52, 56, 52, 57, 53, 48, 53, 49, 53, 50, 53, 51, 53, 52, 53, 53, 53, 54, 53, 55, 53, 56, 53, 57, 54, 48, 54, 49, 54, 50, 54, 51, 54, 52, 54, 53, 54, 54, 54, 55, 54, 56, 54, 57, 55, 48, 55, 49, 55, 50, 55, 51, 55, 52, 55, 53, 55, 54, 55, 55, 55, 56, 55, 57, 56, 48, 56, 49, 56, 50, 56, 51, 56, 52, 56, 53, 56, 54, 56, 55, 56, 56, 56, 57, 57, 48, 57, 49, 57, 50, 57, 51, 57, 52, 57, 53, 57, 54, 57, 55, 57, 56, 57, 57]⟩) t_100) w fun t_101 w =>
      pvv prog (Instr.index 9 (.string ⟨#[48, 48, 48, 49, 48, 50, 48, 51, 48, 52, 48, 53, 48, 54, 48, 55, 48, 56, 48, 57, 49, 48, 49, 49, 49, 50, 49, 51, 49, 52, 49, 53, 49, 54, 49, 55, 49, 56, 49, 57, 50, 48, 50, 49, 50, 50, 50, 51, 50, 52, 50, 53, 50, 54, 50, 55, 50, 56, 50, 57, 51, 48, 51, 49, 51, 50, 51, 51, 51, 52, 51, 53, 51, 54, 51, 55, 51, 56, 51, 57, 52, 48, 52, 49, 52, 50, 52, 51, 52, 52, 52, 53, 52, 54, 52, 55, 52, 56, 52, 57, 53, 48, 53, 49, 53, 50, 53, 51, 53, 52, 53, 53, 53, 54, 53, 55, 53, 56, 53, 57, 54, 48, 54, 49, 54, 50, 54, 51, 54, 52, 54, 53, 54, 54, 54, 55, 54, 56, 54, 57, 55, 48, 55, 49, 55, 50, 55, 51, 55, 52, 55, 53, 55, 54, 55, 55, 55, 56, 55, 57, 56, 48, 56, 49, 56, 50, 56, 51, 56, 52, 56, 53, 56, 54, 56, 55, 56, 56, 56, 57, 57, 48, 57, 49, 57, 50, 57, 51, 57, 52, 57, 53, 57, 54, 57, 55, 57, 56, 57, 57]⟩) t_97) w fun t_102 w =>
      pvv prog (Instr.indexAt 72 a_p0 t_98) w fun t_103 w =>
      efu prog (Instr.storeAt 5 t_103 t_101) w fun u_104 w =>
      pvv prog (Instr.indexAt 72 a_p0 t_99) w fun t_105 w =>
      efu prog (Instr.storeAt 5 t_105 t_102) w fun u_106 w =>
      dr w fun w =>
      pvv prog (binOp .sub 3 nd_2 (.int .i64 3)) w fun t_107 w =>
      pvv prog (binOp .sub 3 nd_2 (.int .i64 4)) w fun t_108 w =>
      pvv prog (binOp .add 101 t_95 (.int .u32 1)) w fun t_109 w =>
      pvv prog (Instr.index 9 (.string ⟨#[48, 48, 48, 49, 48, 50, 48, 51, 48, 52, 48, 53, 48, 54, 48, 55, 48, 56, 48, 57, 49, 48, 49, 49, 49, 50, 49, 51, 49, 52, 49, 53, 49, 54, 49, 55, 49, 56, 49, 57, 50, 48, 50, 49, 50, 50, 50, 51, 50, 52, 50, 53, 50, 54, 50, 55, 50, 56, 50, 57, 51, 48, 51, 49, 51, 50, 51, 51, 51, 52, 51, 53, 51, 54, 51, 55, 51, 56, 51, 57, 52, 48, 52, 49, 52, 50, 52, 51, 52, 52, 52, 53, 52, 54, 52, 55, 52, 56, 52, 57, 53, 48, 53, 49, 53, 50, 53, 51, 53, 52, 53, 53, 53, 54, 53, 55, 53, 56, 53, 57, 54, 48, 54, 49, 54, 50, 54, 51, 54, 52, 54, 53, 54, 54, 54, 55, 54, 56, 54, 57, 55, 48, 55, 49, 55, 50, 55, 51, 55, 52, 55, 53, 55, 54, 55, 55, 55, 56, 55, 57, 56, 48, 56, 49, 56, 50, 56, 51, 56, 52, 56, 53, 56, 54, 56, 55, 56, 56, 56, 57, 57, 48, 57, 49, 57, 50, 57, 51, 57, 52, 57, 53, 57, 54, 57, 55, 57, 56, 57, 57]⟩) t_109) w fun t_110 w =>
      pvv prog (Instr.index 9 (.string ⟨#[48, 48, 48, 49, 48, 50, 48, 51, 48, 52, 48, 53, 48, 54, 48, 55, 48, 56, 48, 57, 49, 48, 49, 49, 49, 50, 49, 51, 49, 52, 49, 53, 49, 54, 49, 55, 49, 56, 49, 57, 50, 48, 50, 49, 50, 50, 50, 51, 50, 52, 50, 53, 50, 54, 50, 55, 50, 56, 50, 57, 51, 48, 51, 49, 51, 50, 51, 51, 51, 52, 51, 53, 51, 54, 51, 55, 51, 56, 51, 57, 52, 48, 52, 49, 52, 50, 52, 51, 52, 52, 52, 53, 52, 54, 52, 55, 52, 56, 52, 57, 53, 48, 53, 49, 53, 50, 53, 51, 53, 52, 53, 53, 53, 54, 53, 55, 53, 56, 53, 57, 54, 48, 54, 49, 54, 50, 54, 51, 54, 52, 54, 53, 54, 54, 54, 55, 54, 56, 54, 57, 55, 48, 55, 49, 55, 50, 55, 51, 55, 52, 55, 53, 55, 54, 55, 55, 55, 56, 55, 57, 56, 48, 56, 49, 56, 50, 56, 51, 56, 52, 56, 53, 56, 54, 56, 55, 56, 56, 56, 57, 57, 48, 57, 49, 57, 50, 57, 51, 57, 52, 57, 53, 57, 54, 57, 55, 57, 56, 57, 57]⟩) t_95) w fun t_111 w =>
      pvv prog (Instr.indexAt 72 a_p0 t_107) w fun t_112 w =>
      efu prog (Instr.storeAt 5 t_112 t_110) w fun u_113 w =>
      pvv prog (Instr.indexAt 72 a_p0 t_108) w fun t_114 w =>
      efu prog (Instr.storeAt 5 t_114 t_111) w fun u_115 w =>
      pvv prog (binOp .sub 3 nd_2 (.int .i64 4)) w fun t_116 w =>
      k_90 [t_116, t_93] w) <|
    k_90 [nd_2, t_63] w) [u_p1, t_0] w
theorem B86_eq (a_p0 u_p1 : Value) (w : World) (K : Value → World → Prop) : denFn prog Tryd.f86 T86 [a_p0, u_p1] w K = B86 a_p0 u_p1 w K := by kernel_rfl
theorem c86 {a_p0 u_p1 : Value} {w : World} {K : Value → World → Prop} (h : B86 a_p0 u_p1 w K) : Calls prog 86 #[a_p0, u_p1] w (Ret K) :=
  denFn_calls Tryd.func86 T86_ok (Eq.mpr (B86_eq a_p0 u_p1 w K) h)

-- 38 (*holdfast/holdfastref14.Chain).Rows
def T38 : Ann := (.seq .none (.seq (.seq .none (.seq (.seq .none .none) .none)) (.seq .none (.seq (.draw [.op 0 .pure, .op 1 .pure, .op 2 .pure, .op 5 .pure, .op 6 .pure, .op 7 .pure, .op 8 .pure, .op 13 .pure, .op 14 .pure, .op 15 .pure, .op 20 .pure, .op 21 .pure, .op 22 .pure, .op 27 .pure, .op 28 .pure, .op 29 .pure, .op 3 .load, .op 9 .load, .op 16 .load, .op 23 .load, .op 30 .load, .op 4 .eff, .op 10 .eff, .par [⟨11, .eff, (some 25), []⟩, ⟨17, .eff, (some 31), []⟩, ⟨12, .pure, (some 26), [(0, some 25)]⟩, ⟨18, .eff, (some 32), [(1, some 31)]⟩, ⟨19, .pure, (some 33), [(3, some 32)]⟩, ⟨24, .eff, (some 38), []⟩, ⟨25, .eff, (some 39), [(5, some 38)]⟩, ⟨26, .pure, (some 40), [(6, some 39)]⟩, ⟨31, .eff, (some 45), []⟩, ⟨32, .eff, (some 46), [(8, some 45)]⟩, ⟨33, .pure, (some 47), [(9, some 46)]⟩], .op 34 .eff, .op 35 .pure]) (.seq (.seq .none (.block (.loop 2417851638666308395991152 [4, 5] (.seq (.seq .none (.seq .none .none)) (.seq (.block (.seq .none (.draw [.op 0 .pure, .op 1 .pure, .op 5 .pure, .op 8 .pure, .op 10 .pure, .op 2 .load, .op 6 .load, .op 9 .load, .op 11 .load, .op 3 .eff, .op 4 .pure, .op 7 .eff, .op 12 .eff, .op 13 .pure, .op 14 .eff, .op 15 .eff, .op 16 .pure]))) .none))))) (.seq .none .none))))))
theorem T38_ok : chkFn prog Tryd.f38 T38 = true := by kernel_rfl
def B38 (c_p0 : Value) (w : World) (K : Value → World → Prop) : Prop :=
  pvv prog (oEq .eql 25 (.tmp 7) (.const (.pointer none)) c_p0 (.pointer none)) w fun t_0 w =>
  cd t_0 (
    K (.slice none 0 0) w) <|
  pv prog (oNil c_p0) w fun t_1 w =>
  pvv prog (Instr.fieldAt 61 t_1 1) w fun t_2 w =>
  ldv prog (Instr.loadAt 3 t_2) w fun t_3 w =>
  Calls prog 49 #[t_3] w (Ret fun t_4 w =>
  dr w fun w =>
  pv prog (oNil c_p0) w fun t_5 w =>
  pvv prog (Instr.fieldAt 61 t_5 0) w fun t_6 w =>
  pv prog (oNil c_p0) w fun t_7 w =>
  pvv prog (Instr.fieldAt 61 t_7 2) w fun t_8 w =>
  pv prog (oNil c_p0) w fun t_9 w =>
  pvv prog (Instr.fieldAt 61 t_9 4) w fun t_10 w =>
  pv prog (oNil c_p0) w fun t_11 w =>
  pvv prog (Instr.fieldAt 61 t_11 3) w fun t_12 w =>
  pv prog (oNil c_p0) w fun t_13 w =>
  pvv prog (Instr.fieldAt 61 t_13 5) w fun t_14 w =>
  bindS (vN (Instr.loadAt 3 t_6)) fun m_16 => ldv prog (Instr.loadAt 3 t_6) w fun t_15 w =>
  bindS (vN (Instr.loadAt 3 t_8)) fun m_18 => ldv prog (Instr.loadAt 3 t_8) w fun t_17 w =>
  bindS (vN (Instr.loadAt 36 t_10)) fun m_20 => ldv prog (Instr.loadAt 36 t_10) w fun t_19 w =>
  bindS (vN (Instr.loadAt 36 t_12)) fun m_22 => ldv prog (Instr.loadAt 36 t_12) w fun t_21 w =>
  bindS (vN (Instr.loadAt 36 t_14)) fun m_24 => ldv prog (Instr.loadAt 36 t_14) w fun t_23 w =>
  Calls prog 49 #[t_15] w (Ret fun t_25 w => stay prog none m_24 t_23 w <| stay prog none m_22 t_21 w <| stay prog none m_20 t_19 w <| stay prog none m_18 t_17 w <| 
  Calls prog 49 #[t_17] w (Ret fun t_26 w => stay prog none m_24 t_23 w <| stay prog none m_22 t_21 w <| stay prog none m_20 t_19 w <| stay prog none m_16 t_15 w <| 
  par 11 w fun J_27 =>
    (∀ (σ : List (Option Value)) (w : World), J_27 σ w → un σ 0 (efv prog (Instr.buildSlice 69 3 #[(0, t_25), (1, t_4), (2, t_26)]) w fun v_28 w => stay prog none m_24 t_23 w <| stay prog none m_22 t_21 w <| stay prog none m_20 t_19 w <| stay prog none m_18 t_17 w <| stay prog none m_16 t_15 w <| J_27 (σ.set 0 (some v_28)) w)) ∧
    (∀ (σ : List (Option Value)) (w : World), J_27 σ w → un σ 1 (Calls prog 50 #[t_19] w (Ret fun v_29 w => stay prog none m_24 t_23 w <| stay prog none m_22 t_21 w <| stay prog none m_18 t_17 w <| stay prog none m_16 t_15 w <| J_27 (σ.set 1 (some v_29)) w))) ∧
    (∀ (σ : List (Option Value)) (w : World), J_27 σ w → un σ 2 (is σ 0 fun t_30 => pvv prog (Instr.build 71 #[(0, (.string ⟨#[35]⟩)), (1, t_30)]) w fun v_31 w => J_27 (σ.set 2 (some v_31)) w)) ∧
    (∀ (σ : List (Option Value)) (w : World), J_27 σ w → un σ 3 (is σ 1 fun t_32 => efv prog (Instr.buildSlice 69 1 #[(0, t_32)]) w fun v_33 w => stay prog none m_24 t_23 w <| stay prog none m_22 t_21 w <| stay prog none m_20 t_19 w <| stay prog none m_18 t_17 w <| stay prog none m_16 t_15 w <| J_27 (σ.set 3 (some v_33)) w)) ∧
    (∀ (σ : List (Option Value)) (w : World), J_27 σ w → un σ 4 (is σ 3 fun t_34 => pvv prog (Instr.build 71 #[(0, (.string ⟨#[97]⟩)), (1, t_34)]) w fun v_35 w => J_27 (σ.set 4 (some v_35)) w)) ∧
    (∀ (σ : List (Option Value)) (w : World), J_27 σ w → un σ 5 (Calls prog 50 #[t_21] w (Ret fun v_36 w => stay prog none m_24 t_23 w <| stay prog none m_20 t_19 w <| stay prog none m_18 t_17 w <| stay prog none m_16 t_15 w <| J_27 (σ.set 5 (some v_36)) w))) ∧
    (∀ (σ : List (Option Value)) (w : World), J_27 σ w → un σ 6 (is σ 5 fun t_37 => efv prog (Instr.buildSlice 69 1 #[(0, t_37)]) w fun v_38 w => stay prog none m_24 t_23 w <| stay prog none m_22 t_21 w <| stay prog none m_20 t_19 w <| stay prog none m_18 t_17 w <| stay prog none m_16 t_15 w <| J_27 (σ.set 6 (some v_38)) w)) ∧
    (∀ (σ : List (Option Value)) (w : World), J_27 σ w → un σ 7 (is σ 6 fun t_39 => pvv prog (Instr.build 71 #[(0, (.string ⟨#[98]⟩)), (1, t_39)]) w fun v_40 w => J_27 (σ.set 7 (some v_40)) w)) ∧
    (∀ (σ : List (Option Value)) (w : World), J_27 σ w → un σ 8 (Calls prog 50 #[t_23] w (Ret fun v_41 w => stay prog none m_22 t_21 w <| stay prog none m_20 t_19 w <| stay prog none m_18 t_17 w <| stay prog none m_16 t_15 w <| J_27 (σ.set 8 (some v_41)) w))) ∧
    (∀ (σ : List (Option Value)) (w : World), J_27 σ w → un σ 9 (is σ 8 fun t_42 => efv prog (Instr.buildSlice 69 1 #[(0, t_42)]) w fun v_43 w => stay prog none m_24 t_23 w <| stay prog none m_22 t_21 w <| stay prog none m_20 t_19 w <| stay prog none m_18 t_17 w <| stay prog none m_16 t_15 w <| J_27 (σ.set 9 (some v_43)) w)) ∧
    (∀ (σ : List (Option Value)) (w : World), J_27 σ w → un σ 10 (is σ 9 fun t_44 => pvv prog (Instr.build 71 #[(0, (.string ⟨#[104]⟩)), (1, t_44)]) w fun v_45 w => J_27 (σ.set 10 (some v_45)) w)) ∧
    ∀ (σ : List (Option Value)) (w : World), J_27 σ w → is σ 0 fun t_46 => is σ 1 fun t_47 => is σ 2 fun t_48 => is σ 3 fun t_49 => is σ 4 fun t_50 => is σ 5 fun t_51 => is σ 6 fun t_52 => is σ 7 fun t_53 => is σ 8 fun t_54 => is σ 9 fun t_55 => is σ 10 fun t_56 => 
    efv prog (Instr.buildSlice 51 4 #[(0, t_48), (1, t_50), (2, t_53), (3, t_56)]) w fun t_57 w => stay prog none m_24 t_23 w <| stay prog none m_22 t_21 w <| stay prog none m_20 t_19 w <| stay prog none m_18 t_17 w <| stay prog none m_16 t_15 w <| 
    lp (fun σ w again_60 => pop σ fun out_58 σ => pop σ fun i_59 σ => fin σ <|
      pv prog (oNil c_p0) w fun t_61 w =>
      pvv prog (Instr.fieldAt 61 t_61 6) w fun t_62 w =>
      ldv prog (Instr.loadAt 31 t_62) w fun t_63 w =>
      pv prog (oBi .len #[31] 3 #[false] #[t_63]) w fun t_64 w =>
      pvv prog (binOp .lss 3 i_59 t_64) w fun t_65 w =>
      cd t_65 (
        pv prog (oNil c_p0) w fun t_66 w =>
        pvv prog (Instr.fieldAt 61 t_66 6) w fun t_67 w =>
        ldv prog (Instr.loadAt 31 t_67) w fun t_68 w =>
        pvv prog (Instr.indexAt 31 t_68 i_59) w fun t_69 w =>
        ldv prog (Instr.loadAt 34 t_69) w fun t_70 w =>
        efv prog (Instr.alloc 34 true (.tuple #[])) w fun x_71 w =>
        efu prog (Instr.storeAt 34 x_71 t_70) w fun u_72 w =>
        dr w fun w =>
        pvv prog (Instr.fieldAt 34 x_71 0) w fun t_73 w =>
        pvv prog (Instr.fieldAt 34 x_71 1) w fun t_74 w =>
        pvv prog (Instr.fieldAt 34 x_71 2) w fun t_75 w =>
        pvv prog (Instr.fieldAt 34 x_71 3) w fun t_76 w =>
        bindS (vN (Instr.loadAt 3 t_73)) fun m_78 => ldv prog (Instr.loadAt 3 t_73) w fun t_77 w =>
        bindS (vN (Instr.loadAt 3 t_74)) fun m_80 => ldv prog (Instr.loadAt 3 t_74) w fun t_79 w =>
        bindS (vN (Instr.loadAt 9 t_75)) fun m_82 => ldv prog (Instr.loadAt 9 t_75) w fun t_81 w =>
        bindS (vN (Instr.loadAt 9 t_76)) fun m_84 => ldv prog (Instr.loadAt 9 t_76) w fun t_83 w =>
        Calls prog 49 #[t_77] w (Ret fun t_85 w => stay prog none m_84 t_83 w <| stay prog none m_82 t_81 w <| stay prog none m_80 t_79 w <| 
        pvv prog (binOp .add 9 (.string ⟨#[110]⟩) t_85) w fun t_86 w =>
        Calls prog 49 #[t_79] w (Ret fun t_87 w => stay prog none m_84 t_83 w <| stay prog none m_82 t_81 w <| stay prog none m_78 t_77 w <| 
        efv prog (Instr.buildSlice 69 3 #[(0, t_87), (1, t_81), (2, t_83)]) w fun t_88 w => stay prog none m_80 t_79 w <| stay prog none m_78 t_77 w <| 
        pvv prog (Instr.build 71 #[(0, t_86), (1, t_88)]) w fun t_89 w =>
        efv prog (Instr.buildSlice 51 1 #[(0, t_89)]) w fun t_90 w => stay prog none m_84 t_83 w <| stay prog none m_82 t_81 w <| stay prog none m_80 t_79 w <| stay prog none m_78 t_77 w <| 
        ef prog (oBi .append #[51, 51] 51 #[false, false] #[out_58, t_90]) w fun t_91 w => stay prog none m_84 t_83 w <| stay prog none m_82 t_81 w <| stay prog none m_80 t_79 w <| stay prog none m_78 t_77 w <| 
        pvv prog (binOp .add 3 i_59 (.int .i64 1)) w fun t_92 w =>
        again_60 [t_91, t_92] w))) <|
      Calls prog 51 #[out_58] w (Ret fun t_98 w =>
      K t_98 w)) [t_57, (.int .i64 0)] w)))
theorem B38_eq (c_p0 : Value) (w : World) (K : Value → World → Prop) : denFn prog Tryd.f38 T38 [c_p0] w K = B38 c_p0 w K := by kernel_rfl
theorem c38 {c_p0 : Value} {w : World} {K : Value → World → Prop} (h : B38 c_p0 w K) : Calls prog 38 #[c_p0] w (Ret K) :=
  denFn_calls Tryd.func38 T38_ok (Eq.mpr (B38_eq c_p0 w K) h)

-- 87 internal/strconv.formatBits
def T87 : Ann := (.seq .none (.meet 1073217536 [] (.seq .none (.seq .none .none)) (.seq .none (.seq .none (.meet 7516192770 [1] (.seq .none (.seq .none .none)) (.meet 618970019642690128860143618 [13] (.seq .none (.seq (.seq .none (.seq .none (.seq .none (.seq (.block (.loop 288212783965675522 [1, 13] (.seq (.seq .none (.seq .none .none)) (.block (.seq .none (.seq .none .none)))))) (.seq .none .none))))) (.seq .none (.seq (.block (.loop 9671332769940738559713282 [1, 13] (.seq (.seq .none (.seq .none .none)) (.block (.seq .none (.seq .none (.seq .none .none))))))) (.seq .none .none))))) (.meet 19188070608923394260936433664 [13] (.seq .none (.seq (.seq .none .none) .none)) (.seq (.seq .none (.seq (.seq .none .none) .none)) (.seq .none .none)))))))))
theorem T87_ok : chkFn prog Tryd.f87 T87 = true := by kernel_rfl
def B87 (dst_p0 u_p1 base_p2 neg_p3 append__p4 : Value) (w : World) (K : Value → World → Prop) : Prop :=
  jn (fun σ w => fin σ <|
    efv prog (Instr.alloc 140 true (.tuple #[])) w fun a_0 w =>
    jn (fun σ w => pop σ fun u_1 σ => fin σ <|
      jn (fun σ w => pop σ fun i_2 σ => fin σ <|
        jn (fun σ w => pop σ fun i_3 σ => fin σ <|
          cd append__p4 (
            pvv prog (Instr.sliceAt 140 a_0 (some i_3) none none) w fun t_4 w =>
            ef prog (oBi .append #[72, 72] 72 #[false, false] #[dst_p0, t_4]) w fun t_5 w =>
            K (.tuple #[t_5, (.string ⟨#[]⟩)]) w) <|
          pvv prog (Instr.sliceAt 140 a_0 (some i_3) none none) w fun t_6 w =>
          efv prog (convert 72 9 t_6) w fun t_7 w =>
          K (.tuple #[(.slice none 0 0), t_7]) w) fun k_8 =>
        cd neg_p3 (
          pvv prog (binOp .sub 3 i_2 (.int .i64 1)) w fun t_9 w =>
          pvv prog (Instr.indexAt 140 a_0 t_9) w fun t_10 w =>
          efu prog (Instr.storeAt 5 t_10 (.int .u8 45)) w fun u_11 w =>
          k_8 [t_9] w) <|
        k_8 [i_2] w) fun k_12 =>
      Calls prog 101 #[base_p2] w (Ret fun t_13 w =>
      cd t_13 (
        pvv prog (convert 3 104 base_p2) w fun t_14 w =>
        Calls prog 102 #[t_14] w (Ret fun t_15 w =>
        pvv prog (convert 3 104 t_15) w fun t_16 w =>
        pvv prog (convert 3 96 base_p2) w fun t_17 w =>
        pvv prog (convert 3 104 base_p2) w fun t_18 w =>
        pvv prog (binOp .sub 104 t_18 (.int .u64 1)) w fun t_19 w =>
        lp (fun σ w again_22 => pop σ fun u_20 σ => pop σ fun i_21 σ => fin σ <|
          pvv prog (binOp .geq 96 u_20 t_17) w fun t_23 w =>
          cd t_23 (
            pvv prog (binOp .sub 3 i_21 (.int .i64 1)) w fun t_24 w =>
            pvv prog (binOp .and 104 u_20 t_19) w fun t_25 w =>
            pvv prog (Instr.index 9 (.string ⟨#[48, 49, 50, 51, 52, 53, 54, 55, 56, 57, 97, 98, 99, 100, 101, 102, 103, 104, 105, 106, 107, 108, 109, 110, 111, 112, 113, 114, 115, 116, 117, 118, 119, 120, 121, 122]⟩) t_25) w fun t_26 w =>
            pvv prog (Instr.indexAt 140 a_0 t_24) w fun t_27 w =>
            efu prog (Instr.storeAt 5 t_27 t_26) w fun u_28 w =>
            pvv prog (binOp .shr 96 u_20 t_16) w fun t_29 w =>
            again_22 [t_29, t_24] w) <|
          pvv prog (binOp .sub 3 i_21 (.int .i64 1)) w fun t_30 w =>
          pvv prog (Instr.index 9 (.string ⟨#[48, 49, 50, 51, 52, 53, 54, 55, 56, 57, 97, 98, 99, 100, 101, 102, 103, 104, 105, 106, 107, 108, 109, 110, 111, 112, 113, 114, 115, 116, 117, 118, 119, 120, 121, 122]⟩) u_20) w fun t_31 w =>
          pvv prog (Instr.indexAt 140 a_0 t_30) w fun t_32 w =>
          efu prog (Instr.storeAt 5 t_32 t_31) w fun u_33 w =>
          k_12 [t_30] w) [u_1, (.int .i64 65)] w)) <|
      pvv prog (convert 3 96 base_p2) w fun t_34 w =>
      lp (fun σ w again_37 => pop σ fun u_35 σ => pop σ fun i_36 σ => fin σ <|
        pvv prog (binOp .geq 96 u_35 t_34) w fun t_38 w =>
        cd t_38 (
          pvv prog (binOp .sub 3 i_36 (.int .i64 1)) w fun t_39 w =>
          pvv prog (binOp .quo 96 u_35 t_34) w fun t_40 w =>
          pvv prog (binOp .mul 96 t_40 t_34) w fun t_41 w =>
          pvv prog (binOp .sub 96 u_35 t_41) w fun t_42 w =>
          pvv prog (Instr.index 9 (.string ⟨#[48, 49, 50, 51, 52, 53, 54, 55, 56, 57, 97, 98, 99, 100, 101, 102, 103, 104, 105, 106, 107, 108, 109, 110, 111, 112, 113, 114, 115, 116, 117, 118, 119, 120, 121, 122]⟩) t_42) w fun t_43 w =>
          pvv prog (Instr.indexAt 140 a_0 t_39) w fun t_44 w =>
          efu prog (Instr.storeAt 5 t_44 t_43) w fun u_45 w =>
          again_37 [t_40, t_39] w) <|
        pvv prog (binOp .sub 3 i_36 (.int .i64 1)) w fun t_46 w =>
        pvv prog (Instr.index 9 (.string ⟨#[48, 49, 50, 51, 52, 53, 54, 55, 56, 57, 97, 98, 99, 100, 101, 102, 103, 104, 105, 106, 107, 108, 109, 110, 111, 112, 113, 114, 115, 116, 117, 118, 119, 120, 121, 122]⟩) u_35) w fun t_47 w =>
        pvv prog (Instr.indexAt 140 a_0 t_46) w fun t_48 w =>
        efu prog (Instr.storeAt 5 t_48 t_47) w fun u_49 w =>
        k_12 [t_46] w) [u_1, (.int .i64 65)] w)) fun k_50 =>
    cd neg_p3 (
      pvv prog (Op.unary .neg u_p1) w fun t_51 w =>
      k_50 [t_51] w) <|
    k_50 [u_p1] w) fun k_52 =>
  pvv prog (binOp .lss 3 base_p2 (.int .i64 2)) w fun t_53 w =>
  gate (some (t_53, false)) (fun K => K base_p2 w) w fun t_54 w =>
  gate (some (t_53, false)) (fun K => pvv prog (oEq .eql 3 (.tmp 22) (.const (.int .i64 10)) t_54 (.int .i64 10)) w K) w fun t_55 w =>
  pv prog (oPick t_53 (.bool true) t_55) w fun t_56 w =>
  gate (some (t_56, false)) (fun K => K base_p2 w) w fun t_57 w =>
  gate (some (t_56, false)) (fun K => pvv prog (binOp .gtr 3 t_57 (.int .i64 36)) w K) w fun t_58 w =>
  pv prog (oPick t_56 (.bool true) t_58) w fun t_59 w =>
  cd t_59 (
    pvv prog (Instr.makeInterface 9 (.string ⟨#[115, 116, 114, 99, 111, 110, 118, 58, 32, 105, 108, 108, 101, 103, 97, 108, 32, 65, 112, 112, 101, 110, 100, 73, 110, 116, 47, 70, 111, 114, 109, 97, 116, 73, 110, 116, 32, 98, 97, 115, 101]⟩)) w fun t_60 w =>
    efv prog (Instr.panic t_60) w fun u_61 w =>
    k_52 [] w) <|
  k_52 [] w
theorem B87_eq (dst_p0 u_p1 base_p2 neg_p3 append__p4 : Value) (w : World) (K : Value → World → Prop) : denFn prog Tryd.f87 T87 [dst_p0, u_p1, base_p2, neg_p3, append__p4] w K = B87 dst_p0 u_p1 base_p2 neg_p3 append__p4 w K := by kernel_rfl
theorem c87 {dst_p0 u_p1 base_p2 neg_p3 append__p4 : Value} {w : World} {K : Value → World → Prop} (h : B87 dst_p0 u_p1 base_p2 neg_p3 append__p4 w K) : Calls prog 87 #[dst_p0, u_p1, base_p2, neg_p3, append__p4] w (Ret K) :=
  denFn_calls Tryd.func87 T87_ok (Eq.mpr (B87_eq dst_p0 u_p1 base_p2 neg_p3 append__p4 w K) h)

-- 57 holdfast/hash.Sum
def T57 : Ann := (.seq .none (.seq .none (.seq .none (.seq .none (.seq (.block (.loop 33488897 [0] (.seq (.seq .none (.seq .none .none)) (.seq (.block .none) .none)))) (.seq .none (.seq .none (.seq (.seq .none (.block (.loop 281440616972480 [6, 35] (.seq .none (.seq (.seq .none .none) (.seq (.block (.seq .none .none)) .none)))))) (.seq (.block (.loop 143833713099145280 [6] (.seq (.seq .none (.seq .none .none)) (.seq (.block .none) .none)))) (.seq (.seq .none (.block (.loop 618970019354459761297851136 [58] (.seq .none (.seq (.seq .none .none) (.seq (.block (.seq .none .none)) .none)))))) (.seq .none .none)))))))))))
theorem T57_ok : chkFn prog Tryd.f57 T57 = true := by kernel_rfl
def B57 (b_p0 : Value) (w : World) (K : Value → World → Prop) : Prop :=
  efv prog (Instr.alloc 36 true (.tuple #[])) w fun out_0 w =>
  pvv prog (Instr.build 107 #[(0, (.int .u32 1779033703)), (1, (.int .u32 3144134277)), (2, (.int .u32 1013904242)), (3, (.int .u32 2773480762)), (4, (.int .u32 1359893119)), (5, (.int .u32 2600822924)), (6, (.int .u32 528734635)), (7, (.int .u32 1541459225))]) w fun t_1 w =>
  efv prog (Instr.alloc 107 true (.tuple #[])) w fun h_2 w =>
  efu prog (Instr.storeAt 107 h_2 t_1) w fun u_3 w =>
  Calls prog 67 #[] w (Ret fun t_4 w =>
  pv prog (oBi .len #[72] 3 #[false] #[b_p0]) w fun t_5 w =>
  pvv prog (convert 3 96 t_5) w fun t_6 w =>
  pvv prog (binOp .shl 96 t_6 (.int .u64 3)) w fun t_7 w =>
  lp (fun σ w again_9 => pop σ fun b_8 σ => fin σ <|
    pv prog (oBi .len #[72] 3 #[false] #[b_8]) w fun t_10 w =>
    pvv prog (binOp .geq 3 t_10 (.int .i64 64)) w fun t_11 w =>
    cd t_11 (
      ldv prog (Instr.loadAt 107 h_2) w fun t_12 w =>
      Calls prog 68 #[t_12, t_4, b_8] w (Ret fun t_13 w =>
      efu prog (Instr.storeAt 107 h_2 t_13) w fun u_14 w =>
      pvv prog (Instr.sliceAt 72 b_8 (some (.int .i64 64)) none none) w fun t_15 w =>
      again_9 [t_15] w)) <|
    Calls prog 69 #[b_8] w (Ret fun t_16 w =>
    efv prog (Instr.buildSlice 72 1 #[(0, (.int .u8 128))]) w fun t_17 w =>
    ef prog (oBi .append #[72, 72] 72 #[false, false] #[t_16, t_17]) w fun t_18 w =>
    pv prog (oBi .len #[72] 3 #[false] #[b_8]) w fun t_19 w =>
    pvv prog (binOp .sub 3 (.int .i64 119) t_19) w fun t_20 w =>
    pvv prog (binOp .rem 3 t_20 (.int .i64 64)) w fun t_21 w =>
    ef prog (oBi .append #[72, 3] 72 #[false, false] #[t_18, t_21]) w fun t_22 w =>
    lp (fun σ w again_25 => pop σ fun end_23 σ => pop σ fun t_24 σ => fin σ <|
      pvv prog (binOp .lss 3 t_24 (.int .i64 8)) w fun t_26 w =>
      cd t_26 (
        pvv prog (binOp .mul 3 (.int .i64 8) t_24) w fun t_27 w =>
        pvv prog (binOp .sub 3 (.int .i64 56) t_27) w fun t_28 w =>
        pvv prog (binOp .shr 96 t_7 t_28) w fun t_29 w =>
        pvv prog (convert 96 5 t_29) w fun t_30 w =>
        efv prog (Instr.buildSlice 72 1 #[(0, t_30)]) w fun t_31 w =>
        ef prog (oBi .append #[72, 72] 72 #[false, false] #[end_23, t_31]) w fun t_32 w =>
        pvv prog (binOp .add 3 t_24 (.int .i64 1)) w fun t_33 w =>
        again_25 [t_32, t_33] w) <|
      lp (fun σ w again_35 => pop σ fun end_34 σ => fin σ <|
        pv prog (oBi .len #[72] 3 #[false] #[end_34]) w fun t_36 w =>
        pvv prog (binOp .gtr 3 t_36 (.int .i64 0)) w fun t_37 w =>
        cd t_37 (
          ldv prog (Instr.loadAt 107 h_2) w fun t_38 w =>
          Calls prog 68 #[t_38, t_4, end_34] w (Ret fun t_39 w =>
          efu prog (Instr.storeAt 107 h_2 t_39) w fun u_40 w =>
          pvv prog (Instr.sliceAt 72 end_34 (some (.int .i64 64)) none none) w fun t_41 w =>
          again_35 [t_41] w)) <|
        ldv prog (Instr.loadAt 107 h_2) w fun t_42 w =>
        lp (fun σ w again_44 => pop σ fun t_43 σ => fin σ <|
          pvv prog (binOp .lss 3 t_43 (.int .i64 8)) w fun t_45 w =>
          cd t_45 (
            pvv prog (Instr.index 107 t_42 t_43) w fun t_46 w =>
            pvv prog (binOp .mul 3 (.int .i64 4) t_43) w fun t_47 w =>
            pvv prog (binOp .mul 3 (.int .i64 4) t_43) w fun t_48 w =>
            pvv prog (binOp .add 3 t_48 (.int .i64 1)) w fun t_49 w =>
            pvv prog (binOp .mul 3 (.int .i64 4) t_43) w fun t_50 w =>
            pvv prog (binOp .add 3 t_50 (.int .i64 2)) w fun t_51 w =>
            pvv prog (binOp .mul 3 (.int .i64 4) t_43) w fun t_52 w =>
            pvv prog (binOp .add 3 t_52 (.int .i64 3)) w fun t_53 w =>
            pvv prog (binOp .shr 101 t_46 (.int .u64 24)) w fun t_54 w =>
            pvv prog (convert 101 5 t_54) w fun t_55 w =>
            pvv prog (binOp .shr 101 t_46 (.int .u64 16)) w fun t_56 w =>
            pvv prog (convert 101 5 t_56) w fun t_57 w =>
            pvv prog (binOp .shr 101 t_46 (.int .u64 8)) w fun t_58 w =>
            pvv prog (convert 101 5 t_58) w fun t_59 w =>
            pvv prog (convert 101 5 t_46) w fun t_60 w =>
            pvv prog (Instr.indexAt 36 out_0 t_47) w fun t_61 w =>
            efu prog (Instr.storeAt 5 t_61 t_55) w fun u_62 w =>
            pvv prog (Instr.indexAt 36 out_0 t_49) w fun t_63 w =>
            efu prog (Instr.storeAt 5 t_63 t_57) w fun u_64 w =>
            pvv prog (Instr.indexAt 36 out_0 t_51) w fun t_65 w =>
            efu prog (Instr.storeAt 5 t_65 t_59) w fun u_66 w =>
            pvv prog (Instr.indexAt 36 out_0 t_53) w fun t_67 w =>
            efu prog (Instr.storeAt 5 t_67 t_60) w fun u_68 w =>
            pvv prog (binOp .add 3 t_43 (.int .i64 1)) w fun t_69 w =>
            again_44 [t_69] w) <|
          ldv prog (Instr.loadAt 36 out_0) w fun t_70 w =>
          efu prog (Instr.storeAt 36 out_0 t_70) w fun u_71 w =>
          ∃ r_72, (do loadVar 36 (← asAddr out_0)).run prog w = .ok r_72 w ∧ K r_72 w) [(.int .i64 0)] w) [end_23] w) [t_22, (.int .i64 0)] w)) [b_p0] w)
theorem B57_eq (b_p0 : Value) (w : World) (K : Value → World → Prop) : denFn prog Tryd.f57 T57 [b_p0] w K = B57 b_p0 w K := by kernel_rfl
theorem c57 {b_p0 : Value} {w : World} {K : Value → World → Prop} (h : B57 b_p0 w K) : Calls prog 57 #[b_p0] w (Ret K) :=
  denFn_calls Tryd.func57 T57_ok (Eq.mpr (B57_eq b_p0 w K) h)

-- 20 (*holdfast/audit.Chain).Verify
def T20 : Ann := (.seq .none (.seq (.seq .none (.seq (.seq .none .none) .none)) (.seq .none (.seq (.seq .none (.block (.range .none (.block (.seq (.seq (.draw [.op 0 .pure, .op 1 .load, .op 2 .load, .op 3 .pure, .op 4 .pure, .op 5 .pure, .op 6 .load, .op 7 .pure, .op 8 .pure, .op 9 .load, .op 10 .load, .op 11 .pure, .op 12 .pure, .op 13 .load, .op 14 .pure, .op 15 .pure]) (.seq (.seq .none .none) .none)) .none))))) (.seq (.seq (.draw [.op 0 .pure, .op 1 .load, .op 2 .load, .op 3 .pure, .op 4 .pure, .op 5 .load, .op 6 .pure]) (.seq (.seq .none .none) .none)) (.seq .none .none))))))
theorem T20_ok : chkFn prog Tryd.f20 T20 = true := by kernel_rfl
def B20 (c_p0 : Value) (w : World) (K : Value → World → Prop) : Prop :=
  efv prog (Instr.box 23 c_p0) w fun c_0 w =>
  efv prog (Instr.alloc 41 true (.tuple #[])) w fun t_1 w =>
  ldv prog (Instr.loadAt 23 c_0) w fun t_2 w =>
  pvv prog (oEq .eql 23 (.tmp 5) (.const (.pointer none)) t_2 (.pointer none)) w fun t_3 w =>
  cd t_3 (
    efu prog (Instr.storeAt 41 t_1 (.int .i64 1)) w fun u_4 w =>
    ∃ r_5, (do loadVar 41 (← asAddr t_1)).run prog w = .ok r_5 w ∧ K r_5 w) <|
  efv prog (Instr.alloc 57 true (.tuple #[])) w fun last_6 w =>
  ldv prog (Instr.loadAt 23 c_0) w fun t_7 w =>
  Calls prog 32 #[t_7] w (Ret fun t_8 w =>
  rng prog 1 t_8 (fun σ w bg_10 ex_11 => pop σ fun t_9 σ => fin σ <|
    efv prog (Instr.alloc 57 true (.tuple #[])) w fun p_12 w =>
    efu prog (Instr.storeAt 57 p_12 t_9) w fun u_13 w =>
    bg_10 w fun w =>
    dr w fun w =>
    pvv prog (Instr.fieldAt 57 p_12 0) w fun t_14 w =>
    bindS (vN (Instr.loadAt 3 t_14)) fun m_16 => ldv prog (Instr.loadAt 3 t_14) w fun t_15 w =>
    bindS (vN (Instr.loadAt 23 c_0)) fun m_18 => ldv prog (Instr.loadAt 23 c_0) w fun t_17 w =>
    pv prog (oNil t_17) w fun t_19 w =>
    pvv prog (Instr.fieldAt 59 t_19 1) w fun t_20 w =>
    pvv prog (Instr.fieldAt 57 t_20 0) w fun t_21 w =>
    bindS (vN (Instr.loadAt 3 t_21)) fun m_23 => ldv prog (Instr.loadAt 3 t_21) w fun t_22 w =>
    pvv prog (oEq .eql 3 (.tmp 11) (.tmp 16) t_15 t_22) w fun t_24 w =>
    bindS (vN (Instr.loadAt 57 p_12)) fun m_26 => gate (some (t_24, true)) (fun K => ldv prog (Instr.loadAt 57 p_12) w K) w fun t_25 w =>
    bindS (vN (Instr.loadAt 23 c_0)) fun m_28 => gate (some (t_24, true)) (fun K => ldv prog (Instr.loadAt 23 c_0) w K) w fun t_27 w =>
    gate (some (t_24, true)) (fun K => pv prog (oNil t_27) w K) w fun t_29 w =>
    gate (some (t_24, true)) (fun K => pvv prog (Instr.fieldAt 59 t_29 1) w K) w fun t_30 w =>
    bindS (vN (Instr.loadAt 57 t_30)) fun m_32 => gate (some (t_24, true)) (fun K => ldv prog (Instr.loadAt 57 t_30) w K) w fun t_31 w =>
    gate (some (t_24, true)) (fun K => pvv prog (oEq .neq 57 (.tmp 19) (.tmp 23) t_25 t_31) w K) w fun t_33 w =>
    pv prog (oPick t_24 t_33 (.bool false)) w fun t_34 w =>
    cd t_34 (
      efu prog (Instr.storeAt 41 t_1 (.int .i64 15)) w fun u_35 w =>
      ex_11 .ret w) <|
    ldv prog (Instr.loadAt 57 p_12) w fun t_36 w =>
    efu prog (Instr.storeAt 57 last_6 t_36) w fun u_37 w =>
    ex_11 .normal w) w fun p_39 D_38 w =>
  jump (
    dr w fun w =>
    pvv prog (Instr.fieldAt 57 last_6 1) w fun t_40 w =>
    bindS (vN (Instr.loadAt 36 t_40)) fun m_42 => ldv prog (Instr.loadAt 36 t_40) w fun t_41 w =>
    bindS (vN (Instr.loadAt 23 c_0)) fun m_44 => ldv prog (Instr.loadAt 23 c_0) w fun t_43 w =>
    pv prog (oNil t_43) w fun t_45 w =>
    pvv prog (Instr.fieldAt 59 t_45 2) w fun t_46 w =>
    bindS (vN (Instr.loadAt 36 t_46)) fun m_48 => ldv prog (Instr.loadAt 36 t_46) w fun t_47 w =>
    pvv prog (oEq .neq 36 (.tmp 28) (.tmp 32) t_41 t_47) w fun t_49 w =>
    cd t_49 (
      efu prog (Instr.storeAt 41 t_1 (.int .i64 15)) w fun u_50 w =>
      und [D_38] w fun w => ∃ r_51, (do loadVar 41 (← asAddr t_1)).run prog w = .ok r_51 w ∧ K r_51 w) <|
    efu prog (Instr.storeAt 41 t_1 (.int .i64 0)) w fun u_52 w =>
    und [D_38] w fun w => ∃ r_53, (do loadVar 41 (← asAddr t_1)).run prog w = .ok r_53 w ∧ K r_53 w) (
    und [D_38] w fun w => ∃ r_54, (do loadVar 41 (← asAddr t_1)).run prog w = .ok r_54 w ∧ K r_54 w) [] p_39)
theorem B20_eq (c_p0 : Value) (w : World) (K : Value → World → Prop) : denFn prog Tryd.f20 T20 [c_p0] w K = B20 c_p0 w K := by kernel_rfl
theorem c20 {c_p0 : Value} {w : World} {K : Value → World → Prop} (h : B20 c_p0 w K) : Calls prog 20 #[c_p0] w (Ret K) :=
  denFn_calls Tryd.func20 T20_ok (Eq.mpr (B20_eq c_p0 w K) h)

-- 51 holdfast/holdfastref09.Sorted
def T51 : Ann := (.seq .none (.seq .none (.seq (.seq .none (.block (.loop 1125899906842616 [3, 4] (.seq (.seq .none (.seq .none .none)) (.seq (.block (.seq .none (.seq (.block (.loop 8589901856 [5] (.seq (.seq (.draw [.op 0 .pure, .op 1 .pure, .op 2 .pure, .op 3 .pure, .op 4 .pure, .op 5 .pure, .op 6 .pure, .op 7 .pure, .op 9 .pure, .op 10 .pure, .op 11 .pure, .op 12 .pure, .op 8 .load, .op 13 .load, .op 14 .pure, .op 15 .pure]) (.seq .none .none)) (.block .none)))) (.seq .none (.seq .none (.seq .none .none)))))) .none))))) (.seq .none .none))))
theorem T51_ok : chkFn prog Tryd.f51 T51 = true := by kernel_rfl
def B51 (l_p0 : Value) (w : World) (K : Value → World → Prop) : Prop :=
  lp (fun σ w again_2 => pop σ fun out_0 σ => pop σ fun i_1 σ => fin σ <|
    pv prog (oBi .len #[51] 3 #[false] #[l_p0]) w fun t_3 w =>
    pvv prog (binOp .lss 3 i_1 t_3) w fun t_4 w =>
    cd t_4 (
      pv prog (oBi .len #[51] 3 #[false] #[out_0]) w fun t_5 w =>
      lp (fun σ w again_7 => pop σ fun at_6 σ => fin σ <|
        dr w fun w =>
        pvv prog (binOp .gtr 3 at_6 (.int .i64 0)) w fun t_8 w =>
        gate (some (t_8, true)) (fun K => K out_0 w) w fun t_9 w =>
        gate (some (t_8, true)) (fun K => K at_6 w) w fun t_10 w =>
        gate (some (t_8, true)) (fun K => pvv prog (binOp .sub 3 t_10 (.int .i64 1)) w K) w fun t_11 w =>
        gate (some (t_8, true)) (fun K => pvv prog (Instr.indexAt 51 t_9 t_11) w K) w fun t_12 w =>
        gate (some (t_8, true)) (fun K => pvv prog (Instr.fieldAt 71 t_12 0) w K) w fun t_13 w =>
        gate (some (t_8, true)) (fun K => K l_p0 w) w fun t_14 w =>
        gate (some (t_8, true)) (fun K => K i_1 w) w fun t_15 w =>
        gate (some (t_8, true)) (fun K => pvv prog (Instr.indexAt 51 t_14 t_15) w K) w fun t_16 w =>
        gate (some (t_8, true)) (fun K => pvv prog (Instr.fieldAt 71 t_16 0) w K) w fun t_17 w =>
        bindS (vN (Instr.loadAt 9 t_13)) fun m_19 => gate (some (t_8, true)) (fun K => ldv prog (Instr.loadAt 9 t_13) w K) w fun t_18 w =>
        bindS (vN (Instr.loadAt 9 t_17)) fun m_21 => gate (some (t_8, true)) (fun K => ldv prog (Instr.loadAt 9 t_17) w K) w fun t_20 w =>
        gate (some (t_8, true)) (fun K => pvv prog (binOp .gtr 9 t_18 t_20) w K) w fun t_22 w =>
        pv prog (oPick t_8 t_22 (.bool false)) w fun t_23 w =>
        cd t_23 (
          pvv prog (binOp .sub 3 at_6 (.int .i64 1)) w fun t_24 w =>
          again_7 [t_24] w) <|
        pvv prog (Instr.sliceAt 51 out_0 none (some at_6) none) w fun t_25 w =>
        ef prog (oBi .append #[51, 51] 51 #[false, false] #[(.slice none 0 0), t_25]) w fun t_26 w =>
        pvv prog (Instr.indexAt 51 l_p0 i_1) w fun t_27 w =>
        ldv prog (Instr.loadAt 71 t_27) w fun t_28 w =>
        efv prog (Instr.buildSlice 51 1 #[(0, t_28)]) w fun t_29 w =>
        ef prog (oBi .append #[51, 51] 51 #[false, false] #[t_26, t_29]) w fun t_30 w =>
        pvv prog (Instr.sliceAt 51 out_0 (some at_6) none none) w fun t_31 w =>
        ef prog (oBi .append #[51, 51] 51 #[false, false] #[t_30, t_31]) w fun t_32 w =>
        pvv prog (binOp .add 3 i_1 (.int .i64 1)) w fun t_33 w =>
        again_2 [t_32, t_33] w) [t_5] w) <|
    K out_0 w) [(.slice none 0 0), (.int .i64 0)] w
theorem B51_eq (l_p0 : Value) (w : World) (K : Value → World → Prop) : denFn prog Tryd.f51 T51 [l_p0] w K = B51 l_p0 w K := by kernel_rfl
theorem c51 {l_p0 : Value} {w : World} {K : Value → World → Prop} (h : B51 l_p0 w K) : Calls prog 51 #[l_p0] w (Ret K) :=
  denFn_calls Tryd.func51 T51_ok (Eq.mpr (B51_eq l_p0 w K) h)

-- 53 holdfast/codec.ToNumber
def T53 : Ann := (.seq .none (.seq (.seq .none (.seq (.seq .none .none) .none)) (.seq .none (.seq (.seq .none (.seq (.seq .none .none) .none)) (.seq .none (.seq (.seq .none (.seq (.seq .none .none) .none)) (.seq .none .none)))))))
theorem T53_ok : chkFn prog Tryd.f53 T53 = true := by kernel_rfl
def B53 (s_p0 : Value) (w : World) (K : Value → World → Prop) : Prop :=
  pvv prog (oEq .eql 9 (.tmp 7) (.const (.string ⟨#[]⟩)) s_p0 (.string ⟨#[]⟩)) w fun t_0 w =>
  gate (some (t_0, false)) (fun K => K s_p0 w) w fun t_1 w =>
  gate (some (t_0, false)) (fun K => pvv prog (Instr.index 9 t_1 (.int .i64 0)) w K) w fun t_2 w =>
  gate (some (t_0, false)) (fun K => pvv prog (convert 5 3 t_2) w K) w fun t_3 w =>
  gate (some (t_0, false)) (fun K => K s_p0 w) w fun t_4 w =>
  gate (some (t_0, false)) (fun K => pv prog (oBi .len #[9] 3 #[false] #[t_4]) w K) w fun t_5 w =>
  gate (some (t_0, false)) (fun K => pvv prog (binOp .add 3 (.int .i64 97) t_5) w K) w fun t_6 w =>
  gate (some (t_0, false)) (fun K => pvv prog (binOp .sub 3 t_6 (.int .i64 1)) w K) w fun t_7 w =>
  gate (some (t_0, false)) (fun K => pvv prog (oEq .neq 3 (.tmp 12) (.tmp 16) t_3 t_7) w K) w fun t_8 w =>
  pv prog (oPick t_0 (.bool true) t_8) w fun t_9 w =>
  gate (some (t_9, false)) (fun K => K s_p0 w) w fun t_10 w =>
  gate (some (t_9, false)) (fun K => pv prog (oBi .len #[9] 3 #[false] #[t_10]) w K) w fun t_11 w =>
  gate (some (t_9, false)) (fun K => pvv prog (binOp .gtr 3 t_11 (.int .i64 17)) w K) w fun t_12 w =>
  pv prog (oPick t_9 (.bool true) t_12) w fun t_13 w =>
  cd t_13 (
    K (.tuple #[(.int .i64 0), (.int .i64 3)]) w) <|
  pvv prog (Instr.sliceAt 9 s_p0 (some (.int .i64 1)) none none) w fun t_14 w =>
  Calls prog 62 #[t_14, (.string ⟨#[48]⟩)] w (Ret fun t_15 w =>
  gate (some (t_15, false)) (fun K => K t_14 w) w fun t_16 w =>
  gate (some (t_15, false)) (fun K => Calls prog 63 #[t_16, (.string ⟨#[48, 49, 50, 51, 52, 53, 54, 55, 56, 57, 97, 98, 99, 100, 101, 102]⟩)] w (Ret K)) w fun t_17 w =>
  gate (some (t_15, false)) (fun K => pvv prog (oEq .neq 9 (.tmp 30) (.const (.string ⟨#[]⟩)) t_17 (.string ⟨#[]⟩)) w K) w fun t_18 w =>
  pv prog (oPick t_15 (.bool true) t_18) w fun t_19 w =>
  cd t_19 (
    K (.tuple #[(.int .i64 0), (.int .i64 3)]) w) <|
  pvv prog (binOp .add 9 (.string ⟨#[48]⟩) t_14) w fun t_20 w =>
  Calls prog 64 #[t_20, (.int .i64 16), (.int .i64 64)] w (Ret fun t_21 w =>
  pvv prog (Instr.extract t_21 0) w fun t_22 w =>
  pvv prog (Instr.extract t_21 1) w fun t_23 w =>
  pvv prog (oEq .neq 98 (.tmp 39) (.const .nilIface) t_23 .nilIface) w fun t_24 w =>
  gate (some (t_24, false)) (fun K => K t_22 w) w fun t_25 w =>
  gate (some (t_24, false)) (fun K => pvv prog (binOp .gtr 96 t_25 (.int .u64 4611686018427387904)) w K) w fun t_26 w =>
  pv prog (oPick t_24 (.bool true) t_26) w fun t_27 w =>
  cd t_27 (
    K (.tuple #[(.int .i64 0), (.int .i64 2)]) w) <|
  pvv prog (convert 96 3 t_22) w fun t_28 w =>
  K (.tuple #[t_28, (.int .i64 0)]) w))
theorem B53_eq (s_p0 : Value) (w : World) (K : Value → World → Prop) : denFn prog Tryd.f53 T53 [s_p0] w K = B53 s_p0 w K := by kernel_rfl
theorem c53 {s_p0 : Value} {w : World} {K : Value → World → Prop} (h : B53 s_p0 w K) : Calls prog 53 #[s_p0] w (Ret K) :=
  denFn_calls Tryd.func53 T53_ok (Eq.mpr (B53_eq s_p0 w K) h)

-- 6 holdfast/holdfastlaw14.AuditPlays
def T6 : Ann := (.seq .none (.seq .none (.seq (.seq .none (.seq (.seq .none .none) .none)) (.seq .none (.seq (.seq .none (.block (.loop 8796092956900 [5, 6, 7] (.seq (.seq .none (.seq .none .none)) (.seq (.block (.meet 34292629600 [5, 6] (.seq .none (.seq .none .none)) (.seq .none (.seq (.seq .none .none) .none)))) .none))))) (.seq .none .none))))))
theorem T6_ok : chkFn prog Tryd.f6 T6 = true := by kernel_rfl
def B6 (l_p0 : Value) (w : World) (K : Value → World → Prop) : Prop :=
  Calls prog 9 #[] w (Ret fun t_0 w =>
  Calls prog 10 #[] w (Ret fun t_1 w =>
  Calls prog 11 #[] w (Ret fun t_2 w =>
  pvv prog (Op.unary .not t_2) w fun t_3 w =>
  cd t_3 (
    K (.bool false) w) <|
  Calls prog 21 #[t_0] w (Ret fun t_4 w =>
  Calls prog 22 #[t_1] w (Ret fun t_5 w =>
  lp (fun σ w again_9 => pop σ fun g_6 σ => pop σ fun h_7 σ => pop σ fun i_8 σ => fin σ <|
    pv prog (oBi .len #[22] 3 #[false] #[l_p0]) w fun t_10 w =>
    pvv prog (binOp .lss 3 i_8 t_10) w fun t_11 w =>
    gate (some (t_11, true)) (fun K => K i_8 w) w fun t_12 w =>
    gate (some (t_11, true)) (fun K => pvv prog (binOp .lss 3 t_12 (.int .i64 100)) w K) w fun t_13 w =>
    pv prog (oPick t_11 t_13 (.bool false)) w fun t_14 w =>
    cd t_14 (
      jn (fun σ w => pop σ fun g_15 σ => pop σ fun h_16 σ => fin σ <|
        pvv prog (Instr.indexAt 22 l_p0 i_8) w fun t_17 w =>
        ldv prog (Instr.loadAt 30 t_17) w fun t_18 w =>
        Calls prog 12 #[t_0, t_1, t_18] w (Ret fun t_19 w =>
        pvv prog (Op.unary .not t_19) w fun t_20 w =>
        cd t_20 (
          K (.bool false) w) <|
        pvv prog (binOp .add 3 i_8 (.int .i64 1)) w fun t_21 w =>
        again_9 [g_15, h_16, t_21] w)) fun k_22 =>
      pv prog (oBi .len #[22] 3 #[false] #[l_p0]) w fun t_23 w =>
      pvv prog (binOp .quo 3 t_23 (.int .i64 2)) w fun t_24 w =>
      pvv prog (oEq .eql 3 (.tmp 26) (.tmp 29) i_8 t_24) w fun t_25 w =>
      cd t_25 (
        Calls prog 21 #[t_0] w (Ret fun t_26 w =>
        Calls prog 22 #[t_1] w (Ret fun t_27 w =>
        k_22 [t_26, t_27] w))) <|
      k_22 [g_6, h_7] w) <|
    Calls prog 23 #[t_0, t_1] w (Ret fun t_28 w =>
    gate (some (t_28, true)) (fun K => K g_6 w) w fun t_29 w =>
    gate (some (t_28, true)) (fun K => K h_7 w) w fun t_30 w =>
    gate (some (t_28, true)) (fun K => Calls prog 23 #[t_29, t_30] w (Ret K)) w fun t_31 w =>
    pv prog (oPick t_28 t_31 (.bool false)) w fun t_32 w =>
    K t_32 w)) [t_4, t_5, (.int .i64 0)] w)))))
theorem B6_eq (l_p0 : Value) (w : World) (K : Value → World → Prop) : denFn prog Tryd.f6 T6 [l_p0] w K = B6 l_p0 w K := by kernel_rfl
theorem c6 {l_p0 : Value} {w : World} {K : Value → World → Prop} (h : B6 l_p0 w K) : Calls prog 6 #[l_p0] w (Ret K) :=
  denFn_calls Tryd.func6 T6_ok (Eq.mpr (B6_eq l_p0 w K) h)

-- 99 math/bits.Len64
def T99 : Ann := (.seq .none (.meet 125 [0, 2] (.seq .none (.seq (.seq .none .none) .none)) (.meet 8069 [0, 2] (.seq .none (.seq (.seq .none .none) .none)) (.meet 516101 [0, 2] (.seq .none (.seq (.seq .none .none) .none)) (.seq .none .none)))))
theorem T99_ok : chkFn prog Tryd.f99 T99 = true := by kernel_rfl
def B99 (x_p0 : Value) (w : World) (K : Value → World → Prop) : Prop :=
  jn (fun σ w => pop σ fun x_0 σ => pop σ fun n_1 σ => fin σ <|
    jn (fun σ w => pop σ fun x_2 σ => pop σ fun n_3 σ => fin σ <|
      jn (fun σ w => pop σ fun x_4 σ => pop σ fun n_5 σ => fin σ <|
        pvv prog (convert 96 5 x_4) w fun t_6 w =>
        pvv prog (Instr.index 9 (.string ⟨#[0, 1, 2, 2, 3, 3, 3, 3, 4, 4, 4, 4, 4, 4, 4, 4, 5, 5, 5, 5, 5, 5, 5, 5, 5, 5, 5, 5, 5, 5, 5, 5, 6, 6, 6, 6, 6, 6, 6, 6, 6, 6, 6, 6, 6, 6, 6, 6, 6, 6, 6, 6, 6, 6, 6, 6, 6, 6, 6, 6, 6, 6, 6, 6, 7, 7, 7, 7, 7, 7, 7, 7, 7, 7, 7, 7, 7, 7, 7, 7, 7, 7, 7, 7, 7, 7, 7, 7, 7, 7, 7, 7, 7, 7, 7, 7, 7, 7, 7, 7, 7, 7, 7, 7, 7, 7, 7, 7, 7, 7, 7, 7, 7, 7, 7, 7, 7, 7, 7, 7, 7, 7, 7, 7, 7, 7, 7, 7, 8, 8, 8, 8, 8, 8, 8, 8, 8, 8, 8, 8, 8, 8, 8, 8, 8, 8, 8, 8, 8, 8, 8, 8, 8, 8, 8, 8, 8, 8, 8, 8, 8, 8, 8, 8, 8, 8, 8, 8, 8, 8, 8, 8, 8, 8, 8, 8, 8, 8, 8, 8, 8, 8, 8, 8, 8, 8, 8, 8, 8, 8, 8, 8, 8, 8, 8, 8, 8, 8, 8, 8, 8, 8, 8, 8, 8, 8, 8, 8, 8, 8, 8, 8, 8, 8, 8, 8, 8, 8, 8, 8, 8, 8, 8, 8, 8, 8, 8, 8, 8, 8, 8, 8, 8, 8, 8, 8, 8, 8, 8, 8, 8, 8, 8, 8, 8, 8, 8, 8, 8, 8, 8, 8, 8, 8, 8, 8]⟩) t_6) w fun t_7 w =>
        pvv prog (convert 5 3 t_7) w fun t_8 w =>
        pvv prog (binOp .add 3 n_5 t_8) w fun t_9 w =>
        K t_9 w) fun k_10 =>
      pvv prog (binOp .geq 96 x_2 (.int .u64 256)) w fun t_11 w =>
      cd t_11 (
        pvv prog (binOp .shr 96 x_2 (.int .u64 8)) w fun t_12 w =>
        pvv prog (binOp .add 3 n_3 (.int .i64 8)) w fun t_13 w =>
        k_10 [t_12, t_13] w) <|
      k_10 [x_2, n_3] w) fun k_14 =>
    pvv prog (binOp .geq 96 x_0 (.int .u64 65536)) w fun t_15 w =>
    cd t_15 (
      pvv prog (binOp .shr 96 x_0 (.int .u64 16)) w fun t_16 w =>
      pvv prog (binOp .add 3 n_1 (.int .i64 16)) w fun t_17 w =>
      k_14 [t_16, t_17] w) <|
    k_14 [x_0, n_1] w) fun k_18 =>
  pvv prog (binOp .geq 96 x_p0 (.int .u64 4294967296)) w fun t_19 w =>
  cd t_19 (
    pvv prog (binOp .shr 96 x_p0 (.int .u64 32)) w fun t_20 w =>
    k_18 [t_20, (.int .i64 32)] w) <|
  k_18 [x_p0, (.int .i64 0)] w
theorem B99_eq (x_p0 : Value) (w : World) (K : Value → World → Prop) : denFn prog Tryd.f99 T99 [x_p0] w K = B99 x_p0 w K := by kernel_rfl
theorem c99 {x_p0 : Value} {w : World} {K : Value → World → Prop} (h : B99 x_p0 w K) : Calls prog 99 #[x_p0] w (Ret K) :=
  denFn_calls Tryd.func99 T99_ok (Eq.mpr (B99_eq x_p0 w K) h)

-- 67 holdfast/hash.rounds
def T67 : Ann := (.seq .none (.seq .none .none))
theorem T67_ok : chkFn prog Tryd.f67 T67 = true := by kernel_rfl
def B67 (w : World) (K : Value → World → Prop) : Prop :=
  pvv prog (Instr.build 121 #[(0, (.int .u32 1116352408)), (1, (.int .u32 1899447441)), (2, (.int .u32 3049323471)), (3, (.int .u32 3921009573)), (4, (.int .u32 961987163)), (5, (.int .u32 1508970993)), (6, (.int .u32 2453635748)), (7, (.int .u32 2870763221)), (8, (.int .u32 3624381080)), (9, (.int .u32 310598401)), (10, (.int .u32 607225278)), (11, (.int .u32 1426881987)), (12, (.int .u32 1925078388)), (13, (.int .u32 2162078206)), (14, (.int .u32 2614888103)), (15, (.int .u32 3248222580)), (16, (.int .u32 3835390401)), (17, (.int .u32 4022224774)), (18, (.int .u32 264347078)), (19, (.int .u32 604807628)), (20, (.int .u32 770255983)), (21, (.int .u32 1249150122)), (22, (.int .u32 1555081692)), (23, (.int .u32 1996064986)), (24, (.int .u32 2554220882)), (25, (.int .u32 2821834349)), (26, (.int .u32 2952996808)), (27, (.int .u32 3210313671)), (28, (.int .u32 3336571891)), (29, (.int .u32 3584528711)), (30, (.int .u32 113926993)), (31, (.int .u32 338241895)), (32, (.int .u32 666307205)), (33, (.int .u32 773529912)), (34, (.int .u32 1294757372)), (35, (.int .u32 1396182291)), (36, (.int .u32 1695183700)), (37, (.int .u32 1986661051)), (38, (.int .u32 2177026350)), (39, (.int .u32 2456956037)), (40, (.int .u32 2730485921)), (41, (.int .u32 2820302411)), (42, (.int .u32 3259730800)), (43, (.int .u32 3345764771)), (44, (.int .u32 3516065817)), (45, (.int .u32 3600352804)), (46, (.int .u32 4094571909)), (47, (.int .u32 275423344)), (48, (.int .u32 430227734)), (49, (.int .u32 506948616)), (50, (.int .u32 659060556)), (51, (.int .u32 883997877)), (52, (.int .u32 958139571)), (53, (.int .u32 1322822218)), (54, (.int .u32 1537002063)), (55, (.int .u32 1747873779)), (56, (.int .u32 1955562222)), (57, (.int .u32 2024104815)), (58, (.int .u32 2227730452)), (59, (.int .u32 2361852424)), (60, (.int .u32 2428436474)), (61, (.int .u32 2756734187)), (62, (.int .u32 3204031479)), (63, (.int .u32 3329325298))]) w fun t_0 w =>
  efv prog (Instr.box 121 t_0) w fun t_1 w =>
  K t_1 w
theorem B67_eq (w : World) (K : Value → World → Prop) : denFn prog Tryd.f67 T67 [] w K = B67  w K := by kernel_rfl
theorem c67 {w : World} {K : Value → World → Prop} (h : B67  w K) : Calls prog 67 #[] w (Ret K) :=
  denFn_calls Tryd.func67 T67_ok (Eq.mpr (B67_eq  w K) h)

-- 80 strings.trimRightUnicode
def T80 : Ann := (.seq .none (.meet 8589934561 [0] (.block (.loop 8589934561 [0] (.seq (.seq .none (.seq .none .none)) (.block (.seq .none (.meet 8323168 [5, 6] (.seq .none (.seq .none .none)) (.seq (.seq .none (.seq .none .none)) .none))))))) (.seq .none .none)))
theorem T80_ok : chkFn prog Tryd.f80 T80 = true := by kernel_rfl
def B80 (s_p0 cutset_p1 : Value) (w : World) (K : Value → World → Prop) : Prop :=
  jn (fun σ w => pop σ fun s_0 σ => fin σ <|
    K s_0 w) fun k_1 =>
  lp (fun σ w again_3 => pop σ fun s_2 σ => fin σ <|
    pv prog (oBi .len #[9] 3 #[false] #[s_2]) w fun t_4 w =>
    pvv prog (binOp .gtr 3 t_4 (.int .i64 0)) w fun t_5 w =>
    cd t_5 (
      pv prog (oBi .len #[9] 3 #[false] #[s_2]) w fun t_6 w =>
      pvv prog (binOp .sub 3 t_6 (.int .i64 1)) w fun t_7 w =>
      pvv prog (Instr.index 9 s_2 t_7) w fun t_8 w =>
      pvv prog (convert 5 21 t_8) w fun t_9 w =>
      jn (fun σ w => pop σ fun r_10 σ => pop σ fun n_11 σ => fin σ <|
        Calls prog 90 #[cutset_p1, r_10] w (Ret fun t_12 w =>
        pvv prog (Op.unary .not t_12) w fun t_13 w =>
        cd t_13 (
          k_1 [s_2] w) <|
        pv prog (oBi .len #[9] 3 #[false] #[s_2]) w fun t_14 w =>
        pvv prog (binOp .sub 3 t_14 n_11) w fun t_15 w =>
        pvv prog (Instr.sliceAt 9 s_2 none (some t_15) none) w fun t_16 w =>
        again_3 [t_16] w)) fun k_17 =>
      pvv prog (binOp .geq 21 t_9 (.int .i32 128)) w fun t_18 w =>
      cd t_18 (
        Calls prog 91 #[s_2] w (Ret fun t_19 w =>
        pvv prog (Instr.extract t_19 0) w fun t_20 w =>
        pvv prog (Instr.extract t_19 1) w fun t_21 w =>
        k_17 [t_20, t_21] w)) <|
      k_17 [t_9, (.int .i64 1)] w) <|
    k_1 [s_2] w) [s_p0] w
theorem B80_eq (s_p0 cutset_p1 : Value) (w : World) (K : Value → World → Prop) : denFn prog Tryd.f80 T80 [s_p0, cutset_p1] w K = B80 s_p0 cutset_p1 w K := by kernel_rfl
theorem c80 {s_p0 cutset_p1 : Value} {w : World} {K : Value → World → Prop} (h : B80 s_p0 cutset_p1 w K) : Calls prog 80 #[s_p0, cutset_p1] w (Ret K) :=
  denFn_calls Tryd.func80 T80_ok (Eq.mpr (B80_eq s_p0 cutset_p1 w K) h)

-- 104 strings.IndexRune
def T104 : Ann := (.seq .none (.block (.seq .none (.seq (.seq .none .none) (.seq .none (.seq (.seq (.seq .none (.block (.loop 12164183355622992813219379528005579144973741782332342384 [] (.seq .none (.seq (.seq .none .none) (.block (.seq .none (.seq .none (.seq (.seq .none .none) .none))))))))) (.seq .none .none)) (.seq .none (.seq (.seq .none .none) .none))))))))
theorem T104_ok : chkFn prog Tryd.f104 T104 = true := by kernel_rfl
def B104 (s_p0 r_p1 : Value) (w : World) (K : Value → World → Prop) : Prop :=
  pvv prog (binOp .leq 21 (.int .i32 0) r_p1) w fun t_0 w =>
  gate (some (t_0, true)) (fun K => K r_p1 w) w fun t_1 w =>
  gate (some (t_0, true)) (fun K => pvv prog (binOp .lss 21 t_1 (.int .i32 128)) w K) w fun t_2 w =>
  pv prog (oPick t_0 t_2 (.bool false)) w fun t_3 w =>
  cd t_3 (
    pvv prog (convert 21 5 r_p1) w fun t_4 w =>
    Calls prog 111 #[s_p0, t_4] w (Ret fun t_5 w =>
    K t_5 w)) <|
  pvv prog (oEq .eql 21 (.tmp 172) (.const (.int .i32 65533)) r_p1 (.int .i32 65533)) w fun t_6 w =>
  cd t_6 (
    efv prog (Instr.range 9 s_p0) w fun t_7 w =>
    lp (fun σ w again_8 => fin σ <|
      efv prog (Instr.next t_7 true 0) w fun t_9 w =>
      pvv prog (Instr.extract t_9 0) w fun t_10 w =>
      cd t_10 (
        pvv prog (Instr.extract t_9 1) w fun t_11 w =>
        pvv prog (Instr.extract t_9 2) w fun t_12 w =>
        pvv prog (oEq .eql 21 (.tmp 180) (.const (.int .i32 65533)) t_12 (.int .i32 65533)) w fun t_13 w =>
        cd t_13 (
          K t_11 w) <|
        again_8 [] w) <|
      K (.int .i64 (-1)) w) [] w) <|
  Calls prog 112 #[r_p1] w (Ret fun t_14 w =>
  pvv prog (Op.unary .not t_14) w fun t_15 w =>
  cd t_15 (
    K (.int .i64 (-1)) w) <|
  False)
theorem B104_eq (s_p0 r_p1 : Value) (w : World) (K : Value → World → Prop) : denFn prog Tryd.f104 T104 [s_p0, r_p1] w K = B104 s_p0 r_p1 w K := by kernel_rfl
theorem c104 {s_p0 r_p1 : Value} {w : World} {K : Value → World → Prop} (h : B104 s_p0 r_p1 w K) : Calls prog 104 #[s_p0, r_p1] w (Ret K) :=
  denFn_calls Tryd.func104 T104_ok (Eq.mpr (B104_eq s_p0 r_p1 w K) h)

-- 17 (*holdfast/audit.Chain).Anchor
def T17 : Ann := (.seq .none (.seq (.seq .none (.seq (.seq .none .none) .none)) (.seq (.draw [.op 0 .pure, .op 1 .pure, .op 3 .pure, .op 4 .pure, .op 5 .pure, .op 6 .load, .op 2 .eff, .op 7 .pure, .op 8 .pure, .op 9 .pure, .op 10 .eff]) (.seq .none .none))))
theorem T17_ok : chkFn prog Tryd.f17 T17 = true := by kernel_rfl
def B17 (c_p0 : Value) (w : World) (K : Value → World → Prop) : Prop :=
  efv prog (Instr.alloc 36 true (.tuple #[])) w fun t_0 w =>
  pvv prog (oEq .eql 23 (.tmp 4) (.const (.pointer none)) c_p0 (.pointer none)) w fun t_1 w =>
  cd t_1 (
    pvv prog (Instr.build 36 #[]) w fun t_2 w =>
    efu prog (Instr.storeAt 36 t_0 t_2) w fun u_3 w =>
    ∃ r_4, (do loadVar 36 (← asAddr t_0)).run prog w = .ok r_4 w ∧ K (.tuple #[(.int .i64 0), r_4]) w) <|
  dr w fun w =>
  pv prog (oNil c_p0) w fun t_5 w =>
  pvv prog (Instr.fieldAt 59 t_5 2) w fun t_6 w =>
  bindS (vN (Instr.loadAt 36 t_6)) fun m_8 => ldv prog (Instr.loadAt 36 t_6) w fun t_7 w =>
  Calls prog 15 #[c_p0] w (Ret fun t_9 w => stay prog none m_8 t_7 w <| 
  pvv prog (Instr.build 57 #[(0, t_9), (1, t_7)]) w fun t_10 w =>
  pv prog (oNil c_p0) w fun t_11 w =>
  pvv prog (Instr.fieldAt 59 t_11 1) w fun t_12 w =>
  efu prog (Instr.storeAt 57 t_12 t_10) w fun u_13 w =>
  Calls prog 14 #[c_p0] w (Ret fun t_14 w =>
  pvv prog (Instr.extract t_14 0) w fun t_15 w =>
  pvv prog (Instr.extract t_14 1) w fun t_16 w =>
  efu prog (Instr.storeAt 36 t_0 t_16) w fun u_17 w =>
  ∃ r_18, (do loadVar 36 (← asAddr t_0)).run prog w = .ok r_18 w ∧ K (.tuple #[t_15, r_18]) w))
theorem B17_eq (c_p0 : Value) (w : World) (K : Value → World → Prop) : denFn prog Tryd.f17 T17 [c_p0] w K = B17 c_p0 w K := by kernel_rfl
theorem c17 {c_p0 : Value} {w : World} {K : Value → World → Prop} (h : B17 c_p0 w K) : Calls prog 17 #[c_p0] w (Ret K) :=
  denFn_calls Tryd.func17 T17_ok (Eq.mpr (B17_eq c_p0 w K) h)

-- 75 strings.trimRightByte
def T75 : Ann := (.seq .none (.seq (.block (.loop 4194273 [0] (.seq (.seq .none (.seq .none .none)) (.block .none)))) (.seq .none .none)))
theorem T75_ok : chkFn prog Tryd.f75 T75 = true := by kernel_rfl
def B75 (s_p0 c_p1 : Value) (w : World) (K : Value → World → Prop) : Prop :=
  lp (fun σ w again_1 => pop σ fun s_0 σ => fin σ <|
    pv prog (oBi .len #[9] 3 #[false] #[s_0]) w fun t_2 w =>
    pvv prog (binOp .gtr 3 t_2 (.int .i64 0)) w fun t_3 w =>
    gate (some (t_3, true)) (fun K => K s_0 w) w fun t_4 w =>
    gate (some (t_3, true)) (fun K => K s_0 w) w fun t_5 w =>
    gate (some (t_3, true)) (fun K => pv prog (oBi .len #[9] 3 #[false] #[t_5]) w K) w fun t_6 w =>
    gate (some (t_3, true)) (fun K => pvv prog (binOp .sub 3 t_6 (.int .i64 1)) w K) w fun t_7 w =>
    gate (some (t_3, true)) (fun K => pvv prog (Instr.index 9 t_4 t_7) w K) w fun t_8 w =>
    gate (some (t_3, true)) (fun K => K c_p1 w) w fun t_9 w =>
    gate (some (t_3, true)) (fun K => pvv prog (oEq .eql 5 (.tmp 13) (.tmp 14) t_8 t_9) w K) w fun t_10 w =>
    pv prog (oPick t_3 t_10 (.bool false)) w fun t_11 w =>
    cd t_11 (
      pv prog (oBi .len #[9] 3 #[false] #[s_0]) w fun t_12 w =>
      pvv prog (binOp .sub 3 t_12 (.int .i64 1)) w fun t_13 w =>
      pvv prog (Instr.sliceAt 9 s_0 none (some t_13) none) w fun t_14 w =>
      again_1 [t_14] w) <|
    K s_0 w) [s_p0] w
theorem B75_eq (s_p0 c_p1 : Value) (w : World) (K : Value → World → Prop) : denFn prog Tryd.f75 T75 [s_p0, c_p1] w K = B75 s_p0 c_p1 w K := by kernel_rfl
theorem c75 {s_p0 c_p1 : Value} {w : World} {K : Value → World → Prop} (h : B75 s_p0 c_p1 w K) : Calls prog 75 #[s_p0, c_p1] w (Ret K) :=
  denFn_calls Tryd.func75 T75_ok (Eq.mpr (B75_eq s_p0 c_p1 w K) h)

-- 36 (*holdfast/holdfastref14.Chain).Count
def T36 : Ann := (.seq .none (.seq (.seq .none (.seq (.seq .none .none) .none)) (.seq (.draw [.op 0 .pure, .op 1 .pure, .op 2 .pure, .op 4 .pure, .op 5 .pure, .op 6 .pure, .op 3 .load, .op 7 .load, .op 8 .pure, .op 9 .pure, .op 10 .pure]) .none)))
theorem T36_ok : chkFn prog Tryd.f36 T36 = true := by kernel_rfl
def B36 (c_p0 : Value) (w : World) (K : Value → World → Prop) : Prop :=
  pvv prog (oEq .eql 25 (.tmp 3) (.const (.pointer none)) c_p0 (.pointer none)) w fun t_0 w =>
  cd t_0 (
    K (.int .i64 0) w) <|
  dr w fun w =>
  pv prog (oNil c_p0) w fun t_1 w =>
  pvv prog (Instr.fieldAt 61 t_1 0) w fun t_2 w =>
  pv prog (oNil c_p0) w fun t_3 w =>
  pvv prog (Instr.fieldAt 61 t_3 6) w fun t_4 w =>
  bindS (vN (Instr.loadAt 3 t_2)) fun m_6 => ldv prog (Instr.loadAt 3 t_2) w fun t_5 w =>
  bindS (vN (Instr.loadAt 31 t_4)) fun m_8 => ldv prog (Instr.loadAt 31 t_4) w fun t_7 w =>
  pv prog (oBi .len #[31] 3 #[false] #[t_7]) w fun t_9 w =>
  pvv prog (binOp .add 3 t_5 t_9) w fun t_10 w =>
  K t_10 w
theorem B36_eq (c_p0 : Value) (w : World) (K : Value → World → Prop) : denFn prog Tryd.f36 T36 [c_p0] w K = B36 c_p0 w K := by kernel_rfl
theorem c36 {c_p0 : Value} {w : World} {K : Value → World → Prop} (h : B36 c_p0 w K) : Calls prog 36 #[c_p0] w (Ret K) :=
  denFn_calls Tryd.func36 T36_ok (Eq.mpr (B36_eq c_p0 w K) h)

-- 77 strings.trimLeftASCII
def T77 : Ann := (.seq .none (.meet 32737 [0] (.block (.loop 32737 [0] (.seq (.seq .none (.seq .none .none)) (.block (.seq (.seq .none (.seq .none .none)) .none))))) (.seq .none .none)))
theorem T77_ok : chkFn prog Tryd.f77 T77 = true := by kernel_rfl
def B77 (s_p0 as_p1 : Value) (w : World) (K : Value → World → Prop) : Prop :=
  jn (fun σ w => pop σ fun s_0 σ => fin σ <|
    K s_0 w) fun k_1 =>
  lp (fun σ w again_3 => pop σ fun s_2 σ => fin σ <|
    pv prog (oBi .len #[9] 3 #[false] #[s_2]) w fun t_4 w =>
    pvv prog (binOp .gtr 3 t_4 (.int .i64 0)) w fun t_5 w =>
    cd t_5 (
      pvv prog (Instr.index 9 s_2 (.int .i64 0)) w fun t_6 w =>
      Calls prog 88 #[as_p1, t_6] w (Ret fun t_7 w =>
      pvv prog (Op.unary .not t_7) w fun t_8 w =>
      cd t_8 (
        k_1 [s_2] w) <|
      pvv prog (Instr.sliceAt 9 s_2 (some (.int .i64 1)) none none) w fun t_9 w =>
      again_3 [t_9] w)) <|
    k_1 [s_2] w) [s_p0] w
theorem B77_eq (s_p0 as_p1 : Value) (w : World) (K : Value → World → Prop) : denFn prog Tryd.f77 T77 [s_p0, as_p1] w K = B77 s_p0 as_p1 w K := by kernel_rfl
theorem c77 {s_p0 as_p1 : Value} {w : World} {K : Value → World → Prop} (h : B77 s_p0 as_p1 w K) : Calls prog 77 #[s_p0, as_p1] w (Ret K) :=
  denFn_calls Tryd.func77 T77_ok (Eq.mpr (B77_eq s_p0 as_p1 w K) h)

-- 106 internal/stringslite.Clone
def T106 : Ann := (.seq .none (.seq (.seq .none (.seq (.seq .none .none) .none)) (.seq .none (.seq .none (.seq .none .none)))))
theorem T106_ok : chkFn prog Tryd.f106 T106 = true := by kernel_rfl
def B106 (s_p0 : Value) (w : World) (K : Value → World → Prop) : Prop :=
  pv prog (oBi .len #[9] 3 #[false] #[s_p0]) w fun t_0 w =>
  pvv prog (oEq .eql 3 (.tmp 5) (.const (.int .i64 0)) t_0 (.int .i64 0)) w fun t_1 w =>
  cd t_1 (
    K (.string ⟨#[]⟩) w) <|
  pv prog (oBi .len #[9] 3 #[false] #[s_p0]) w fun t_2 w =>
  efv prog (Instr.makeSlice 72 t_2 t_2) w fun t_3 w =>
  ef prog (oBi .copy #[72, 9] 3 #[false, false] #[t_3, s_p0]) w fun t_4 w =>
  pvv prog (Instr.indexAt 72 t_3 (.int .i64 0)) w fun t_5 w =>
  pv prog (oBi .len #[72] 3 #[false] #[t_3]) w fun t_6 w =>
  ef prog (oBi .unsafeString #[156, 3] 9 #[false, false] #[t_5, t_6]) w fun t_7 w =>
  K t_7 w
theorem B106_eq (s_p0 : Value) (w : World) (K : Value → World → Prop) : denFn prog Tryd.f106 T106 [s_p0] w K = B106 s_p0 w K := by kernel_rfl
theorem c106 {s_p0 : Value} {w : World} {K : Value → World → Prop} (h : B106 s_p0 w K) : Calls prog 106 #[s_p0] w (Ret K) :=
  denFn_calls Tryd.func106 T106_ok (Eq.mpr (B106_eq s_p0 w K) h)

-- 64 strconv.ParseUint
def T64 : Ann := (.seq .none (.seq .none (.seq (.seq .none (.seq (.seq .none .none) .none)) (.seq .none .none))))
theorem T64_ok : chkFn prog Tryd.f64 T64 = true := by kernel_rfl
def B64 (s_p0 base_p1 bitSize_p2 : Value) (w : World) (K : Value → World → Prop) : Prop :=
  Calls prog 81 #[s_p0, base_p1, bitSize_p2] w (Ret fun t_0 w =>
  pvv prog (Instr.extract t_0 0) w fun t_1 w =>
  pvv prog (Instr.extract t_0 1) w fun t_2 w =>
  pvv prog (oEq .neq 98 (.tmp 17) (.const .nilIface) t_2 .nilIface) w fun t_3 w =>
  cd t_3 (
    Calls prog 82 #[(.string ⟨#[80, 97, 114, 115, 101, 85, 105, 110, 116]⟩), s_p0, base_p1, bitSize_p2, t_2] w (Ret fun t_4 w =>
    K (.tuple #[t_1, t_4]) w)) <|
  K (.tuple #[t_1, .nilIface]) w)
theorem B64_eq (s_p0 base_p1 bitSize_p2 : Value) (w : World) (K : Value → World → Prop) : denFn prog Tryd.f64 T64 [s_p0, base_p1, bitSize_p2] w K = B64 s_p0 base_p1 bitSize_p2 w K := by kernel_rfl
theorem c64 {s_p0 base_p1 bitSize_p2 : Value} {w : World} {K : Value → World → Prop} (h : B64 s_p0 base_p1 bitSize_p2 w K) : Calls prog 64 #[s_p0, base_p1, bitSize_p2] w (Ret K) :=
  denFn_calls Tryd.func64 T64_ok (Eq.mpr (B64_eq s_p0 base_p1 bitSize_p2 w K) h)

-- 95 strconv.rangeError
def T95 : Ann := (.seq .none (.seq (.draw [.op 0 .pure, .op 1 .pure, .op 3 .load, .op 2 .eff, .op 4 .pure, .op 5 .eff, .op 6 .pure]) .none))
theorem T95_ok : chkFn prog Tryd.f95 T95 = true := by kernel_rfl
def B95 (fn_p0 str_p1 : Value) (w : World) (K : Value → World → Prop) : Prop :=
  dr w fun w =>
  bindS (vN (Instr.loadAt 98 (.pointer (some ⟨2, 0, none⟩)))) fun m_1 => ldv prog (Instr.loadAt 98 (.pointer (some ⟨2, 0, none⟩))) w fun t_0 w =>
  Calls prog 106 #[str_p1] w (Ret fun t_2 w => stay prog none m_1 t_0 w <| 
  pvv prog (Instr.build 146 #[(0, fn_p0), (1, t_2), (2, t_0)]) w fun t_3 w =>
  efv prog (Instr.box 146 t_3) w fun t_4 w => stay prog none m_1 t_0 w <| 
  K t_4 w)
theorem B95_eq (fn_p0 str_p1 : Value) (w : World) (K : Value → World → Prop) : denFn prog Tryd.f95 T95 [fn_p0, str_p1] w K = B95 fn_p0 str_p1 w K := by kernel_rfl
theorem c95 {fn_p0 str_p1 : Value} {w : World} {K : Value → World → Prop} (h : B95 fn_p0 str_p1 w K) : Calls prog 95 #[fn_p0, str_p1] w (Ret K) :=
  denFn_calls Tryd.func95 T95_ok (Eq.mpr (B95_eq fn_p0 str_p1 w K) h)

-- 42 holdfast/holdfastref07.Chain
def T42 : Ann := (.seq .none (.seq .none (.seq .none .none)))
theorem T42_ok : chkFn prog Tryd.f42 T42 = true := by kernel_rfl
def B42 (h_p0 b_p1 : Value) (w : World) (K : Value → World → Prop) : Prop :=
  efv prog (Instr.box 36 h_p0) w fun h_0 w =>
  efv prog (Instr.alloc 36 true (.tuple #[])) w fun t_1 w =>
  ldv prog (Instr.loadAt 36 h_0) w fun t_2 w =>
  Calls prog 54 #[t_2] w (Ret fun t_3 w =>
  ef prog (oBi .append #[72, 72] 72 #[false, false] #[t_3, b_p1]) w fun t_4 w =>
  Calls prog 55 #[t_4] w (Ret fun t_5 w =>
  efu prog (Instr.storeAt 36 t_1 t_5) w fun u_6 w =>
  ∃ r_7, (do loadVar 36 (← asAddr t_1)).run prog w = .ok r_7 w ∧ K r_7 w))
theorem B42_eq (h_p0 b_p1 : Value) (w : World) (K : Value → World → Prop) : denFn prog Tryd.f42 T42 [h_p0, b_p1] w K = B42 h_p0 b_p1 w K := by kernel_rfl
theorem c42 {h_p0 b_p1 : Value} {w : World} {K : Value → World → Prop} (h : B42 h_p0 b_p1 w K) : Calls prog 42 #[h_p0, b_p1] w (Ret K) :=
  denFn_calls Tryd.func42 T42_ok (Eq.mpr (B42_eq h_p0 b_p1 w K) h)

-- 66 holdfast/holdfastref07.turn
def T66 : Ann := (.seq .none (.seq (.draw [.op 0 .pure, .op 1 .pure, .op 2 .pure, .op 3 .pure, .op 4 .pure, .op 5 .pure, .op 6 .pure, .op 7 .pure, .op 8 .pure]) .none))
theorem T66_ok : chkFn prog Tryd.f66 T66 = true := by kernel_rfl
def B66 (x_p0 n_p1 : Value) (w : World) (K : Value → World → Prop) : Prop :=
  dr w fun w =>
  pvv prog (binOp .shr 101 x_p0 n_p1) w fun t_0 w =>
  pvv prog (binOp .sub 3 (.int .i64 32) n_p1) w fun t_1 w =>
  pvv prog (binOp .shl 101 x_p0 t_1) w fun t_2 w =>
  pvv prog (binOp .or 101 t_0 t_2) w fun t_3 w =>
  K t_3 w
theorem B66_eq (x_p0 n_p1 : Value) (w : World) (K : Value → World → Prop) : denFn prog Tryd.f66 T66 [x_p0, n_p1] w K = B66 x_p0 n_p1 w K := by kernel_rfl
theorem c66 {x_p0 n_p1 : Value} {w : World} {K : Value → World → Prop} (h : B66 x_p0 n_p1 w K) : Calls prog 66 #[x_p0, n_p1] w (Ret K) :=
  denFn_calls Tryd.func66 T66_ok (Eq.mpr (B66_eq x_p0 n_p1 w K) h)

-- 30 slices.Clone[[]holdfast/api.Event,holdfast/api.Event]
def T30 : Ann := (.seq .none (.seq (.seq .none (.seq (.seq .none .none) .none)) (.seq .none .none)))
theorem T30_ok : chkFn prog Tryd.f30 T30 = true := by kernel_rfl
def B30 (s_p0 : Value) (w : World) (K : Value → World → Prop) : Prop :=
  pvv prog (oEq .eql 31 (.tmp 3) (.const (.slice none 0 0)) s_p0 (.slice none 0 0)) w fun t_0 w =>
  cd t_0 (
    K (.slice none 0 0) w) <|
  efv prog (Instr.buildSlice 31 0 #[]) w fun t_1 w =>
  ef prog (oBi .append #[31, 31] 31 #[false, false] #[t_1, s_p0]) w fun t_2 w =>
  K t_2 w
theorem B30_eq (s_p0 : Value) (w : World) (K : Value → World → Prop) : denFn prog Tryd.f30 T30 [s_p0] w K = B30 s_p0 w K := by kernel_rfl
theorem c30 {s_p0 : Value} {w : World} {K : Value → World → Prop} (h : B30 s_p0 w K) : Calls prog 30 #[s_p0] w (Ret K) :=
  denFn_calls Tryd.func30 T30_ok (Eq.mpr (B30_eq s_p0 w K) h)

-- 107 errors.New
def T107 : Ann := (.seq .none (.seq .none .none))
theorem T107_ok : chkFn prog Tryd.f107 T107 = true := by kernel_rfl
def B107 (text_p0 : Value) (w : World) (K : Value → World → Prop) : Prop :=
  pvv prog (Instr.build 159 #[(0, text_p0)]) w fun t_0 w =>
  efv prog (Instr.box 159 t_0) w fun t_1 w =>
  pvv prog (Instr.makeInterface 157 t_1) w fun t_2 w =>
  K t_2 w
theorem B107_eq (text_p0 : Value) (w : World) (K : Value → World → Prop) : denFn prog Tryd.f107 T107 [text_p0] w K = B107 text_p0 w K := by kernel_rfl
theorem c107 {text_p0 : Value} {w : World} {K : Value → World → Prop} (h : B107 text_p0 w K) : Calls prog 107 #[text_p0] w (Ret K) :=
  denFn_calls Tryd.func107 T107_ok (Eq.mpr (B107_eq text_p0 w K) h)

-- 50 holdfast/holdfastref14.text
def T50 : Ann := (.seq .none (.seq .none .none))
theorem T50_ok : chkFn prog Tryd.f50 T50 = true := by kernel_rfl
def B50 (h_p0 : Value) (w : World) (K : Value → World → Prop) : Prop :=
  efv prog (Instr.box 36 h_p0) w fun h_0 w =>
  ldv prog (Instr.loadAt 36 h_0) w fun t_1 w =>
  Calls prog 59 #[t_1] w (Ret fun t_2 w =>
  efv prog (convert 72 9 t_2) w fun t_3 w =>
  K t_3 w)
theorem B50_eq (h_p0 : Value) (w : World) (K : Value → World → Prop) : denFn prog Tryd.f50 T50 [h_p0] w K = B50 h_p0 w K := by kernel_rfl
theorem c50 {h_p0 : Value} {w : World} {K : Value → World → Prop} (h : B50 h_p0 w K) : Calls prog 50 #[h_p0] w (Ret K) :=
  denFn_calls Tryd.func50 T50_ok (Eq.mpr (B50_eq h_p0 w K) h)

-- 113 internal/bytealg.Cutover
def T113 : Ann := (.seq .none (.seq .none .none))
theorem T113_ok : chkFn prog Tryd.f113 T113 = true := by kernel_rfl
def B113 (n_p0 : Value) (w : World) (K : Value → World → Prop) : Prop :=
  pvv prog (binOp .add 3 n_p0 (.int .i64 16)) w fun t_0 w =>
  pvv prog (binOp .quo 3 t_0 (.int .i64 8)) w fun t_1 w =>
  K t_1 w
theorem B113_eq (n_p0 : Value) (w : World) (K : Value → World → Prop) : denFn prog Tryd.f113 T113 [n_p0] w K = B113 n_p0 w K := by kernel_rfl
theorem c113 {n_p0 : Value} {w : World} {K : Value → World → Prop} (h : B113 n_p0 w K) : Calls prog 113 #[n_p0] w (Ret K) :=
  denFn_calls Tryd.func113 T113_ok (Eq.mpr (B113_eq n_p0 w K) h)

-- 98 internal/strconv.log10Pow2
def T98 : Ann := (.seq .none (.seq .none .none))
theorem T98_ok : chkFn prog Tryd.f98 T98 = true := by kernel_rfl
def B98 (x_p0 : Value) (w : World) (K : Value → World → Prop) : Prop :=
  pvv prog (binOp .mul 3 x_p0 (.int .i64 78913)) w fun t_0 w =>
  pvv prog (binOp .shr 3 t_0 (.int .u64 18)) w fun t_1 w =>
  K t_1 w
theorem B98_eq (x_p0 : Value) (w : World) (K : Value → World → Prop) : denFn prog Tryd.f98 T98 [x_p0] w K = B98 x_p0 w K := by kernel_rfl
theorem c98 {x_p0 : Value} {w : World} {K : Value → World → Prop} (h : B98 x_p0 w K) : Calls prog 98 #[x_p0] w (Ret K) :=
  denFn_calls Tryd.func98 T98_ok (Eq.mpr (B98_eq x_p0 w K) h)

-- 111 strings.IndexByte
def T111 : Ann := (.seq .none (.seq .none .none))
theorem T111_ok : chkFn prog Tryd.f111 T111 = true := by kernel_rfl
def B111 (s_p0 c_p1 : Value) (w : World) (K : Value → World → Prop) : Prop :=
  Calls prog 116 #[s_p0, c_p1] w (Ret fun t_0 w =>
  K t_0 w)
theorem B111_eq (s_p0 c_p1 : Value) (w : World) (K : Value → World → Prop) : denFn prog Tryd.f111 T111 [s_p0, c_p1] w K = B111 s_p0 c_p1 w K := by kernel_rfl
theorem c111 {s_p0 c_p1 : Value} {w : World} {K : Value → World → Prop} (h : B111 s_p0 c_p1 w K) : Calls prog 111 #[s_p0, c_p1] w (Ret K) :=
  denFn_calls Tryd.func111 T111_ok (Eq.mpr (B111_eq s_p0 c_p1 w K) h)

-- 115 internal/strconv.Itoa
def T115 : Ann := (.seq .none (.seq .none .none))
theorem T115_ok : chkFn prog Tryd.f115 T115 = true := by kernel_rfl
def B115 (i_p0 : Value) (w : World) (K : Value → World → Prop) : Prop :=
  Calls prog 72 #[i_p0, (.int .i64 10)] w (Ret fun t_0 w =>
  K t_0 w)
theorem B115_eq (i_p0 : Value) (w : World) (K : Value → World → Prop) : denFn prog Tryd.f115 T115 [i_p0] w K = B115 i_p0 w K := by kernel_rfl
theorem c115 {i_p0 : Value} {w : World} {K : Value → World → Prop} (h : B115 i_p0 w K) : Calls prog 115 #[i_p0] w (Ret K) :=
  denFn_calls Tryd.func115 T115_ok (Eq.mpr (B115_eq i_p0 w K) h)


end Go.Proofs.YtjeiojibnmfibaaDoor
