import Derived.Test.YtmnaalpjhkkglaaGreatDoorProg
import Derived.Test.YtmnaalpjhkkglaaGreatDoorVc
import Derived.KernelRfl
set_option linter.all false
set_option maxRecDepth 100000
namespace Go.Proofs.YtmnaalpjhkkglaaGreatDoor
open Go Hold
noncomputable abbrev prog : Program := Tryz.prog
instance oneC_2 : OneC prog 2 := ⟨fun w => by kernel_rfl, by kernel_rfl⟩
instance zeroC_2 : ZeroC prog 2 (.int .i64 0) := ⟨by kernel_rfl⟩
instance ul_2 : Ul prog 2 (.int .i64) := ⟨by kernel_rfl⟩
instance oneC_3 : OneC prog 3 := ⟨fun w => by kernel_rfl, by kernel_rfl⟩
instance zeroC_3 : ZeroC prog 3 (.int .i64 0) := ⟨by kernel_rfl⟩
instance ul_3 : Ul prog 3 (.int .i64) := ⟨by kernel_rfl⟩
instance oneC_4 : OneC prog 4 := ⟨fun w => by kernel_rfl, by kernel_rfl⟩
instance zeroC_4 : ZeroC prog 4 (.bool false) := ⟨by kernel_rfl⟩
instance ul_4 : Ul prog 4 .bool := ⟨by kernel_rfl⟩
instance oneC_5 : OneC prog 5 := ⟨fun w => by kernel_rfl, by kernel_rfl⟩
instance zeroC_5 : ZeroC prog 5 (.int .u8 0) := ⟨by kernel_rfl⟩
instance ul_5 : Ul prog 5 (.int .u8) := ⟨by kernel_rfl⟩
instance oneC_6 : OneC prog 6 := ⟨fun w => by kernel_rfl, by kernel_rfl⟩
instance zeroC_6 : ZeroC prog 6 (.int .u8 0) := ⟨by kernel_rfl⟩
instance ul_6 : Ul prog 6 (.int .u8) := ⟨by kernel_rfl⟩
instance aggC_7 : AggC prog 7 4 := ⟨fun w => by kernel_rfl, by kernel_rfl⟩
instance zeroC_7 : ZeroC prog 7 (.agg #[(.int .i64 0), (.int .i64 0), (.bool false), (.int .u8 0)]) := ⟨by kernel_rfl⟩
instance fld_7_0 : FldOff prog 7 0 0 := ⟨fun b o w => by kernel_rfl⟩
instance fld_7_1 : FldOff prog 7 1 1 := ⟨fun b o w => by kernel_rfl⟩
instance fld_7_2 : FldOff prog 7 2 2 := ⟨fun b o w => by kernel_rfl⟩
instance fld_7_3 : FldOff prog 7 3 3 := ⟨fun b o w => by kernel_rfl⟩
instance aggC_8 : AggC prog 8 4 := ⟨fun w => by kernel_rfl, by kernel_rfl⟩
instance zeroC_8 : ZeroC prog 8 (.agg #[(.int .i64 0), (.int .i64 0), (.bool false), (.int .u8 0)]) := ⟨by kernel_rfl⟩
instance fld_8_0 : FldOff prog 8 0 0 := ⟨fun b o w => by kernel_rfl⟩
instance fld_8_1 : FldOff prog 8 1 1 := ⟨fun b o w => by kernel_rfl⟩
instance fld_8_2 : FldOff prog 8 2 2 := ⟨fun b o w => by kernel_rfl⟩
instance fld_8_3 : FldOff prog 8 3 3 := ⟨fun b o w => by kernel_rfl⟩
instance oneC_9 : OneC prog 9 := ⟨fun w => by kernel_rfl, by kernel_rfl⟩
instance zeroC_9 : ZeroC prog 9 (.string ⟨#[]⟩) := ⟨by kernel_rfl⟩
instance ul_9 : Ul prog 9 .string := ⟨by kernel_rfl⟩
instance oneC_10 : OneC prog 10 := ⟨fun w => by kernel_rfl, by kernel_rfl⟩
instance zeroC_10 : ZeroC prog 10 (.string ⟨#[]⟩) := ⟨by kernel_rfl⟩
instance ul_10 : Ul prog 10 .string := ⟨by kernel_rfl⟩
instance oneC_11 : OneC prog 11 := ⟨fun w => by kernel_rfl, by kernel_rfl⟩
instance zeroC_11 : ZeroC prog 11 (.string ⟨#[]⟩) := ⟨by kernel_rfl⟩
instance ul_11 : Ul prog 11 .string := ⟨by kernel_rfl⟩
instance oneC_12 : OneC prog 12 := ⟨fun w => by kernel_rfl, by kernel_rfl⟩
instance zeroC_12 : ZeroC prog 12 (.int .u64 0) := ⟨by kernel_rfl⟩
instance ul_12 : Ul prog 12 (.int .u64) := ⟨by kernel_rfl⟩
instance aggC_13 : AggC prog 13 2 := ⟨fun w => by kernel_rfl, by kernel_rfl⟩
instance zeroC_13 : ZeroC prog 13 (.agg #[(.string ⟨#[]⟩), (.int .u64 0)]) := ⟨by kernel_rfl⟩
instance fld_13_0 : FldOff prog 13 0 0 := ⟨fun b o w => by kernel_rfl⟩
instance fld_13_1 : FldOff prog 13 1 1 := ⟨fun b o w => by kernel_rfl⟩
instance aggC_14 : AggC prog 14 2 := ⟨fun w => by kernel_rfl, by kernel_rfl⟩
instance zeroC_14 : ZeroC prog 14 (.agg #[(.string ⟨#[]⟩), (.int .u64 0)]) := ⟨by kernel_rfl⟩
instance fld_14_0 : FldOff prog 14 0 0 := ⟨fun b o w => by kernel_rfl⟩
instance fld_14_1 : FldOff prog 14 1 1 := ⟨fun b o w => by kernel_rfl⟩
instance oneC_15 : OneC prog 15 := ⟨fun w => by kernel_rfl, by kernel_rfl⟩
instance zeroC_15 : ZeroC prog 15 (.pointer none) := ⟨by kernel_rfl⟩
instance ul_15 : Ul prog 15 (.pointer 264) := ⟨by kernel_rfl⟩
instance oneC_16 : OneC prog 16 := ⟨fun w => by kernel_rfl, by kernel_rfl⟩
instance zeroC_16 : ZeroC prog 16 (.pointer none) := ⟨by kernel_rfl⟩
instance ul_16 : Ul prog 16 (.pointer 267) := ⟨by kernel_rfl⟩
instance oneC_17 : OneC prog 17 := ⟨fun w => by kernel_rfl, by kernel_rfl⟩
instance zeroC_17 : ZeroC prog 17 (.pointer none) := ⟨by kernel_rfl⟩
instance ul_17 : Ul prog 17 (.pointer 274) := ⟨by kernel_rfl⟩
instance aggC_18 : AggC prog 18 1 := ⟨fun w => by kernel_rfl, by kernel_rfl⟩
instance zeroC_18 : ZeroC prog 18 (.agg #[(.pointer none)]) := ⟨by kernel_rfl⟩
instance fld_18_0 : FldOff prog 18 0 0 := ⟨fun b o w => by kernel_rfl⟩
instance aggC_19 : AggC prog 19 1 := ⟨fun w => by kernel_rfl, by kernel_rfl⟩
instance zeroC_19 : ZeroC prog 19 (.agg #[(.pointer none)]) := ⟨by kernel_rfl⟩
instance fld_19_0 : FldOff prog 19 0 0 := ⟨fun b o w => by kernel_rfl⟩
instance oneC_20 : OneC prog 20 := ⟨fun w => by kernel_rfl, by kernel_rfl⟩
instance zeroC_20 : ZeroC prog 20 .nilIface := ⟨by kernel_rfl⟩
instance oneC_21 : OneC prog 21 := ⟨fun w => by kernel_rfl, by kernel_rfl⟩
instance zeroC_21 : ZeroC prog 21 (.int .i32 0) := ⟨by kernel_rfl⟩
instance ul_21 : Ul prog 21 (.int .i32) := ⟨by kernel_rfl⟩
instance oneC_22 : OneC prog 22 := ⟨fun w => by kernel_rfl, by kernel_rfl⟩
instance zeroC_22 : ZeroC prog 22 (.slice none 0 0) := ⟨by kernel_rfl⟩
instance sliceT_22 : SliceT prog 22 5 1 1 (.int .u8 0) := ⟨by kernel_rfl, by kernel_rfl, rfl, by decide⟩
instance ul_22 : Ul prog 22 (.slice 5) := ⟨by kernel_rfl⟩
instance oneC_23 : OneC prog 23 := ⟨fun w => by kernel_rfl, by kernel_rfl⟩
instance zeroC_23 : ZeroC prog 23 (.pointer none) := ⟨by kernel_rfl⟩
instance ul_23 : Ul prog 23 (.pointer 69) := ⟨by kernel_rfl⟩
instance oneC_25 : OneC prog 25 := ⟨fun w => by kernel_rfl, by kernel_rfl⟩
instance zeroC_25 : ZeroC prog 25 (.pointer none) := ⟨by kernel_rfl⟩
instance ul_25 : Ul prog 25 (.pointer 73) := ⟨by kernel_rfl⟩
instance aggC_27 : AggC prog 27 32 := ⟨fun w => by kernel_rfl, by kernel_rfl⟩
instance zeroC_27 : ZeroC prog 27 (.agg #[(.int .u8 0), (.int .u8 0), (.int .u8 0), (.int .u8 0), (.int .u8 0), (.int .u8 0), (.int .u8 0), (.int .u8 0), (.int .u8 0), (.int .u8 0), (.int .u8 0), (.int .u8 0), (.int .u8 0), (.int .u8 0), (.int .u8 0), (.int .u8 0), (.int .u8 0), (.int .u8 0), (.int .u8 0), (.int .u8 0), (.int .u8 0), (.int .u8 0), (.int .u8 0), (.int .u8 0), (.int .u8 0), (.int .u8 0), (.int .u8 0), (.int .u8 0), (.int .u8 0), (.int .u8 0), (.int .u8 0), (.int .u8 0)]) := ⟨by kernel_rfl⟩
instance ul_27 : Ul prog 27 (.array 32 5) := ⟨by kernel_rfl⟩
instance aggC_28 : AggC prog 28 32 := ⟨fun w => by kernel_rfl, by kernel_rfl⟩
instance zeroC_28 : ZeroC prog 28 (.agg #[(.int .u8 0), (.int .u8 0), (.int .u8 0), (.int .u8 0), (.int .u8 0), (.int .u8 0), (.int .u8 0), (.int .u8 0), (.int .u8 0), (.int .u8 0), (.int .u8 0), (.int .u8 0), (.int .u8 0), (.int .u8 0), (.int .u8 0), (.int .u8 0), (.int .u8 0), (.int .u8 0), (.int .u8 0), (.int .u8 0), (.int .u8 0), (.int .u8 0), (.int .u8 0), (.int .u8 0), (.int .u8 0), (.int .u8 0), (.int .u8 0), (.int .u8 0), (.int .u8 0), (.int .u8 0), (.int .u8 0), (.int .u8 0)]) := ⟨by kernel_rfl⟩
instance ul_28 : Ul prog 28 (.array 32 5) := ⟨by kernel_rfl⟩
instance aggC_30 : AggC prog 30 4 := ⟨fun w => by kernel_rfl, by kernel_rfl⟩
instance zeroC_30 : ZeroC prog 30 (.agg #[(.int .i64 0), (.int .i64 0), (.string ⟨#[]⟩), (.string ⟨#[]⟩)]) := ⟨by kernel_rfl⟩
instance fld_30_0 : FldOff prog 30 0 0 := ⟨fun b o w => by kernel_rfl⟩
instance fld_30_1 : FldOff prog 30 1 1 := ⟨fun b o w => by kernel_rfl⟩
instance fld_30_2 : FldOff prog 30 2 2 := ⟨fun b o w => by kernel_rfl⟩
instance fld_30_3 : FldOff prog 30 3 3 := ⟨fun b o w => by kernel_rfl⟩
instance aggC_31 : AggC prog 31 4 := ⟨fun w => by kernel_rfl, by kernel_rfl⟩
instance zeroC_31 : ZeroC prog 31 (.agg #[(.int .i64 0), (.int .i64 0), (.string ⟨#[]⟩), (.string ⟨#[]⟩)]) := ⟨by kernel_rfl⟩
instance fld_31_0 : FldOff prog 31 0 0 := ⟨fun b o w => by kernel_rfl⟩
instance fld_31_1 : FldOff prog 31 1 1 := ⟨fun b o w => by kernel_rfl⟩
instance fld_31_2 : FldOff prog 31 2 2 := ⟨fun b o w => by kernel_rfl⟩
instance fld_31_3 : FldOff prog 31 3 3 := ⟨fun b o w => by kernel_rfl⟩
instance oneC_32 : OneC prog 32 := ⟨fun w => by kernel_rfl, by kernel_rfl⟩
instance zeroC_32 : ZeroC prog 32 (.int .i64 0) := ⟨by kernel_rfl⟩
instance ul_32 : Ul prog 32 (.int .i64) := ⟨by kernel_rfl⟩
instance oneC_37 : OneC prog 37 := ⟨fun w => by kernel_rfl, by kernel_rfl⟩
instance zeroC_37 : ZeroC prog 37 (.slice none 0 0) := ⟨by kernel_rfl⟩
instance sliceT_37 : SliceT prog 37 41 2 40 (.agg #[(.string ⟨#[]⟩), (.slice none 0 0)]) := ⟨by kernel_rfl, by kernel_rfl, rfl, by decide⟩
instance ul_37 : Ul prog 37 (.slice 41) := ⟨by kernel_rfl⟩
instance oneC_39 : OneC prog 39 := ⟨fun w => by kernel_rfl, by kernel_rfl⟩
instance zeroC_39 : ZeroC prog 39 (.slice none 0 0) := ⟨by kernel_rfl⟩
instance sliceT_39 : SliceT prog 39 9 1 16 (.string ⟨#[]⟩) := ⟨by kernel_rfl, by kernel_rfl, rfl, by decide⟩
instance ul_39 : Ul prog 39 (.slice 9) := ⟨by kernel_rfl⟩
instance aggC_40 : AggC prog 40 2 := ⟨fun w => by kernel_rfl, by kernel_rfl⟩
instance zeroC_40 : ZeroC prog 40 (.agg #[(.string ⟨#[]⟩), (.slice none 0 0)]) := ⟨by kernel_rfl⟩
instance fld_40_0 : FldOff prog 40 0 0 := ⟨fun b o w => by kernel_rfl⟩
instance fld_40_1 : FldOff prog 40 1 1 := ⟨fun b o w => by kernel_rfl⟩
instance aggC_41 : AggC prog 41 2 := ⟨fun w => by kernel_rfl, by kernel_rfl⟩
instance zeroC_41 : ZeroC prog 41 (.agg #[(.string ⟨#[]⟩), (.slice none 0 0)]) := ⟨by kernel_rfl⟩
instance fld_41_0 : FldOff prog 41 0 0 := ⟨fun b o w => by kernel_rfl⟩
instance fld_41_1 : FldOff prog 41 1 1 := ⟨fun b o w => by kernel_rfl⟩
instance oneC_51 : OneC prog 51 := ⟨fun w => by kernel_rfl, by kernel_rfl⟩
instance zeroC_51 : ZeroC prog 51 (.pointer none) := ⟨by kernel_rfl⟩
instance ul_51 : Ul prog 51 (.pointer 100) := ⟨by kernel_rfl⟩
instance aggC_53 : AggC prog 53 2 := ⟨fun w => by kernel_rfl, by kernel_rfl⟩
instance zeroC_53 : ZeroC prog 53 (.agg #[(.string ⟨#[]⟩), (.string ⟨#[]⟩)]) := ⟨by kernel_rfl⟩
instance fld_53_0 : FldOff prog 53 0 0 := ⟨fun b o w => by kernel_rfl⟩
instance fld_53_1 : FldOff prog 53 1 1 := ⟨fun b o w => by kernel_rfl⟩
instance aggC_54 : AggC prog 54 2 := ⟨fun w => by kernel_rfl, by kernel_rfl⟩
instance zeroC_54 : ZeroC prog 54 (.agg #[(.string ⟨#[]⟩), (.string ⟨#[]⟩)]) := ⟨by kernel_rfl⟩
instance fld_54_0 : FldOff prog 54 0 0 := ⟨fun b o w => by kernel_rfl⟩
instance fld_54_1 : FldOff prog 54 1 1 := ⟨fun b o w => by kernel_rfl⟩
instance aggC_65 : AggC prog 65 33 := ⟨fun w => by kernel_rfl, by kernel_rfl⟩
instance zeroC_65 : ZeroC prog 65 (.agg #[(.int .i64 0), (.int .u8 0), (.int .u8 0), (.int .u8 0), (.int .u8 0), (.int .u8 0), (.int .u8 0), (.int .u8 0), (.int .u8 0), (.int .u8 0), (.int .u8 0), (.int .u8 0), (.int .u8 0), (.int .u8 0), (.int .u8 0), (.int .u8 0), (.int .u8 0), (.int .u8 0), (.int .u8 0), (.int .u8 0), (.int .u8 0), (.int .u8 0), (.int .u8 0), (.int .u8 0), (.int .u8 0), (.int .u8 0), (.int .u8 0), (.int .u8 0), (.int .u8 0), (.int .u8 0), (.int .u8 0), (.int .u8 0), (.int .u8 0)]) := ⟨by kernel_rfl⟩
instance fld_65_0 : FldOff prog 65 0 0 := ⟨fun b o w => by kernel_rfl⟩
instance fld_65_1 : FldOff prog 65 1 1 := ⟨fun b o w => by kernel_rfl⟩
instance aggC_66 : AggC prog 66 33 := ⟨fun w => by kernel_rfl, by kernel_rfl⟩
instance zeroC_66 : ZeroC prog 66 (.agg #[(.int .i64 0), (.int .u8 0), (.int .u8 0), (.int .u8 0), (.int .u8 0), (.int .u8 0), (.int .u8 0), (.int .u8 0), (.int .u8 0), (.int .u8 0), (.int .u8 0), (.int .u8 0), (.int .u8 0), (.int .u8 0), (.int .u8 0), (.int .u8 0), (.int .u8 0), (.int .u8 0), (.int .u8 0), (.int .u8 0), (.int .u8 0), (.int .u8 0), (.int .u8 0), (.int .u8 0), (.int .u8 0), (.int .u8 0), (.int .u8 0), (.int .u8 0), (.int .u8 0), (.int .u8 0), (.int .u8 0), (.int .u8 0), (.int .u8 0)]) := ⟨by kernel_rfl⟩
instance fld_66_0 : FldOff prog 66 0 0 := ⟨fun b o w => by kernel_rfl⟩
instance fld_66_1 : FldOff prog 66 1 1 := ⟨fun b o w => by kernel_rfl⟩
instance oneC_67 : OneC prog 67 := ⟨fun w => by kernel_rfl, by kernel_rfl⟩
instance zeroC_67 : ZeroC prog 67 (.slice none 0 0) := ⟨by kernel_rfl⟩
instance sliceT_67 : SliceT prog 67 31 4 48 (.agg #[(.int .i64 0), (.int .i64 0), (.string ⟨#[]⟩), (.string ⟨#[]⟩)]) := ⟨by kernel_rfl, by kernel_rfl, rfl, by decide⟩
instance ul_67 : Ul prog 67 (.slice 31) := ⟨by kernel_rfl⟩
instance aggC_68 : AggC prog 68 100 := ⟨fun w => by kernel_rfl, by kernel_rfl⟩
instance zeroC_68 : ZeroC prog 68 (.agg #[(.int .i64 0), (.int .u8 0), (.int .u8 0), (.int .u8 0), (.int .u8 0), (.int .u8 0), (.int .u8 0), (.int .u8 0), (.int .u8 0), (.int .u8 0), (.int .u8 0), (.int .u8 0), (.int .u8 0), (.int .u8 0), (.int .u8 0), (.int .u8 0), (.int .u8 0), (.int .u8 0), (.int .u8 0), (.int .u8 0), (.int .u8 0), (.int .u8 0), (.int .u8 0), (.int .u8 0), (.int .u8 0), (.int .u8 0), (.int .u8 0), (.int .u8 0), (.int .u8 0), (.int .u8 0), (.int .u8 0), (.int .u8 0), (.int .u8 0), (.int .i64 0), (.int .u8 0), (.int .u8 0), (.int .u8 0), (.int .u8 0), (.int .u8 0), (.int .u8 0), (.int .u8 0), (.int .u8 0), (.int .u8 0), (.int .u8 0), (.int .u8 0), (.int .u8 0), (.int .u8 0), (.int .u8 0), (.int .u8 0), (.int .u8 0), (.int .u8 0), (.int .u8 0), (.int .u8 0), (.int .u8 0), (.int .u8 0), (.int .u8 0), (.int .u8 0), (.int .u8 0), (.int .u8 0), (.int .u8 0), (.int .u8 0), (.int .u8 0), (.int .u8 0), (.int .u8 0), (.int .u8 0), (.int .u8 0), (.int .u8 0), (.int .u8 0), (.int .u8 0), (.int .u8 0), (.int .u8 0), (.int .u8 0), (.int .u8 0), (.int .u8 0), (.int .u8 0), (.int .u8 0), (.int .u8 0), (.int .u8 0), (.int .u8 0), (.int .u8 0), (.int .u8 0), (.int .u8 0), (.int .u8 0), (.int .u8 0), (.int .u8 0), (.int .u8 0), (.int .u8 0), (.int .u8 0), (.int .u8 0), (.int .u8 0), (.int .u8 0), (.int .u8 0), (.int .u8 0), (.int .u8 0), (.int .u8 0), (.int .u8 0), (.int .u8 0), (.int .u8 0), (.int .i64 0), (.slice none 0 0)]) := ⟨by kernel_rfl⟩
instance fld_68_0 : FldOff prog 68 0 0 := ⟨fun b o w => by kernel_rfl⟩
instance fld_68_1 : FldOff prog 68 1 33 := ⟨fun b o w => by kernel_rfl⟩
instance fld_68_2 : FldOff prog 68 2 66 := ⟨fun b o w => by kernel_rfl⟩
instance fld_68_3 : FldOff prog 68 3 98 := ⟨fun b o w => by kernel_rfl⟩
instance fld_68_4 : FldOff prog 68 4 99 := ⟨fun b o w => by kernel_rfl⟩
instance aggC_69 : AggC prog 69 100 := ⟨fun w => by kernel_rfl, by kernel_rfl⟩
instance zeroC_69 : ZeroC prog 69 (.agg #[(.int .i64 0), (.int .u8 0), (.int .u8 0), (.int .u8 0), (.int .u8 0), (.int .u8 0), (.int .u8 0), (.int .u8 0), (.int .u8 0), (.int .u8 0), (.int .u8 0), (.int .u8 0), (.int .u8 0), (.int .u8 0), (.int .u8 0), (.int .u8 0), (.int .u8 0), (.int .u8 0), (.int .u8 0), (.int .u8 0), (.int .u8 0), (.int .u8 0), (.int .u8 0), (.int .u8 0), (.int .u8 0), (.int .u8 0), (.int .u8 0), (.int .u8 0), (.int .u8 0), (.int .u8 0), (.int .u8 0), (.int .u8 0), (.int .u8 0), (.int .i64 0), (.int .u8 0), (.int .u8 0), (.int .u8 0), (.int .u8 0), (.int .u8 0), (.int .u8 0), (.int .u8 0), (.int .u8 0), (.int .u8 0), (.int .u8 0), (.int .u8 0), (.int .u8 0), (.int .u8 0), (.int .u8 0), (.int .u8 0), (.int .u8 0), (.int .u8 0), (.int .u8 0), (.int .u8 0), (.int .u8 0), (.int .u8 0), (.int .u8 0), (.int .u8 0), (.int .u8 0), (.int .u8 0), (.int .u8 0), (.int .u8 0), (.int .u8 0), (.int .u8 0), (.int .u8 0), (.int .u8 0), (.int .u8 0), (.int .u8 0), (.int .u8 0), (.int .u8 0), (.int .u8 0), (.int .u8 0), (.int .u8 0), (.int .u8 0), (.int .u8 0), (.int .u8 0), (.int .u8 0), (.int .u8 0), (.int .u8 0), (.int .u8 0), (.int .u8 0), (.int .u8 0), (.int .u8 0), (.int .u8 0), (.int .u8 0), (.int .u8 0), (.int .u8 0), (.int .u8 0), (.int .u8 0), (.int .u8 0), (.int .u8 0), (.int .u8 0), (.int .u8 0), (.int .u8 0), (.int .u8 0), (.int .u8 0), (.int .u8 0), (.int .u8 0), (.int .u8 0), (.int .i64 0), (.slice none 0 0)]) := ⟨by kernel_rfl⟩
instance fld_69_0 : FldOff prog 69 0 0 := ⟨fun b o w => by kernel_rfl⟩
instance fld_69_1 : FldOff prog 69 1 33 := ⟨fun b o w => by kernel_rfl⟩
instance fld_69_2 : FldOff prog 69 2 66 := ⟨fun b o w => by kernel_rfl⟩
instance fld_69_3 : FldOff prog 69 3 98 := ⟨fun b o w => by kernel_rfl⟩
instance fld_69_4 : FldOff prog 69 4 99 := ⟨fun b o w => by kernel_rfl⟩
instance oneC_70 : OneC prog 70 := ⟨fun w => by kernel_rfl, by kernel_rfl⟩
instance zeroC_70 : ZeroC prog 70 (.map none) := ⟨by kernel_rfl⟩
instance ul_70 : Ul prog 70 (.map 9 4) := ⟨by kernel_rfl⟩
instance oneC_71 : OneC prog 71 := ⟨fun w => by kernel_rfl, by kernel_rfl⟩
instance zeroC_71 : ZeroC prog 71 (.map none) := ⟨by kernel_rfl⟩
instance ul_71 : Ul prog 71 (.map 114 3) := ⟨by kernel_rfl⟩
instance aggC_72 : AggC prog 72 35 := ⟨fun w => by kernel_rfl, by kernel_rfl⟩
instance zeroC_72 : ZeroC prog 72 (.agg #[(.int .u8 0), (.int .u8 0), (.int .u8 0), (.int .u8 0), (.int .u8 0), (.int .u8 0), (.int .u8 0), (.int .u8 0), (.int .u8 0), (.int .u8 0), (.int .u8 0), (.int .u8 0), (.int .u8 0), (.int .u8 0), (.int .u8 0), (.int .u8 0), (.int .u8 0), (.int .u8 0), (.int .u8 0), (.int .u8 0), (.int .u8 0), (.int .u8 0), (.int .u8 0), (.int .u8 0), (.int .u8 0), (.int .u8 0), (.int .u8 0), (.int .u8 0), (.int .u8 0), (.int .u8 0), (.int .u8 0), (.int .u8 0), (.int .i64 0), (.map none), (.map none)]) := ⟨by kernel_rfl⟩
instance fld_72_0 : FldOff prog 72 0 0 := ⟨fun b o w => by kernel_rfl⟩
instance fld_72_1 : FldOff prog 72 1 32 := ⟨fun b o w => by kernel_rfl⟩
instance fld_72_2 : FldOff prog 72 2 33 := ⟨fun b o w => by kernel_rfl⟩
instance fld_72_3 : FldOff prog 72 3 34 := ⟨fun b o w => by kernel_rfl⟩
instance aggC_73 : AggC prog 73 35 := ⟨fun w => by kernel_rfl, by kernel_rfl⟩
instance zeroC_73 : ZeroC prog 73 (.agg #[(.int .u8 0), (.int .u8 0), (.int .u8 0), (.int .u8 0), (.int .u8 0), (.int .u8 0), (.int .u8 0), (.int .u8 0), (.int .u8 0), (.int .u8 0), (.int .u8 0), (.int .u8 0), (.int .u8 0), (.int .u8 0), (.int .u8 0), (.int .u8 0), (.int .u8 0), (.int .u8 0), (.int .u8 0), (.int .u8 0), (.int .u8 0), (.int .u8 0), (.int .u8 0), (.int .u8 0), (.int .u8 0), (.int .u8 0), (.int .u8 0), (.int .u8 0), (.int .u8 0), (.int .u8 0), (.int .u8 0), (.int .u8 0), (.int .i64 0), (.map none), (.map none)]) := ⟨by kernel_rfl⟩
instance fld_73_0 : FldOff prog 73 0 0 := ⟨fun b o w => by kernel_rfl⟩
instance fld_73_1 : FldOff prog 73 1 32 := ⟨fun b o w => by kernel_rfl⟩
instance fld_73_2 : FldOff prog 73 2 33 := ⟨fun b o w => by kernel_rfl⟩
instance fld_73_3 : FldOff prog 73 3 34 := ⟨fun b o w => by kernel_rfl⟩
instance oneC_74 : OneC prog 74 := ⟨fun w => by kernel_rfl, by kernel_rfl⟩
instance zeroC_74 : ZeroC prog 74 (.int .u32 0) := ⟨by kernel_rfl⟩
instance ul_74 : Ul prog 74 (.int .u32) := ⟨by kernel_rfl⟩
instance aggC_75 : AggC prog 75 8 := ⟨fun w => by kernel_rfl, by kernel_rfl⟩
instance zeroC_75 : ZeroC prog 75 (.agg #[(.int .u32 0), (.int .u32 0), (.int .u32 0), (.int .u32 0), (.int .u32 0), (.int .u32 0), (.int .u32 0), (.int .u32 0)]) := ⟨by kernel_rfl⟩
instance ul_75 : Ul prog 75 (.array 8 74) := ⟨by kernel_rfl⟩
instance aggC_76 : AggC prog 76 8 := ⟨fun w => by kernel_rfl, by kernel_rfl⟩
instance zeroC_76 : ZeroC prog 76 (.agg #[(.int .u32 0), (.int .u32 0), (.int .u32 0), (.int .u32 0), (.int .u32 0), (.int .u32 0), (.int .u32 0), (.int .u32 0)]) := ⟨by kernel_rfl⟩
instance ul_76 : Ul prog 76 (.array 8 74) := ⟨by kernel_rfl⟩
instance oneC_77 : OneC prog 77 := ⟨fun w => by kernel_rfl, by kernel_rfl⟩
instance zeroC_77 : ZeroC prog 77 (.pointer none) := ⟨by kernel_rfl⟩
instance ul_77 : Ul prog 77 (.pointer 119) := ⟨by kernel_rfl⟩
instance oneC_79 : OneC prog 79 := ⟨fun w => by kernel_rfl, by kernel_rfl⟩
instance zeroC_79 : ZeroC prog 79 (.int .u64 0) := ⟨by kernel_rfl⟩
instance ul_79 : Ul prog 79 (.int .u64) := ⟨by kernel_rfl⟩
instance oneC_80 : OneC prog 80 := ⟨fun w => by kernel_rfl, by kernel_rfl⟩
instance zeroC_80 : ZeroC prog 80 (.int .u64 0) := ⟨by kernel_rfl⟩
instance ul_80 : Ul prog 80 (.int .u64) := ⟨by kernel_rfl⟩
instance oneC_92 : OneC prog 92 := ⟨fun w => by kernel_rfl, by kernel_rfl⟩
instance zeroC_92 : ZeroC prog 92 (.pointer none) := ⟨by kernel_rfl⟩
instance ul_92 : Ul prog 92 (.pointer 3) := ⟨by kernel_rfl⟩
instance oneC_94 : OneC prog 94 := ⟨fun w => by kernel_rfl, by kernel_rfl⟩
instance zeroC_94 : ZeroC prog 94 (.pointer none) := ⟨by kernel_rfl⟩
instance ul_94 : Ul prog 94 (.pointer 28) := ⟨by kernel_rfl⟩
instance oneC_98 : OneC prog 98 := ⟨fun w => by kernel_rfl, by kernel_rfl⟩
instance zeroC_98 : ZeroC prog 98 (.map none) := ⟨by kernel_rfl⟩
instance ul_98 : Ul prog 98 (.map 54 105) := ⟨by kernel_rfl⟩
instance aggC_99 : AggC prog 99 1 := ⟨fun w => by kernel_rfl, by kernel_rfl⟩
instance zeroC_99 : ZeroC prog 99 (.agg #[(.map none)]) := ⟨by kernel_rfl⟩
instance fld_99_0 : FldOff prog 99 0 0 := ⟨fun b o w => by kernel_rfl⟩
instance aggC_100 : AggC prog 100 1 := ⟨fun w => by kernel_rfl, by kernel_rfl⟩
instance zeroC_100 : ZeroC prog 100 (.agg #[(.map none)]) := ⟨by kernel_rfl⟩
instance fld_100_0 : FldOff prog 100 0 0 := ⟨fun b o w => by kernel_rfl⟩
instance aggC_101 : AggC prog 101 2 := ⟨fun w => by kernel_rfl, by kernel_rfl⟩
instance zeroC_101 : ZeroC prog 101 (.agg #[(.int .i64 0), (.int .i64 0)]) := ⟨by kernel_rfl⟩
instance fld_101_0 : FldOff prog 101 0 0 := ⟨fun b o w => by kernel_rfl⟩
instance fld_101_1 : FldOff prog 101 1 1 := ⟨fun b o w => by kernel_rfl⟩
instance aggC_102 : AggC prog 102 2 := ⟨fun w => by kernel_rfl, by kernel_rfl⟩
instance zeroC_102 : ZeroC prog 102 (.agg #[(.int .i64 0), (.int .i64 0)]) := ⟨by kernel_rfl⟩
instance fld_102_0 : FldOff prog 102 0 0 := ⟨fun b o w => by kernel_rfl⟩
instance fld_102_1 : FldOff prog 102 1 1 := ⟨fun b o w => by kernel_rfl⟩
instance oneC_103 : OneC prog 103 := ⟨fun w => by kernel_rfl, by kernel_rfl⟩
instance zeroC_103 : ZeroC prog 103 (.slice none 0 0) := ⟨by kernel_rfl⟩
instance sliceT_103 : SliceT prog 103 28 32 32 (.agg #[(.int .u8 0), (.int .u8 0), (.int .u8 0), (.int .u8 0), (.int .u8 0), (.int .u8 0), (.int .u8 0), (.int .u8 0), (.int .u8 0), (.int .u8 0), (.int .u8 0), (.int .u8 0), (.int .u8 0), (.int .u8 0), (.int .u8 0), (.int .u8 0), (.int .u8 0), (.int .u8 0), (.int .u8 0), (.int .u8 0), (.int .u8 0), (.int .u8 0), (.int .u8 0), (.int .u8 0), (.int .u8 0), (.int .u8 0), (.int .u8 0), (.int .u8 0), (.int .u8 0), (.int .u8 0), (.int .u8 0), (.int .u8 0)]) := ⟨by kernel_rfl, by kernel_rfl, rfl, by decide⟩
instance ul_103 : Ul prog 103 (.slice 28) := ⟨by kernel_rfl⟩
instance aggC_104 : AggC prog 104 37 := ⟨fun w => by kernel_rfl, by kernel_rfl⟩
instance zeroC_104 : ZeroC prog 104 (.agg #[(.int .i64 0), (.int .i64 0), (.int .u8 0), (.int .u8 0), (.int .u8 0), (.int .u8 0), (.int .u8 0), (.int .u8 0), (.int .u8 0), (.int .u8 0), (.int .u8 0), (.int .u8 0), (.int .u8 0), (.int .u8 0), (.int .u8 0), (.int .u8 0), (.int .u8 0), (.int .u8 0), (.int .u8 0), (.int .u8 0), (.int .u8 0), (.int .u8 0), (.int .u8 0), (.int .u8 0), (.int .u8 0), (.int .u8 0), (.int .u8 0), (.int .u8 0), (.int .u8 0), (.int .u8 0), (.int .u8 0), (.int .u8 0), (.int .u8 0), (.int .u8 0), (.string ⟨#[]⟩), (.int .i64 0), (.slice none 0 0)]) := ⟨by kernel_rfl⟩
instance fld_104_0 : FldOff prog 104 0 0 := ⟨fun b o w => by kernel_rfl⟩
instance fld_104_1 : FldOff prog 104 1 2 := ⟨fun b o w => by kernel_rfl⟩
instance fld_104_2 : FldOff prog 104 2 34 := ⟨fun b o w => by kernel_rfl⟩
instance fld_104_3 : FldOff prog 104 3 35 := ⟨fun b o w => by kernel_rfl⟩
instance fld_104_4 : FldOff prog 104 4 36 := ⟨fun b o w => by kernel_rfl⟩
instance aggC_105 : AggC prog 105 37 := ⟨fun w => by kernel_rfl, by kernel_rfl⟩
instance zeroC_105 : ZeroC prog 105 (.agg #[(.int .i64 0), (.int .i64 0), (.int .u8 0), (.int .u8 0), (.int .u8 0), (.int .u8 0), (.int .u8 0), (.int .u8 0), (.int .u8 0), (.int .u8 0), (.int .u8 0), (.int .u8 0), (.int .u8 0), (.int .u8 0), (.int .u8 0), (.int .u8 0), (.int .u8 0), (.int .u8 0), (.int .u8 0), (.int .u8 0), (.int .u8 0), (.int .u8 0), (.int .u8 0), (.int .u8 0), (.int .u8 0), (.int .u8 0), (.int .u8 0), (.int .u8 0), (.int .u8 0), (.int .u8 0), (.int .u8 0), (.int .u8 0), (.int .u8 0), (.int .u8 0), (.string ⟨#[]⟩), (.int .i64 0), (.slice none 0 0)]) := ⟨by kernel_rfl⟩
instance fld_105_0 : FldOff prog 105 0 0 := ⟨fun b o w => by kernel_rfl⟩
instance fld_105_1 : FldOff prog 105 1 2 := ⟨fun b o w => by kernel_rfl⟩
instance fld_105_2 : FldOff prog 105 2 34 := ⟨fun b o w => by kernel_rfl⟩
instance fld_105_3 : FldOff prog 105 3 35 := ⟨fun b o w => by kernel_rfl⟩
instance fld_105_4 : FldOff prog 105 4 36 := ⟨fun b o w => by kernel_rfl⟩
instance aggC_113 : AggC prog 113 2 := ⟨fun w => by kernel_rfl, by kernel_rfl⟩
instance zeroC_113 : ZeroC prog 113 (.agg #[(.string ⟨#[]⟩), (.string ⟨#[]⟩)]) := ⟨by kernel_rfl⟩
instance fld_113_0 : FldOff prog 113 0 0 := ⟨fun b o w => by kernel_rfl⟩
instance fld_113_1 : FldOff prog 113 1 1 := ⟨fun b o w => by kernel_rfl⟩
instance aggC_114 : AggC prog 114 2 := ⟨fun w => by kernel_rfl, by kernel_rfl⟩
instance zeroC_114 : ZeroC prog 114 (.agg #[(.string ⟨#[]⟩), (.string ⟨#[]⟩)]) := ⟨by kernel_rfl⟩
instance fld_114_0 : FldOff prog 114 0 0 := ⟨fun b o w => by kernel_rfl⟩
instance fld_114_1 : FldOff prog 114 1 1 := ⟨fun b o w => by kernel_rfl⟩
instance aggC_119 : AggC prog 119 64 := ⟨fun w => by kernel_rfl, by kernel_rfl⟩
instance zeroC_119 : ZeroC prog 119 (.agg #[(.int .u32 0), (.int .u32 0), (.int .u32 0), (.int .u32 0), (.int .u32 0), (.int .u32 0), (.int .u32 0), (.int .u32 0), (.int .u32 0), (.int .u32 0), (.int .u32 0), (.int .u32 0), (.int .u32 0), (.int .u32 0), (.int .u32 0), (.int .u32 0), (.int .u32 0), (.int .u32 0), (.int .u32 0), (.int .u32 0), (.int .u32 0), (.int .u32 0), (.int .u32 0), (.int .u32 0), (.int .u32 0), (.int .u32 0), (.int .u32 0), (.int .u32 0), (.int .u32 0), (.int .u32 0), (.int .u32 0), (.int .u32 0), (.int .u32 0), (.int .u32 0), (.int .u32 0), (.int .u32 0), (.int .u32 0), (.int .u32 0), (.int .u32 0), (.int .u32 0), (.int .u32 0), (.int .u32 0), (.int .u32 0), (.int .u32 0), (.int .u32 0), (.int .u32 0), (.int .u32 0), (.int .u32 0), (.int .u32 0), (.int .u32 0), (.int .u32 0), (.int .u32 0), (.int .u32 0), (.int .u32 0), (.int .u32 0), (.int .u32 0), (.int .u32 0), (.int .u32 0), (.int .u32 0), (.int .u32 0), (.int .u32 0), (.int .u32 0), (.int .u32 0), (.int .u32 0)]) := ⟨by kernel_rfl⟩
instance ul_119 : Ul prog 119 (.array 64 74) := ⟨by kernel_rfl⟩
instance oneC_121 : OneC prog 121 := ⟨fun w => by kernel_rfl, by kernel_rfl⟩
instance zeroC_121 : ZeroC prog 121 (.slice none 0 0) := ⟨by kernel_rfl⟩
instance sliceT_121 : SliceT prog 121 74 1 4 (.int .u32 0) := ⟨by kernel_rfl, by kernel_rfl, rfl, by decide⟩
instance ul_121 : Ul prog 121 (.slice 74) := ⟨by kernel_rfl⟩
instance aggC_129 : AggC prog 129 16 := ⟨fun w => by kernel_rfl, by kernel_rfl⟩
instance zeroC_129 : ZeroC prog 129 (.agg #[(.int .u8 0), (.int .u8 0), (.int .u8 0), (.int .u8 0), (.int .u8 0), (.int .u8 0), (.int .u8 0), (.int .u8 0), (.int .u8 0), (.int .u8 0), (.int .u8 0), (.int .u8 0), (.int .u8 0), (.int .u8 0), (.int .u8 0), (.int .u8 0)]) := ⟨by kernel_rfl⟩
instance ul_129 : Ul prog 129 (.array 16 5) := ⟨by kernel_rfl⟩
instance aggC_130 : AggC prog 130 16 := ⟨fun w => by kernel_rfl, by kernel_rfl⟩
instance zeroC_130 : ZeroC prog 130 (.agg #[(.int .u8 0), (.int .u8 0), (.int .u8 0), (.int .u8 0), (.int .u8 0), (.int .u8 0), (.int .u8 0), (.int .u8 0), (.int .u8 0), (.int .u8 0), (.int .u8 0), (.int .u8 0), (.int .u8 0), (.int .u8 0), (.int .u8 0), (.int .u8 0)]) := ⟨by kernel_rfl⟩
instance ul_130 : Ul prog 130 (.array 16 5) := ⟨by kernel_rfl⟩
instance oneC_133 : OneC prog 133 := ⟨fun w => by kernel_rfl, by kernel_rfl⟩
instance zeroC_133 : ZeroC prog 133 (.slice none 0 0) := ⟨by kernel_rfl⟩
instance sliceT_133 : SliceT prog 133 92 1 8 (.pointer none) := ⟨by kernel_rfl, by kernel_rfl, rfl, by decide⟩
instance ul_133 : Ul prog 133 (.slice 92) := ⟨by kernel_rfl⟩
instance oneC_136 : OneC prog 136 := ⟨fun w => by kernel_rfl, by kernel_rfl⟩
instance zeroC_136 : ZeroC prog 136 (.slice none 0 0) := ⟨by kernel_rfl⟩
instance sliceT_136 : SliceT prog 136 54 2 32 (.agg #[(.string ⟨#[]⟩), (.string ⟨#[]⟩)]) := ⟨by kernel_rfl, by kernel_rfl, rfl, by decide⟩
instance ul_136 : Ul prog 136 (.slice 54) := ⟨by kernel_rfl⟩
instance oneC_142 : OneC prog 142 := ⟨fun w => by kernel_rfl, by kernel_rfl⟩
instance zeroC_142 : ZeroC prog 142 (.slice none 0 0) := ⟨by kernel_rfl⟩
instance sliceT_142 : SliceT prog 142 3 1 8 (.int .i64 0) := ⟨by kernel_rfl, by kernel_rfl, rfl, by decide⟩
instance ul_142 : Ul prog 142 (.slice 3) := ⟨by kernel_rfl⟩
instance oneC_150 : OneC prog 150 := ⟨fun w => by kernel_rfl, by kernel_rfl⟩
instance zeroC_150 : ZeroC prog 150 .nilIface := ⟨by kernel_rfl⟩
instance oneC_151 : OneC prog 151 := ⟨fun w => by kernel_rfl, by kernel_rfl⟩
instance zeroC_151 : ZeroC prog 151 .nilIface := ⟨by kernel_rfl⟩
instance oneC_161 : OneC prog 161 := ⟨fun w => by kernel_rfl, by kernel_rfl⟩
instance zeroC_161 : ZeroC prog 161 (.int .i64 0) := ⟨by kernel_rfl⟩
instance ul_161 : Ul prog 161 (.int .i64) := ⟨by kernel_rfl⟩
instance aggC_171 : AggC prog 171 64 := ⟨fun w => by kernel_rfl, by kernel_rfl⟩
instance zeroC_171 : ZeroC prog 171 (.agg #[(.int .u8 0), (.int .u8 0), (.int .u8 0), (.int .u8 0), (.int .u8 0), (.int .u8 0), (.int .u8 0), (.int .u8 0), (.int .u8 0), (.int .u8 0), (.int .u8 0), (.int .u8 0), (.int .u8 0), (.int .u8 0), (.int .u8 0), (.int .u8 0), (.int .u8 0), (.int .u8 0), (.int .u8 0), (.int .u8 0), (.int .u8 0), (.int .u8 0), (.int .u8 0), (.int .u8 0), (.int .u8 0), (.int .u8 0), (.int .u8 0), (.int .u8 0), (.int .u8 0), (.int .u8 0), (.int .u8 0), (.int .u8 0), (.int .u8 0), (.int .u8 0), (.int .u8 0), (.int .u8 0), (.int .u8 0), (.int .u8 0), (.int .u8 0), (.int .u8 0), (.int .u8 0), (.int .u8 0), (.int .u8 0), (.int .u8 0), (.int .u8 0), (.int .u8 0), (.int .u8 0), (.int .u8 0), (.int .u8 0), (.int .u8 0), (.int .u8 0), (.int .u8 0), (.int .u8 0), (.int .u8 0), (.int .u8 0), (.int .u8 0), (.int .u8 0), (.int .u8 0), (.int .u8 0), (.int .u8 0), (.int .u8 0), (.int .u8 0), (.int .u8 0), (.int .u8 0)]) := ⟨by kernel_rfl⟩
instance ul_171 : Ul prog 171 (.array 64 5) := ⟨by kernel_rfl⟩
instance aggC_173 : AggC prog 173 256 := ⟨fun w => by kernel_rfl, by kernel_rfl⟩
instance zeroC_173 : ZeroC prog 173 (.agg #[(.bool false), (.bool false), (.bool false), (.bool false), (.bool false), (.bool false), (.bool false), (.bool false), (.bool false), (.bool false), (.bool false), (.bool false), (.bool false), (.bool false), (.bool false), (.bool false), (.bool false), (.bool false), (.bool false), (.bool false), (.bool false), (.bool false), (.bool false), (.bool false), (.bool false), (.bool false), (.bool false), (.bool false), (.bool false), (.bool false), (.bool false), (.bool false), (.bool false), (.bool false), (.bool false), (.bool false), (.bool false), (.bool false), (.bool false), (.bool false), (.bool false), (.bool false), (.bool false), (.bool false), (.bool false), (.bool false), (.bool false), (.bool false), (.bool false), (.bool false), (.bool false), (.bool false), (.bool false), (.bool false), (.bool false), (.bool false), (.bool false), (.bool false), (.bool false), (.bool false), (.bool false), (.bool false), (.bool false), (.bool false), (.bool false), (.bool false), (.bool false), (.bool false), (.bool false), (.bool false), (.bool false), (.bool false), (.bool false), (.bool false), (.bool false), (.bool false), (.bool false), (.bool false), (.bool false), (.bool false), (.bool false), (.bool false), (.bool false), (.bool false), (.bool false), (.bool false), (.bool false), (.bool false), (.bool false), (.bool false), (.bool false), (.bool false), (.bool false), (.bool false), (.bool false), (.bool false), (.bool false), (.bool false), (.bool false), (.bool false), (.bool false), (.bool false), (.bool false), (.bool false), (.bool false), (.bool false), (.bool false), (.bool false), (.bool false), (.bool false), (.bool false), (.bool false), (.bool false), (.bool false), (.bool false), (.bool false), (.bool false), (.bool false), (.bool false), (.bool false), (.bool false), (.bool false), (.bool false), (.bool false), (.bool false), (.bool false), (.bool false), (.bool false), (.bool false), (.bool false), (.bool false), (.bool false), (.bool false), (.bool false), (.bool false), (.bool false), (.bool false), (.bool false), (.bool false), (.bool false), (.bool false), (.bool false), (.bool false), (.bool false), (.bool false), (.bool false), (.bool false), (.bool false), (.bool false), (.bool false), (.bool false), (.bool false), (.bool false), (.bool false), (.bool false), (.bool false), (.bool false), (.bool false), (.bool false), (.bool false), (.bool false), (.bool false), (.bool false), (.bool false), (.bool false), (.bool false), (.bool false), (.bool false), (.bool false), (.bool false), (.bool false), (.bool false), (.bool false), (.bool false), (.bool false), (.bool false), (.bool false), (.bool false), (.bool false), (.bool false), (.bool false), (.bool false), (.bool false), (.bool false), (.bool false), (.bool false), (.bool false), (.bool false), (.bool false), (.bool false), (.bool false), (.bool false), (.bool false), (.bool false), (.bool false), (.bool false), (.bool false), (.bool false), (.bool false), (.bool false), (.bool false), (.bool false), (.bool false), (.bool false), (.bool false), (.bool false), (.bool false), (.bool false), (.bool false), (.bool false), (.bool false), (.bool false), (.bool false), (.bool false), (.bool false), (.bool false), (.bool false), (.bool false), (.bool false), (.bool false), (.bool false), (.bool false), (.bool false), (.bool false), (.bool false), (.bool false), (.bool false), (.bool false), (.bool false), (.bool false), (.bool false), (.bool false), (.bool false), (.bool false), (.bool false), (.bool false), (.bool false), (.bool false), (.bool false), (.bool false), (.bool false), (.bool false), (.bool false), (.bool false), (.bool false), (.bool false), (.bool false), (.bool false), (.bool false), (.bool false), (.bool false), (.bool false), (.bool false), (.bool false), (.bool false), (.bool false)]) := ⟨by kernel_rfl⟩
instance ul_173 : Ul prog 173 (.array 256 4) := ⟨by kernel_rfl⟩
instance aggC_174 : AggC prog 174 256 := ⟨fun w => by kernel_rfl, by kernel_rfl⟩
instance zeroC_174 : ZeroC prog 174 (.agg #[(.bool false), (.bool false), (.bool false), (.bool false), (.bool false), (.bool false), (.bool false), (.bool false), (.bool false), (.bool false), (.bool false), (.bool false), (.bool false), (.bool false), (.bool false), (.bool false), (.bool false), (.bool false), (.bool false), (.bool false), (.bool false), (.bool false), (.bool false), (.bool false), (.bool false), (.bool false), (.bool false), (.bool false), (.bool false), (.bool false), (.bool false), (.bool false), (.bool false), (.bool false), (.bool false), (.bool false), (.bool false), (.bool false), (.bool false), (.bool false), (.bool false), (.bool false), (.bool false), (.bool false), (.bool false), (.bool false), (.bool false), (.bool false), (.bool false), (.bool false), (.bool false), (.bool false), (.bool false), (.bool false), (.bool false), (.bool false), (.bool false), (.bool false), (.bool false), (.bool false), (.bool false), (.bool false), (.bool false), (.bool false), (.bool false), (.bool false), (.bool false), (.bool false), (.bool false), (.bool false), (.bool false), (.bool false), (.bool false), (.bool false), (.bool false), (.bool false), (.bool false), (.bool false), (.bool false), (.bool false), (.bool false), (.bool false), (.bool false), (.bool false), (.bool false), (.bool false), (.bool false), (.bool false), (.bool false), (.bool false), (.bool false), (.bool false), (.bool false), (.bool false), (.bool false), (.bool false), (.bool false), (.bool false), (.bool false), (.bool false), (.bool false), (.bool false), (.bool false), (.bool false), (.bool false), (.bool false), (.bool false), (.bool false), (.bool false), (.bool false), (.bool false), (.bool false), (.bool false), (.bool false), (.bool false), (.bool false), (.bool false), (.bool false), (.bool false), (.bool false), (.bool false), (.bool false), (.bool false), (.bool false), (.bool false), (.bool false), (.bool false), (.bool false), (.bool false), (.bool false), (.bool false), (.bool false), (.bool false), (.bool false), (.bool false), (.bool false), (.bool false), (.bool false), (.bool false), (.bool false), (.bool false), (.bool false), (.bool false), (.bool false), (.bool false), (.bool false), (.bool false), (.bool false), (.bool false), (.bool false), (.bool false), (.bool false), (.bool false), (.bool false), (.bool false), (.bool false), (.bool false), (.bool false), (.bool false), (.bool false), (.bool false), (.bool false), (.bool false), (.bool false), (.bool false), (.bool false), (.bool false), (.bool false), (.bool false), (.bool false), (.bool false), (.bool false), (.bool false), (.bool false), (.bool false), (.bool false), (.bool false), (.bool false), (.bool false), (.bool false), (.bool false), (.bool false), (.bool false), (.bool false), (.bool false), (.bool false), (.bool false), (.bool false), (.bool false), (.bool false), (.bool false), (.bool false), (.bool false), (.bool false), (.bool false), (.bool false), (.bool false), (.bool false), (.bool false), (.bool false), (.bool false), (.bool false), (.bool false), (.bool false), (.bool false), (.bool false), (.bool false), (.bool false), (.bool false), (.bool false), (.bool false), (.bool false), (.bool false), (.bool false), (.bool false), (.bool false), (.bool false), (.bool false), (.bool false), (.bool false), (.bool false), (.bool false), (.bool false), (.bool false), (.bool false), (.bool false), (.bool false), (.bool false), (.bool false), (.bool false), (.bool false), (.bool false), (.bool false), (.bool false), (.bool false), (.bool false), (.bool false), (.bool false), (.bool false), (.bool false), (.bool false), (.bool false), (.bool false), (.bool false), (.bool false), (.bool false), (.bool false), (.bool false), (.bool false), (.bool false), (.bool false), (.bool false), (.bool false), (.bool false), (.bool false), (.bool false)]) := ⟨by kernel_rfl⟩
instance ul_174 : Ul prog 174 (.array 256 4) := ⟨by kernel_rfl⟩
instance oneC_178 : OneC prog 178 := ⟨fun w => by kernel_rfl, by kernel_rfl⟩
instance zeroC_178 : ZeroC prog 178 (.pointer none) := ⟨by kernel_rfl⟩
instance ul_178 : Ul prog 178 (.pointer 174) := ⟨by kernel_rfl⟩
instance oneC_186 : OneC prog 186 := ⟨fun w => by kernel_rfl, by kernel_rfl⟩
instance zeroC_186 : ZeroC prog 186 (.int .u64 0) := ⟨by kernel_rfl⟩
instance ul_186 : Ul prog 186 (.int .u64) := ⟨by kernel_rfl⟩
instance aggC_192 : AggC prog 192 24 := ⟨fun w => by kernel_rfl, by kernel_rfl⟩
instance zeroC_192 : ZeroC prog 192 (.agg #[(.int .u8 0), (.int .u8 0), (.int .u8 0), (.int .u8 0), (.int .u8 0), (.int .u8 0), (.int .u8 0), (.int .u8 0), (.int .u8 0), (.int .u8 0), (.int .u8 0), (.int .u8 0), (.int .u8 0), (.int .u8 0), (.int .u8 0), (.int .u8 0), (.int .u8 0), (.int .u8 0), (.int .u8 0), (.int .u8 0), (.int .u8 0), (.int .u8 0), (.int .u8 0), (.int .u8 0)]) := ⟨by kernel_rfl⟩
instance ul_192 : Ul prog 192 (.array 24 5) := ⟨by kernel_rfl⟩
instance oneC_203 : OneC prog 203 := ⟨fun w => by kernel_rfl, by kernel_rfl⟩
instance zeroC_203 : ZeroC prog 203 (.int .i64 0) := ⟨by kernel_rfl⟩
instance ul_203 : Ul prog 203 (.int .i64) := ⟨by kernel_rfl⟩
instance oneC_205 : OneC prog 205 := ⟨fun w => by kernel_rfl, by kernel_rfl⟩
instance zeroC_205 : ZeroC prog 205 (.pointer none) := ⟨by kernel_rfl⟩
instance ul_205 : Ul prog 205 (.pointer 236) := ⟨by kernel_rfl⟩
instance oneC_215 : OneC prog 215 := ⟨fun w => by kernel_rfl, by kernel_rfl⟩
instance zeroC_215 : ZeroC prog 215 (.pointer none) := ⟨by kernel_rfl⟩
instance ul_215 : Ul prog 215 (.pointer 186) := ⟨by kernel_rfl⟩
instance aggC_221 : AggC prog 221 20 := ⟨fun w => by kernel_rfl, by kernel_rfl⟩
instance zeroC_221 : ZeroC prog 221 (.agg #[(.int .u64 0), (.int .u64 0), (.int .u64 0), (.int .u64 0), (.int .u64 0), (.int .u64 0), (.int .u64 0), (.int .u64 0), (.int .u64 0), (.int .u64 0), (.int .u64 0), (.int .u64 0), (.int .u64 0), (.int .u64 0), (.int .u64 0), (.int .u64 0), (.int .u64 0), (.int .u64 0), (.int .u64 0), (.int .u64 0)]) := ⟨by kernel_rfl⟩
instance ul_221 : Ul prog 221 (.array 20 79) := ⟨by kernel_rfl⟩
instance aggC_222 : AggC prog 222 65 := ⟨fun w => by kernel_rfl, by kernel_rfl⟩
instance zeroC_222 : ZeroC prog 222 (.agg #[(.int .u8 0), (.int .u8 0), (.int .u8 0), (.int .u8 0), (.int .u8 0), (.int .u8 0), (.int .u8 0), (.int .u8 0), (.int .u8 0), (.int .u8 0), (.int .u8 0), (.int .u8 0), (.int .u8 0), (.int .u8 0), (.int .u8 0), (.int .u8 0), (.int .u8 0), (.int .u8 0), (.int .u8 0), (.int .u8 0), (.int .u8 0), (.int .u8 0), (.int .u8 0), (.int .u8 0), (.int .u8 0), (.int .u8 0), (.int .u8 0), (.int .u8 0), (.int .u8 0), (.int .u8 0), (.int .u8 0), (.int .u8 0), (.int .u8 0), (.int .u8 0), (.int .u8 0), (.int .u8 0), (.int .u8 0), (.int .u8 0), (.int .u8 0), (.int .u8 0), (.int .u8 0), (.int .u8 0), (.int .u8 0), (.int .u8 0), (.int .u8 0), (.int .u8 0), (.int .u8 0), (.int .u8 0), (.int .u8 0), (.int .u8 0), (.int .u8 0), (.int .u8 0), (.int .u8 0), (.int .u8 0), (.int .u8 0), (.int .u8 0), (.int .u8 0), (.int .u8 0), (.int .u8 0), (.int .u8 0), (.int .u8 0), (.int .u8 0), (.int .u8 0), (.int .u8 0), (.int .u8 0)]) := ⟨by kernel_rfl⟩
instance ul_222 : Ul prog 222 (.array 65 5) := ⟨by kernel_rfl⟩
instance oneC_225 : OneC prog 225 := ⟨fun w => by kernel_rfl, by kernel_rfl⟩
instance zeroC_225 : ZeroC prog 225 (.pointer none) := ⟨by kernel_rfl⟩
instance ul_225 : Ul prog 225 (.pointer 227) := ⟨by kernel_rfl⟩
instance aggC_226 : AggC prog 226 2 := ⟨fun w => by kernel_rfl, by kernel_rfl⟩
instance zeroC_226 : ZeroC prog 226 (.agg #[(.pointer none), (.slice none 0 0)]) := ⟨by kernel_rfl⟩
instance fld_226_0 : FldOff prog 226 0 0 := ⟨fun b o w => by kernel_rfl⟩
instance fld_226_1 : FldOff prog 226 1 1 := ⟨fun b o w => by kernel_rfl⟩
instance aggC_227 : AggC prog 227 2 := ⟨fun w => by kernel_rfl, by kernel_rfl⟩
instance zeroC_227 : ZeroC prog 227 (.agg #[(.pointer none), (.slice none 0 0)]) := ⟨by kernel_rfl⟩
instance fld_227_0 : FldOff prog 227 0 0 := ⟨fun b o w => by kernel_rfl⟩
instance fld_227_1 : FldOff prog 227 1 1 := ⟨fun b o w => by kernel_rfl⟩
instance oneC_232 : OneC prog 232 := ⟨fun w => by kernel_rfl, by kernel_rfl⟩
instance zeroC_232 : ZeroC prog 232 (.slice none 0 0) := ⟨by kernel_rfl⟩
instance sliceT_232 : SliceT prog 232 22 1 24 (.slice none 0 0) := ⟨by kernel_rfl, by kernel_rfl, rfl, by decide⟩
instance ul_232 : Ul prog 232 (.slice 22) := ⟨by kernel_rfl⟩
instance aggC_235 : AggC prog 235 3 := ⟨fun w => by kernel_rfl, by kernel_rfl⟩
instance zeroC_235 : ZeroC prog 235 (.agg #[(.string ⟨#[]⟩), (.string ⟨#[]⟩), .nilIface]) := ⟨by kernel_rfl⟩
instance fld_235_0 : FldOff prog 235 0 0 := ⟨fun b o w => by kernel_rfl⟩
instance fld_235_1 : FldOff prog 235 1 1 := ⟨fun b o w => by kernel_rfl⟩
instance fld_235_2 : FldOff prog 235 2 2 := ⟨fun b o w => by kernel_rfl⟩
instance aggC_236 : AggC prog 236 3 := ⟨fun w => by kernel_rfl, by kernel_rfl⟩
instance zeroC_236 : ZeroC prog 236 (.agg #[(.string ⟨#[]⟩), (.string ⟨#[]⟩), .nilIface]) := ⟨by kernel_rfl⟩
instance fld_236_0 : FldOff prog 236 0 0 := ⟨fun b o w => by kernel_rfl⟩
instance fld_236_1 : FldOff prog 236 1 1 := ⟨fun b o w => by kernel_rfl⟩
instance fld_236_2 : FldOff prog 236 2 2 := ⟨fun b o w => by kernel_rfl⟩
instance aggC_245 : AggC prog 245 256 := ⟨fun w => by kernel_rfl, by kernel_rfl⟩
instance zeroC_245 : ZeroC prog 245 (.agg #[(.int .u8 0), (.int .u8 0), (.int .u8 0), (.int .u8 0), (.int .u8 0), (.int .u8 0), (.int .u8 0), (.int .u8 0), (.int .u8 0), (.int .u8 0), (.int .u8 0), (.int .u8 0), (.int .u8 0), (.int .u8 0), (.int .u8 0), (.int .u8 0), (.int .u8 0), (.int .u8 0), (.int .u8 0), (.int .u8 0), (.int .u8 0), (.int .u8 0), (.int .u8 0), (.int .u8 0), (.int .u8 0), (.int .u8 0), (.int .u8 0), (.int .u8 0), (.int .u8 0), (.int .u8 0), (.int .u8 0), (.int .u8 0), (.int .u8 0), (.int .u8 0), (.int .u8 0), (.int .u8 0), (.int .u8 0), (.int .u8 0), (.int .u8 0), (.int .u8 0), (.int .u8 0), (.int .u8 0), (.int .u8 0), (.int .u8 0), (.int .u8 0), (.int .u8 0), (.int .u8 0), (.int .u8 0), (.int .u8 0), (.int .u8 0), (.int .u8 0), (.int .u8 0), (.int .u8 0), (.int .u8 0), (.int .u8 0), (.int .u8 0), (.int .u8 0), (.int .u8 0), (.int .u8 0), (.int .u8 0), (.int .u8 0), (.int .u8 0), (.int .u8 0), (.int .u8 0), (.int .u8 0), (.int .u8 0), (.int .u8 0), (.int .u8 0), (.int .u8 0), (.int .u8 0), (.int .u8 0), (.int .u8 0), (.int .u8 0), (.int .u8 0), (.int .u8 0), (.int .u8 0), (.int .u8 0), (.int .u8 0), (.int .u8 0), (.int .u8 0), (.int .u8 0), (.int .u8 0), (.int .u8 0), (.int .u8 0), (.int .u8 0), (.int .u8 0), (.int .u8 0), (.int .u8 0), (.int .u8 0), (.int .u8 0), (.int .u8 0), (.int .u8 0), (.int .u8 0), (.int .u8 0), (.int .u8 0), (.int .u8 0), (.int .u8 0), (.int .u8 0), (.int .u8 0), (.int .u8 0), (.int .u8 0), (.int .u8 0), (.int .u8 0), (.int .u8 0), (.int .u8 0), (.int .u8 0), (.int .u8 0), (.int .u8 0), (.int .u8 0), (.int .u8 0), (.int .u8 0), (.int .u8 0), (.int .u8 0), (.int .u8 0), (.int .u8 0), (.int .u8 0), (.int .u8 0), (.int .u8 0), (.int .u8 0), (.int .u8 0), (.int .u8 0), (.int .u8 0), (.int .u8 0), (.int .u8 0), (.int .u8 0), (.int .u8 0), (.int .u8 0), (.int .u8 0), (.int .u8 0), (.int .u8 0), (.int .u8 0), (.int .u8 0), (.int .u8 0), (.int .u8 0), (.int .u8 0), (.int .u8 0), (.int .u8 0), (.int .u8 0), (.int .u8 0), (.int .u8 0), (.int .u8 0), (.int .u8 0), (.int .u8 0), (.int .u8 0), (.int .u8 0), (.int .u8 0), (.int .u8 0), (.int .u8 0), (.int .u8 0), (.int .u8 0), (.int .u8 0), (.int .u8 0), (.int .u8 0), (.int .u8 0), (.int .u8 0), (.int .u8 0), (.int .u8 0), (.int .u8 0), (.int .u8 0), (.int .u8 0), (.int .u8 0), (.int .u8 0), (.int .u8 0), (.int .u8 0), (.int .u8 0), (.int .u8 0), (.int .u8 0), (.int .u8 0), (.int .u8 0), (.int .u8 0), (.int .u8 0), (.int .u8 0), (.int .u8 0), (.int .u8 0), (.int .u8 0), (.int .u8 0), (.int .u8 0), (.int .u8 0), (.int .u8 0), (.int .u8 0), (.int .u8 0), (.int .u8 0), (.int .u8 0), (.int .u8 0), (.int .u8 0), (.int .u8 0), (.int .u8 0), (.int .u8 0), (.int .u8 0), (.int .u8 0), (.int .u8 0), (.int .u8 0), (.int .u8 0), (.int .u8 0), (.int .u8 0), (.int .u8 0), (.int .u8 0), (.int .u8 0), (.int .u8 0), (.int .u8 0), (.int .u8 0), (.int .u8 0), (.int .u8 0), (.int .u8 0), (.int .u8 0), (.int .u8 0), (.int .u8 0), (.int .u8 0), (.int .u8 0), (.int .u8 0), (.int .u8 0), (.int .u8 0), (.int .u8 0), (.int .u8 0), (.int .u8 0), (.int .u8 0), (.int .u8 0), (.int .u8 0), (.int .u8 0), (.int .u8 0), (.int .u8 0), (.int .u8 0), (.int .u8 0), (.int .u8 0), (.int .u8 0), (.int .u8 0), (.int .u8 0), (.int .u8 0), (.int .u8 0), (.int .u8 0), (.int .u8 0), (.int .u8 0), (.int .u8 0), (.int .u8 0), (.int .u8 0), (.int .u8 0), (.int .u8 0), (.int .u8 0), (.int .u8 0), (.int .u8 0), (.int .u8 0), (.int .u8 0), (.int .u8 0), (.int .u8 0), (.int .u8 0), (.int .u8 0), (.int .u8 0), (.int .u8 0), (.int .u8 0), (.int .u8 0), (.int .u8 0), (.int .u8 0), (.int .u8 0), (.int .u8 0), (.int .u8 0), (.int .u8 0)]) := ⟨by kernel_rfl⟩
instance ul_245 : Ul prog 245 (.array 256 5) := ⟨by kernel_rfl⟩
instance aggC_246 : AggC prog 246 2 := ⟨fun w => by kernel_rfl, by kernel_rfl⟩
instance zeroC_246 : ZeroC prog 246 (.agg #[(.int .u8 0), (.int .u8 0)]) := ⟨by kernel_rfl⟩
instance fld_246_0 : FldOff prog 246 0 0 := ⟨fun b o w => by kernel_rfl⟩
instance fld_246_1 : FldOff prog 246 1 1 := ⟨fun b o w => by kernel_rfl⟩
instance aggC_247 : AggC prog 247 2 := ⟨fun w => by kernel_rfl, by kernel_rfl⟩
instance zeroC_247 : ZeroC prog 247 (.agg #[(.int .u8 0), (.int .u8 0)]) := ⟨by kernel_rfl⟩
instance fld_247_0 : FldOff prog 247 0 0 := ⟨fun b o w => by kernel_rfl⟩
instance fld_247_1 : FldOff prog 247 1 1 := ⟨fun b o w => by kernel_rfl⟩
instance aggC_248 : AggC prog 248 32 := ⟨fun w => by kernel_rfl, by kernel_rfl⟩
instance zeroC_248 : ZeroC prog 248 (.agg #[(.int .u8 0), (.int .u8 0), (.int .u8 0), (.int .u8 0), (.int .u8 0), (.int .u8 0), (.int .u8 0), (.int .u8 0), (.int .u8 0), (.int .u8 0), (.int .u8 0), (.int .u8 0), (.int .u8 0), (.int .u8 0), (.int .u8 0), (.int .u8 0), (.int .u8 0), (.int .u8 0), (.int .u8 0), (.int .u8 0), (.int .u8 0), (.int .u8 0), (.int .u8 0), (.int .u8 0), (.int .u8 0), (.int .u8 0), (.int .u8 0), (.int .u8 0), (.int .u8 0), (.int .u8 0), (.int .u8 0), (.int .u8 0)]) := ⟨by kernel_rfl⟩
instance ul_248 : Ul prog 248 (.array 16 247) := ⟨by kernel_rfl⟩
instance oneC_250 : OneC prog 250 := ⟨fun w => by kernel_rfl, by kernel_rfl⟩
instance zeroC_250 : ZeroC prog 250 (.pointer none) := ⟨by kernel_rfl⟩
instance ul_250 : Ul prog 250 (.pointer 5) := ⟨by kernel_rfl⟩
instance oneC_251 : OneC prog 251 := ⟨fun w => by kernel_rfl, by kernel_rfl⟩
instance zeroC_251 : ZeroC prog 251 (.pointer none) := ⟨by kernel_rfl⟩
instance ul_251 : Ul prog 251 (.pointer 253) := ⟨by kernel_rfl⟩
instance aggC_252 : AggC prog 252 1 := ⟨fun w => by kernel_rfl, by kernel_rfl⟩
instance zeroC_252 : ZeroC prog 252 (.agg #[(.string ⟨#[]⟩)]) := ⟨by kernel_rfl⟩
instance fld_252_0 : FldOff prog 252 0 0 := ⟨fun b o w => by kernel_rfl⟩
instance aggC_253 : AggC prog 253 1 := ⟨fun w => by kernel_rfl, by kernel_rfl⟩
instance zeroC_253 : ZeroC prog 253 (.agg #[(.string ⟨#[]⟩)]) := ⟨by kernel_rfl⟩
instance fld_253_0 : FldOff prog 253 0 0 := ⟨fun b o w => by kernel_rfl⟩
instance oneC_259 : OneC prog 259 := ⟨fun w => by kernel_rfl, by kernel_rfl⟩
instance zeroC_259 : ZeroC prog 259 (.pointer none) := ⟨by kernel_rfl⟩
instance aggC_263 : AggC prog 263 4 := ⟨fun w => by kernel_rfl, by kernel_rfl⟩
instance zeroC_263 : ZeroC prog 263 (.agg #[(.pointer none), (.pointer none), (.pointer none), (.string ⟨#[]⟩)]) := ⟨by kernel_rfl⟩
instance fld_263_0 : FldOff prog 263 0 0 := ⟨fun b o w => by kernel_rfl⟩
instance fld_263_1 : FldOff prog 263 1 1 := ⟨fun b o w => by kernel_rfl⟩
instance fld_263_2 : FldOff prog 263 2 2 := ⟨fun b o w => by kernel_rfl⟩
instance fld_263_3 : FldOff prog 263 3 3 := ⟨fun b o w => by kernel_rfl⟩
instance aggC_264 : AggC prog 264 4 := ⟨fun w => by kernel_rfl, by kernel_rfl⟩
instance zeroC_264 : ZeroC prog 264 (.agg #[(.pointer none), (.pointer none), (.pointer none), (.string ⟨#[]⟩)]) := ⟨by kernel_rfl⟩
instance fld_264_0 : FldOff prog 264 0 0 := ⟨fun b o w => by kernel_rfl⟩
instance fld_264_1 : FldOff prog 264 1 1 := ⟨fun b o w => by kernel_rfl⟩
instance fld_264_2 : FldOff prog 264 2 2 := ⟨fun b o w => by kernel_rfl⟩
instance fld_264_3 : FldOff prog 264 3 3 := ⟨fun b o w => by kernel_rfl⟩
instance aggC_265 : AggC prog 265 0 := ⟨fun w => by kernel_rfl, by kernel_rfl⟩
instance zeroC_265 : ZeroC prog 265 (.agg #[]) := ⟨by kernel_rfl⟩
instance ul_265 : Ul prog 265 (.array 0 16) := ⟨by kernel_rfl⟩
instance aggC_266 : AggC prog 266 0 := ⟨fun w => by kernel_rfl, by kernel_rfl⟩
instance zeroC_266 : ZeroC prog 266 (.agg #[]) := ⟨by kernel_rfl⟩
instance aggC_267 : AggC prog 267 0 := ⟨fun w => by kernel_rfl, by kernel_rfl⟩
instance zeroC_267 : ZeroC prog 267 (.agg #[]) := ⟨by kernel_rfl⟩
instance oneC_268 : OneC prog 268 := ⟨fun w => by kernel_rfl, by kernel_rfl⟩
instance zeroC_268 : ZeroC prog 268 (.int .u8 0) := ⟨by kernel_rfl⟩
instance ul_268 : Ul prog 268 (.int .u8) := ⟨by kernel_rfl⟩
instance oneC_269 : OneC prog 269 := ⟨fun w => by kernel_rfl, by kernel_rfl⟩
instance zeroC_269 : ZeroC prog 269 (.int .u8 0) := ⟨by kernel_rfl⟩
instance ul_269 : Ul prog 269 (.int .u8) := ⟨by kernel_rfl⟩
instance oneC_271 : OneC prog 271 := ⟨fun w => by kernel_rfl, by kernel_rfl⟩
instance zeroC_271 : ZeroC prog 271 (.int .i32 0) := ⟨by kernel_rfl⟩
instance ul_271 : Ul prog 271 (.int .i32) := ⟨by kernel_rfl⟩
instance oneC_272 : OneC prog 272 := ⟨fun w => by kernel_rfl, by kernel_rfl⟩
instance zeroC_272 : ZeroC prog 272 (.int .i32 0) := ⟨by kernel_rfl⟩
instance ul_272 : Ul prog 272 (.int .i32) := ⟨by kernel_rfl⟩
instance aggC_273 : AggC prog 273 11 := ⟨fun w => by kernel_rfl, by kernel_rfl⟩
instance zeroC_273 : ZeroC prog 273 (.agg #[(.int .u64 0), (.int .u64 0), (.int .u32 0), (.int .u8 0), (.int .u8 0), (.int .u8 0), (.int .u8 0), .nilFunc, (.pointer none), (.int .i32 0), (.int .i32 0)]) := ⟨by kernel_rfl⟩
instance fld_273_0 : FldOff prog 273 0 0 := ⟨fun b o w => by kernel_rfl⟩
instance fld_273_1 : FldOff prog 273 1 1 := ⟨fun b o w => by kernel_rfl⟩
instance fld_273_2 : FldOff prog 273 2 2 := ⟨fun b o w => by kernel_rfl⟩
instance fld_273_3 : FldOff prog 273 3 3 := ⟨fun b o w => by kernel_rfl⟩
instance fld_273_4 : FldOff prog 273 4 4 := ⟨fun b o w => by kernel_rfl⟩
instance fld_273_5 : FldOff prog 273 5 5 := ⟨fun b o w => by kernel_rfl⟩
instance fld_273_6 : FldOff prog 273 6 6 := ⟨fun b o w => by kernel_rfl⟩
instance fld_273_7 : FldOff prog 273 7 7 := ⟨fun b o w => by kernel_rfl⟩
instance fld_273_8 : FldOff prog 273 8 8 := ⟨fun b o w => by kernel_rfl⟩
instance fld_273_9 : FldOff prog 273 9 9 := ⟨fun b o w => by kernel_rfl⟩
instance fld_273_10 : FldOff prog 273 10 10 := ⟨fun b o w => by kernel_rfl⟩
instance aggC_274 : AggC prog 274 11 := ⟨fun w => by kernel_rfl, by kernel_rfl⟩
instance zeroC_274 : ZeroC prog 274 (.agg #[(.int .u64 0), (.int .u64 0), (.int .u32 0), (.int .u8 0), (.int .u8 0), (.int .u8 0), (.int .u8 0), .nilFunc, (.pointer none), (.int .i32 0), (.int .i32 0)]) := ⟨by kernel_rfl⟩
instance fld_274_0 : FldOff prog 274 0 0 := ⟨fun b o w => by kernel_rfl⟩
instance fld_274_1 : FldOff prog 274 1 1 := ⟨fun b o w => by kernel_rfl⟩
instance fld_274_2 : FldOff prog 274 2 2 := ⟨fun b o w => by kernel_rfl⟩
instance fld_274_3 : FldOff prog 274 3 3 := ⟨fun b o w => by kernel_rfl⟩
instance fld_274_4 : FldOff prog 274 4 4 := ⟨fun b o w => by kernel_rfl⟩
instance fld_274_5 : FldOff prog 274 5 5 := ⟨fun b o w => by kernel_rfl⟩
instance fld_274_6 : FldOff prog 274 6 6 := ⟨fun b o w => by kernel_rfl⟩
instance fld_274_7 : FldOff prog 274 7 7 := ⟨fun b o w => by kernel_rfl⟩
instance fld_274_8 : FldOff prog 274 8 8 := ⟨fun b o w => by kernel_rfl⟩
instance fld_274_9 : FldOff prog 274 9 9 := ⟨fun b o w => by kernel_rfl⟩
instance fld_274_10 : FldOff prog 274 10 10 := ⟨fun b o w => by kernel_rfl⟩

end Go.Proofs.YtmnaalpjhkkglaaGreatDoor
