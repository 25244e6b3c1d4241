import Derived.Test.YtjeiojibnmfibaaDoorProg
import Derived.Test.YtjeiojibnmfibaaDoorVc
import Derived.KernelRfl
set_option linter.all false
set_option maxRecDepth 100000
namespace Go.Proofs.YtjeiojibnmfibaaDoor
open Go Hold
noncomputable abbrev prog : Program := Tryd.prog
instance oneC_2 : OneC prog 2 := ⟨fun w => by kernel_rfl, by kernel_rfl⟩
instance zeroC_2 : ZeroC prog 2 (.int .i64 0) := ⟨by kernel_rfl⟩
instance ul_2 : Ul prog 2 (.int .i64) := ⟨by kernel_rfl⟩
instance oneC_3 : OneC prog 3 := ⟨fun w => by kernel_rfl, by kernel_rfl⟩
instance zeroC_3 : ZeroC prog 3 (.int .i64 0) := ⟨by kernel_rfl⟩
instance ul_3 : Ul prog 3 (.int .i64) := ⟨by kernel_rfl⟩
instance oneC_4 : OneC prog 4 := ⟨fun w => by kernel_rfl, by kernel_rfl⟩
instance zeroC_4 : ZeroC prog 4 (.bool false) := ⟨by kernel_rfl⟩
instance ul_4 : Ul prog 4 .bool := ⟨by kernel_rfl⟩
instance oneC_5 : OneC prog 5 := ⟨fun w => by kernel_rfl, by kernel_rfl⟩
instance zeroC_5 : ZeroC prog 5 (.int .u8 0) := ⟨by kernel_rfl⟩
instance ul_5 : Ul prog 5 (.int .u8) := ⟨by kernel_rfl⟩
instance oneC_6 : OneC prog 6 := ⟨fun w => by kernel_rfl, by kernel_rfl⟩
instance zeroC_6 : ZeroC prog 6 (.int .u8 0) := ⟨by kernel_rfl⟩
instance ul_6 : Ul prog 6 (.int .u8) := ⟨by kernel_rfl⟩
instance aggC_7 : AggC prog 7 4 := ⟨fun w => by kernel_rfl, by kernel_rfl⟩
instance zeroC_7 : ZeroC prog 7 (.agg #[(.int .i64 0), (.int .i64 0), (.bool false), (.int .u8 0)]) := ⟨by kernel_rfl⟩
instance fld_7_0 : FldOff prog 7 0 0 := ⟨fun b o w => by kernel_rfl⟩
instance fld_7_1 : FldOff prog 7 1 1 := ⟨fun b o w => by kernel_rfl⟩
instance fld_7_2 : FldOff prog 7 2 2 := ⟨fun b o w => by kernel_rfl⟩
instance fld_7_3 : FldOff prog 7 3 3 := ⟨fun b o w => by kernel_rfl⟩
instance aggC_8 : AggC prog 8 4 := ⟨fun w => by kernel_rfl, by kernel_rfl⟩
instance zeroC_8 : ZeroC prog 8 (.agg #[(.int .i64 0), (.int .i64 0), (.bool false), (.int .u8 0)]) := ⟨by kernel_rfl⟩
instance fld_8_0 : FldOff prog 8 0 0 := ⟨fun b o w => by kernel_rfl⟩
instance fld_8_1 : FldOff prog 8 1 1 := ⟨fun b o w => by kernel_rfl⟩
instance fld_8_2 : FldOff prog 8 2 2 := ⟨fun b o w => by kernel_rfl⟩
instance fld_8_3 : FldOff prog 8 3 3 := ⟨fun b o w => by kernel_rfl⟩
instance oneC_9 : OneC prog 9 := ⟨fun w => by kernel_rfl, by kernel_rfl⟩
instance zeroC_9 : ZeroC prog 9 (.string ⟨#[]⟩) := ⟨by kernel_rfl⟩
instance ul_9 : Ul prog 9 .string := ⟨by kernel_rfl⟩
instance oneC_10 : OneC prog 10 := ⟨fun w => by kernel_rfl, by kernel_rfl⟩
instance zeroC_10 : ZeroC prog 10 (.string ⟨#[]⟩) := ⟨by kernel_rfl⟩
instance ul_10 : Ul prog 10 .string := ⟨by kernel_rfl⟩
instance oneC_11 : OneC prog 11 := ⟨fun w => by kernel_rfl, by kernel_rfl⟩
instance zeroC_11 : ZeroC prog 11 (.string ⟨#[]⟩) := ⟨by kernel_rfl⟩
instance ul_11 : Ul prog 11 .string := ⟨by kernel_rfl⟩
instance oneC_12 : OneC prog 12 := ⟨fun w => by kernel_rfl, by kernel_rfl⟩
instance zeroC_12 : ZeroC prog 12 (.int .u64 0) := ⟨by kernel_rfl⟩
instance ul_12 : Ul prog 12 (.int .u64) := ⟨by kernel_rfl⟩
instance aggC_13 : AggC prog 13 2 := ⟨fun w => by kernel_rfl, by kernel_rfl⟩
instance zeroC_13 : ZeroC prog 13 (.agg #[(.string ⟨#[]⟩), (.int .u64 0)]) := ⟨by kernel_rfl⟩
instance fld_13_0 : FldOff prog 13 0 0 := ⟨fun b o w => by kernel_rfl⟩
instance fld_13_1 : FldOff prog 13 1 1 := ⟨fun b o w => by kernel_rfl⟩
instance aggC_14 : AggC prog 14 2 := ⟨fun w => by kernel_rfl, by kernel_rfl⟩
instance zeroC_14 : ZeroC prog 14 (.agg #[(.string ⟨#[]⟩), (.int .u64 0)]) := ⟨by kernel_rfl⟩
instance fld_14_0 : FldOff prog 14 0 0 := ⟨fun b o w => by kernel_rfl⟩
instance fld_14_1 : FldOff prog 14 1 1 := ⟨fun b o w => by kernel_rfl⟩
instance oneC_15 : OneC prog 15 := ⟨fun w => by kernel_rfl, by kernel_rfl⟩
instance zeroC_15 : ZeroC prog 15 (.pointer none) := ⟨by kernel_rfl⟩
instance ul_15 : Ul prog 15 (.pointer 163) := ⟨by kernel_rfl⟩
instance oneC_16 : OneC prog 16 := ⟨fun w => by kernel_rfl, by kernel_rfl⟩
instance zeroC_16 : ZeroC prog 16 (.pointer none) := ⟨by kernel_rfl⟩
instance ul_16 : Ul prog 16 (.pointer 166) := ⟨by kernel_rfl⟩
instance oneC_17 : OneC prog 17 := ⟨fun w => by kernel_rfl, by kernel_rfl⟩
instance zeroC_17 : ZeroC prog 17 (.pointer none) := ⟨by kernel_rfl⟩
instance ul_17 : Ul prog 17 (.pointer 173) := ⟨by kernel_rfl⟩
instance aggC_18 : AggC prog 18 1 := ⟨fun w => by kernel_rfl, by kernel_rfl⟩
instance zeroC_18 : ZeroC prog 18 (.agg #[(.pointer none)]) := ⟨by kernel_rfl⟩
instance fld_18_0 : FldOff prog 18 0 0 := ⟨fun b o w => by kernel_rfl⟩
instance aggC_19 : AggC prog 19 1 := ⟨fun w => by kernel_rfl, by kernel_rfl⟩
instance zeroC_19 : ZeroC prog 19 (.agg #[(.pointer none)]) := ⟨by kernel_rfl⟩
instance fld_19_0 : FldOff prog 19 0 0 := ⟨fun b o w => by kernel_rfl⟩
instance oneC_20 : OneC prog 20 := ⟨fun w => by kernel_rfl, by kernel_rfl⟩
instance zeroC_20 : ZeroC prog 20 .nilIface := ⟨by kernel_rfl⟩
instance oneC_21 : OneC prog 21 := ⟨fun w => by kernel_rfl, by kernel_rfl⟩
instance zeroC_21 : ZeroC prog 21 (.int .i32 0) := ⟨by kernel_rfl⟩
instance ul_21 : Ul prog 21 (.int .i32) := ⟨by kernel_rfl⟩
instance oneC_22 : OneC prog 22 := ⟨fun w => by kernel_rfl, by kernel_rfl⟩
instance zeroC_22 : ZeroC prog 22 (.slice none 0 0) := ⟨by kernel_rfl⟩
instance sliceT_22 : SliceT prog 22 30 5 56 (.agg #[(.int .i64 0), (.int .i64 0), (.int .i64 0), (.string ⟨#[]⟩), (.string ⟨#[]⟩)]) := ⟨by kernel_rfl, by kernel_rfl, rfl, by decide⟩
instance ul_22 : Ul prog 22 (.slice 30) := ⟨by kernel_rfl⟩
instance oneC_23 : OneC prog 23 := ⟨fun w => by kernel_rfl, by kernel_rfl⟩
instance zeroC_23 : ZeroC prog 23 (.pointer none) := ⟨by kernel_rfl⟩
instance ul_23 : Ul prog 23 (.pointer 59) := ⟨by kernel_rfl⟩
instance oneC_25 : OneC prog 25 := ⟨fun w => by kernel_rfl, by kernel_rfl⟩
instance zeroC_25 : ZeroC prog 25 (.pointer none) := ⟨by kernel_rfl⟩
instance ul_25 : Ul prog 25 (.pointer 61) := ⟨by kernel_rfl⟩
instance aggC_29 : AggC prog 29 5 := ⟨fun w => by kernel_rfl, by kernel_rfl⟩
instance zeroC_29 : ZeroC prog 29 (.agg #[(.int .i64 0), (.int .i64 0), (.int .i64 0), (.string ⟨#[]⟩), (.string ⟨#[]⟩)]) := ⟨by kernel_rfl⟩
instance fld_29_0 : FldOff prog 29 0 0 := ⟨fun b o w => by kernel_rfl⟩
instance fld_29_1 : FldOff prog 29 1 1 := ⟨fun b o w => by kernel_rfl⟩
instance fld_29_2 : FldOff prog 29 2 2 := ⟨fun b o w => by kernel_rfl⟩
instance fld_29_3 : FldOff prog 29 3 3 := ⟨fun b o w => by kernel_rfl⟩
instance fld_29_4 : FldOff prog 29 4 4 := ⟨fun b o w => by kernel_rfl⟩
instance aggC_30 : AggC prog 30 5 := ⟨fun w => by kernel_rfl, by kernel_rfl⟩
instance zeroC_30 : ZeroC prog 30 (.agg #[(.int .i64 0), (.int .i64 0), (.int .i64 0), (.string ⟨#[]⟩), (.string ⟨#[]⟩)]) := ⟨by kernel_rfl⟩
instance fld_30_0 : FldOff prog 30 0 0 := ⟨fun b o w => by kernel_rfl⟩
instance fld_30_1 : FldOff prog 30 1 1 := ⟨fun b o w => by kernel_rfl⟩
instance fld_30_2 : FldOff prog 30 2 2 := ⟨fun b o w => by kernel_rfl⟩
instance fld_30_3 : FldOff prog 30 3 3 := ⟨fun b o w => by kernel_rfl⟩
instance fld_30_4 : FldOff prog 30 4 4 := ⟨fun b o w => by kernel_rfl⟩
instance oneC_31 : OneC prog 31 := ⟨fun w => by kernel_rfl, by kernel_rfl⟩
instance zeroC_31 : ZeroC prog 31 (.slice none 0 0) := ⟨by kernel_rfl⟩
instance sliceT_31 : SliceT prog 31 34 4 48 (.agg #[(.int .i64 0), (.int .i64 0), (.string ⟨#[]⟩), (.string ⟨#[]⟩)]) := ⟨by kernel_rfl, by kernel_rfl, rfl, by decide⟩
instance ul_31 : Ul prog 31 (.slice 34) := ⟨by kernel_rfl⟩
instance aggC_33 : AggC prog 33 4 := ⟨fun w => by kernel_rfl, by kernel_rfl⟩
instance zeroC_33 : ZeroC prog 33 (.agg #[(.int .i64 0), (.int .i64 0), (.string ⟨#[]⟩), (.string ⟨#[]⟩)]) := ⟨by kernel_rfl⟩
instance fld_33_0 : FldOff prog 33 0 0 := ⟨fun b o w => by kernel_rfl⟩
instance fld_33_1 : FldOff prog 33 1 1 := ⟨fun b o w => by kernel_rfl⟩
instance fld_33_2 : FldOff prog 33 2 2 := ⟨fun b o w => by kernel_rfl⟩
instance fld_33_3 : FldOff prog 33 3 3 := ⟨fun b o w => by kernel_rfl⟩
instance aggC_34 : AggC prog 34 4 := ⟨fun w => by kernel_rfl, by kernel_rfl⟩
instance zeroC_34 : ZeroC prog 34 (.agg #[(.int .i64 0), (.int .i64 0), (.string ⟨#[]⟩), (.string ⟨#[]⟩)]) := ⟨by kernel_rfl⟩
instance fld_34_0 : FldOff prog 34 0 0 := ⟨fun b o w => by kernel_rfl⟩
instance fld_34_1 : FldOff prog 34 1 1 := ⟨fun b o w => by kernel_rfl⟩
instance fld_34_2 : FldOff prog 34 2 2 := ⟨fun b o w => by kernel_rfl⟩
instance fld_34_3 : FldOff prog 34 3 3 := ⟨fun b o w => by kernel_rfl⟩
instance aggC_35 : AggC prog 35 32 := ⟨fun w => by kernel_rfl, by kernel_rfl⟩
instance zeroC_35 : ZeroC prog 35 (.agg #[(.int .u8 0), (.int .u8 0), (.int .u8 0), (.int .u8 0), (.int .u8 0), (.int .u8 0), (.int .u8 0), (.int .u8 0), (.int .u8 0), (.int .u8 0), (.int .u8 0), (.int .u8 0), (.int .u8 0), (.int .u8 0), (.int .u8 0), (.int .u8 0), (.int .u8 0), (.int .u8 0), (.int .u8 0), (.int .u8 0), (.int .u8 0), (.int .u8 0), (.int .u8 0), (.int .u8 0), (.int .u8 0), (.int .u8 0), (.int .u8 0), (.int .u8 0), (.int .u8 0), (.int .u8 0), (.int .u8 0), (.int .u8 0)]) := ⟨by kernel_rfl⟩
instance ul_35 : Ul prog 35 (.array 32 5) := ⟨by kernel_rfl⟩
instance aggC_36 : AggC prog 36 32 := ⟨fun w => by kernel_rfl, by kernel_rfl⟩
instance zeroC_36 : ZeroC prog 36 (.agg #[(.int .u8 0), (.int .u8 0), (.int .u8 0), (.int .u8 0), (.int .u8 0), (.int .u8 0), (.int .u8 0), (.int .u8 0), (.int .u8 0), (.int .u8 0), (.int .u8 0), (.int .u8 0), (.int .u8 0), (.int .u8 0), (.int .u8 0), (.int .u8 0), (.int .u8 0), (.int .u8 0), (.int .u8 0), (.int .u8 0), (.int .u8 0), (.int .u8 0), (.int .u8 0), (.int .u8 0), (.int .u8 0), (.int .u8 0), (.int .u8 0), (.int .u8 0), (.int .u8 0), (.int .u8 0), (.int .u8 0), (.int .u8 0)]) := ⟨by kernel_rfl⟩
instance ul_36 : Ul prog 36 (.array 32 5) := ⟨by kernel_rfl⟩
instance oneC_41 : OneC prog 41 := ⟨fun w => by kernel_rfl, by kernel_rfl⟩
instance zeroC_41 : ZeroC prog 41 (.int .i64 0) := ⟨by kernel_rfl⟩
instance ul_41 : Ul prog 41 (.int .i64) := ⟨by kernel_rfl⟩
instance oneC_51 : OneC prog 51 := ⟨fun w => by kernel_rfl, by kernel_rfl⟩
instance zeroC_51 : ZeroC prog 51 (.slice none 0 0) := ⟨by kernel_rfl⟩
instance sliceT_51 : SliceT prog 51 71 2 40 (.agg #[(.string ⟨#[]⟩), (.slice none 0 0)]) := ⟨by kernel_rfl, by kernel_rfl, rfl, by decide⟩
instance ul_51 : Ul prog 51 (.slice 71) := ⟨by kernel_rfl⟩
instance aggC_56 : AggC prog 56 33 := ⟨fun w => by kernel_rfl, by kernel_rfl⟩
instance zeroC_56 : ZeroC prog 56 (.agg #[(.int .i64 0), (.int .u8 0), (.int .u8 0), (.int .u8 0), (.int .u8 0), (.int .u8 0), (.int .u8 0), (.int .u8 0), (.int .u8 0), (.int .u8 0), (.int .u8 0), (.int .u8 0), (.int .u8 0), (.int .u8 0), (.int .u8 0), (.int .u8 0), (.int .u8 0), (.int .u8 0), (.int .u8 0), (.int .u8 0), (.int .u8 0), (.int .u8 0), (.int .u8 0), (.int .u8 0), (.int .u8 0), (.int .u8 0), (.int .u8 0), (.int .u8 0), (.int .u8 0), (.int .u8 0), (.int .u8 0), (.int .u8 0), (.int .u8 0)]) := ⟨by kernel_rfl⟩
instance fld_56_0 : FldOff prog 56 0 0 := ⟨fun b o w => by kernel_rfl⟩
instance fld_56_1 : FldOff prog 56 1 1 := ⟨fun b o w => by kernel_rfl⟩
instance aggC_57 : AggC prog 57 33 := ⟨fun w => by kernel_rfl, by kernel_rfl⟩
instance zeroC_57 : ZeroC prog 57 (.agg #[(.int .i64 0), (.int .u8 0), (.int .u8 0), (.int .u8 0), (.int .u8 0), (.int .u8 0), (.int .u8 0), (.int .u8 0), (.int .u8 0), (.int .u8 0), (.int .u8 0), (.int .u8 0), (.int .u8 0), (.int .u8 0), (.int .u8 0), (.int .u8 0), (.int .u8 0), (.int .u8 0), (.int .u8 0), (.int .u8 0), (.int .u8 0), (.int .u8 0), (.int .u8 0), (.int .u8 0), (.int .u8 0), (.int .u8 0), (.int .u8 0), (.int .u8 0), (.int .u8 0), (.int .u8 0), (.int .u8 0), (.int .u8 0), (.int .u8 0)]) := ⟨by kernel_rfl⟩
instance fld_57_0 : FldOff prog 57 0 0 := ⟨fun b o w => by kernel_rfl⟩
instance fld_57_1 : FldOff prog 57 1 1 := ⟨fun b o w => by kernel_rfl⟩
instance aggC_58 : AggC prog 58 100 := ⟨fun w => by kernel_rfl, by kernel_rfl⟩
instance zeroC_58 : ZeroC prog 58 (.agg #[(.int .i64 0), (.int .u8 0), (.int .u8 0), (.int .u8 0), (.int .u8 0), (.int .u8 0), (.int .u8 0), (.int .u8 0), (.int .u8 0), (.int .u8 0), (.int .u8 0), (.int .u8 0), (.int .u8 0), (.int .u8 0), (.int .u8 0), (.int .u8 0), (.int .u8 0), (.int .u8 0), (.int .u8 0), (.int .u8 0), (.int .u8 0), (.int .u8 0), (.int .u8 0), (.int .u8 0), (.int .u8 0), (.int .u8 0), (.int .u8 0), (.int .u8 0), (.int .u8 0), (.int .u8 0), (.int .u8 0), (.int .u8 0), (.int .u8 0), (.int .i64 0), (.int .u8 0), (.int .u8 0), (.int .u8 0), (.int .u8 0), (.int .u8 0), (.int .u8 0), (.int .u8 0), (.int .u8 0), (.int .u8 0), (.int .u8 0), (.int .u8 0), (.int .u8 0), (.int .u8 0), (.int .u8 0), (.int .u8 0), (.int .u8 0), (.int .u8 0), (.int .u8 0), (.int .u8 0), (.int .u8 0), (.int .u8 0), (.int .u8 0), (.int .u8 0), (.int .u8 0), (.int .u8 0), (.int .u8 0), (.int .u8 0), (.int .u8 0), (.int .u8 0), (.int .u8 0), (.int .u8 0), (.int .u8 0), (.int .u8 0), (.int .u8 0), (.int .u8 0), (.int .u8 0), (.int .u8 0), (.int .u8 0), (.int .u8 0), (.int .u8 0), (.int .u8 0), (.int .u8 0), (.int .u8 0), (.int .u8 0), (.int .u8 0), (.int .u8 0), (.int .u8 0), (.int .u8 0), (.int .u8 0), (.int .u8 0), (.int .u8 0), (.int .u8 0), (.int .u8 0), (.int .u8 0), (.int .u8 0), (.int .u8 0), (.int .u8 0), (.int .u8 0), (.int .u8 0), (.int .u8 0), (.int .u8 0), (.int .u8 0), (.int .u8 0), (.int .u8 0), (.int .i64 0), (.slice none 0 0)]) := ⟨by kernel_rfl⟩
instance fld_58_0 : FldOff prog 58 0 0 := ⟨fun b o w => by kernel_rfl⟩
instance fld_58_1 : FldOff prog 58 1 33 := ⟨fun b o w => by kernel_rfl⟩
instance fld_58_2 : FldOff prog 58 2 66 := ⟨fun b o w => by kernel_rfl⟩
instance fld_58_3 : FldOff prog 58 3 98 := ⟨fun b o w => by kernel_rfl⟩
instance fld_58_4 : FldOff prog 58 4 99 := ⟨fun b o w => by kernel_rfl⟩
instance aggC_59 : AggC prog 59 100 := ⟨fun w => by kernel_rfl, by kernel_rfl⟩
instance zeroC_59 : ZeroC prog 59 (.agg #[(.int .i64 0), (.int .u8 0), (.int .u8 0), (.int .u8 0), (.int .u8 0), (.int .u8 0), (.int .u8 0), (.int .u8 0), (.int .u8 0), (.int .u8 0), (.int .u8 0), (.int .u8 0), (.int .u8 0), (.int .u8 0), (.int .u8 0), (.int .u8 0), (.int .u8 0), (.int .u8 0), (.int .u8 0), (.int .u8 0), (.int .u8 0), (.int .u8 0), (.int .u8 0), (.int .u8 0), (.int .u8 0), (.int .u8 0), (.int .u8 0), (.int .u8 0), (.int .u8 0), (.int .u8 0), (.int .u8 0), (.int .u8 0), (.int .u8 0), (.int .i64 0), (.int .u8 0), (.int .u8 0), (.int .u8 0), (.int .u8 0), (.int .u8 0), (.int .u8 0), (.int .u8 0), (.int .u8 0), (.int .u8 0), (.int .u8 0), (.int .u8 0), (.int .u8 0), (.int .u8 0), (.int .u8 0), (.int .u8 0), (.int .u8 0), (.int .u8 0), (.int .u8 0), (.int .u8 0), (.int .u8 0), (.int .u8 0), (.int .u8 0), (.int .u8 0), (.int .u8 0), (.int .u8 0), (.int .u8 0), (.int .u8 0), (.int .u8 0), (.int .u8 0), (.int .u8 0), (.int .u8 0), (.int .u8 0), (.int .u8 0), (.int .u8 0), (.int .u8 0), (.int .u8 0), (.int .u8 0), (.int .u8 0), (.int .u8 0), (.int .u8 0), (.int .u8 0), (.int .u8 0), (.int .u8 0), (.int .u8 0), (.int .u8 0), (.int .u8 0), (.int .u8 0), (.int .u8 0), (.int .u8 0), (.int .u8 0), (.int .u8 0), (.int .u8 0), (.int .u8 0), (.int .u8 0), (.int .u8 0), (.int .u8 0), (.int .u8 0), (.int .u8 0), (.int .u8 0), (.int .u8 0), (.int .u8 0), (.int .u8 0), (.int .u8 0), (.int .u8 0), (.int .i64 0), (.slice none 0 0)]) := ⟨by kernel_rfl⟩
instance fld_59_0 : FldOff prog 59 0 0 := ⟨fun b o w => by kernel_rfl⟩
instance fld_59_1 : FldOff prog 59 1 33 := ⟨fun b o w => by kernel_rfl⟩
instance fld_59_2 : FldOff prog 59 2 66 := ⟨fun b o w => by kernel_rfl⟩
instance fld_59_3 : FldOff prog 59 3 98 := ⟨fun b o w => by kernel_rfl⟩
instance fld_59_4 : FldOff prog 59 4 99 := ⟨fun b o w => by kernel_rfl⟩
instance aggC_60 : AggC prog 60 100 := ⟨fun w => by kernel_rfl, by kernel_rfl⟩
instance zeroC_60 : ZeroC prog 60 (.agg #[(.int .i64 0), (.int .i64 0), (.int .i64 0), (.int .u8 0), (.int .u8 0), (.int .u8 0), (.int .u8 0), (.int .u8 0), (.int .u8 0), (.int .u8 0), (.int .u8 0), (.int .u8 0), (.int .u8 0), (.int .u8 0), (.int .u8 0), (.int .u8 0), (.int .u8 0), (.int .u8 0), (.int .u8 0), (.int .u8 0), (.int .u8 0), (.int .u8 0), (.int .u8 0), (.int .u8 0), (.int .u8 0), (.int .u8 0), (.int .u8 0), (.int .u8 0), (.int .u8 0), (.int .u8 0), (.int .u8 0), (.int .u8 0), (.int .u8 0), (.int .u8 0), (.int .u8 0), (.int .u8 0), (.int .u8 0), (.int .u8 0), (.int .u8 0), (.int .u8 0), (.int .u8 0), (.int .u8 0), (.int .u8 0), (.int .u8 0), (.int .u8 0), (.int .u8 0), (.int .u8 0), (.int .u8 0), (.int .u8 0), (.int .u8 0), (.int .u8 0), (.int .u8 0), (.int .u8 0), (.int .u8 0), (.int .u8 0), (.int .u8 0), (.int .u8 0), (.int .u8 0), (.int .u8 0), (.int .u8 0), (.int .u8 0), (.int .u8 0), (.int .u8 0), (.int .u8 0), (.int .u8 0), (.int .u8 0), (.int .u8 0), (.int .u8 0), (.int .u8 0), (.int .u8 0), (.int .u8 0), (.int .u8 0), (.int .u8 0), (.int .u8 0), (.int .u8 0), (.int .u8 0), (.int .u8 0), (.int .u8 0), (.int .u8 0), (.int .u8 0), (.int .u8 0), (.int .u8 0), (.int .u8 0), (.int .u8 0), (.int .u8 0), (.int .u8 0), (.int .u8 0), (.int .u8 0), (.int .u8 0), (.int .u8 0), (.int .u8 0), (.int .u8 0), (.int .u8 0), (.int .u8 0), (.int .u8 0), (.int .u8 0), (.int .u8 0), (.int .u8 0), (.int .u8 0), (.slice none 0 0)]) := ⟨by kernel_rfl⟩
instance fld_60_0 : FldOff prog 60 0 0 := ⟨fun b o w => by kernel_rfl⟩
instance fld_60_1 : FldOff prog 60 1 1 := ⟨fun b o w => by kernel_rfl⟩
instance fld_60_2 : FldOff prog 60 2 2 := ⟨fun b o w => by kernel_rfl⟩
instance fld_60_3 : FldOff prog 60 3 3 := ⟨fun b o w => by kernel_rfl⟩
instance fld_60_4 : FldOff prog 60 4 35 := ⟨fun b o w => by kernel_rfl⟩
instance fld_60_5 : FldOff prog 60 5 67 := ⟨fun b o w => by kernel_rfl⟩
instance fld_60_6 : FldOff prog 60 6 99 := ⟨fun b o w => by kernel_rfl⟩
instance aggC_61 : AggC prog 61 100 := ⟨fun w => by kernel_rfl, by kernel_rfl⟩
instance zeroC_61 : ZeroC prog 61 (.agg #[(.int .i64 0), (.int .i64 0), (.int .i64 0), (.int .u8 0), (.int .u8 0), (.int .u8 0), (.int .u8 0), (.int .u8 0), (.int .u8 0), (.int .u8 0), (.int .u8 0), (.int .u8 0), (.int .u8 0), (.int .u8 0), (.int .u8 0), (.int .u8 0), (.int .u8 0), (.int .u8 0), (.int .u8 0), (.int .u8 0), (.int .u8 0), (.int .u8 0), (.int .u8 0), (.int .u8 0), (.int .u8 0), (.int .u8 0), (.int .u8 0), (.int .u8 0), (.int .u8 0), (.int .u8 0), (.int .u8 0), (.int .u8 0), (.int .u8 0), (.int .u8 0), (.int .u8 0), (.int .u8 0), (.int .u8 0), (.int .u8 0), (.int .u8 0), (.int .u8 0), (.int .u8 0), (.int .u8 0), (.int .u8 0), (.int .u8 0), (.int .u8 0), (.int .u8 0), (.int .u8 0), (.int .u8 0), (.int .u8 0), (.int .u8 0), (.int .u8 0), (.int .u8 0), (.int .u8 0), (.int .u8 0), (.int .u8 0), (.int .u8 0), (.int .u8 0), (.int .u8 0), (.int .u8 0), (.int .u8 0), (.int .u8 0), (.int .u8 0), (.int .u8 0), (.int .u8 0), (.int .u8 0), (.int .u8 0), (.int .u8 0), (.int .u8 0), (.int .u8 0), (.int .u8 0), (.int .u8 0), (.int .u8 0), (.int .u8 0), (.int .u8 0), (.int .u8 0), (.int .u8 0), (.int .u8 0), (.int .u8 0), (.int .u8 0), (.int .u8 0), (.int .u8 0), (.int .u8 0), (.int .u8 0), (.int .u8 0), (.int .u8 0), (.int .u8 0), (.int .u8 0), (.int .u8 0), (.int .u8 0), (.int .u8 0), (.int .u8 0), (.int .u8 0), (.int .u8 0), (.int .u8 0), (.int .u8 0), (.int .u8 0), (.int .u8 0), (.int .u8 0), (.int .u8 0), (.slice none 0 0)]) := ⟨by kernel_rfl⟩
instance fld_61_0 : FldOff prog 61 0 0 := ⟨fun b o w => by kernel_rfl⟩
instance fld_61_1 : FldOff prog 61 1 1 := ⟨fun b o w => by kernel_rfl⟩
instance fld_61_2 : FldOff prog 61 2 2 := ⟨fun b o w => by kernel_rfl⟩
instance fld_61_3 : FldOff prog 61 3 3 := ⟨fun b o w => by kernel_rfl⟩
instance fld_61_4 : FldOff prog 61 4 35 := ⟨fun b o w => by kernel_rfl⟩
instance fld_61_5 : FldOff prog 61 5 67 := ⟨fun b o w => by kernel_rfl⟩
instance fld_61_6 : FldOff prog 61 6 99 := ⟨fun b o w => by kernel_rfl⟩
instance oneC_69 : OneC prog 69 := ⟨fun w => by kernel_rfl, by kernel_rfl⟩
instance zeroC_69 : ZeroC prog 69 (.slice none 0 0) := ⟨by kernel_rfl⟩
instance sliceT_69 : SliceT prog 69 9 1 16 (.string ⟨#[]⟩) := ⟨by kernel_rfl, by kernel_rfl, rfl, by decide⟩
instance ul_69 : Ul prog 69 (.slice 9) := ⟨by kernel_rfl⟩
instance aggC_70 : AggC prog 70 2 := ⟨fun w => by kernel_rfl, by kernel_rfl⟩
instance zeroC_70 : ZeroC prog 70 (.agg #[(.string ⟨#[]⟩), (.slice none 0 0)]) := ⟨by kernel_rfl⟩
instance fld_70_0 : FldOff prog 70 0 0 := ⟨fun b o w => by kernel_rfl⟩
instance fld_70_1 : FldOff prog 70 1 1 := ⟨fun b o w => by kernel_rfl⟩
instance aggC_71 : AggC prog 71 2 := ⟨fun w => by kernel_rfl, by kernel_rfl⟩
instance zeroC_71 : ZeroC prog 71 (.agg #[(.string ⟨#[]⟩), (.slice none 0 0)]) := ⟨by kernel_rfl⟩
instance fld_71_0 : FldOff prog 71 0 0 := ⟨fun b o w => by kernel_rfl⟩
instance fld_71_1 : FldOff prog 71 1 1 := ⟨fun b o w => by kernel_rfl⟩
instance oneC_72 : OneC prog 72 := ⟨fun w => by kernel_rfl, by kernel_rfl⟩
instance zeroC_72 : ZeroC prog 72 (.slice none 0 0) := ⟨by kernel_rfl⟩
instance sliceT_72 : SliceT prog 72 5 1 1 (.int .u8 0) := ⟨by kernel_rfl, by kernel_rfl, rfl, by decide⟩
instance ul_72 : Ul prog 72 (.slice 5) := ⟨by kernel_rfl⟩
instance oneC_74 : OneC prog 74 := ⟨fun w => by kernel_rfl, by kernel_rfl⟩
instance zeroC_74 : ZeroC prog 74 (.pointer none) := ⟨by kernel_rfl⟩
instance ul_74 : Ul prog 74 (.pointer 3) := ⟨by kernel_rfl⟩
instance oneC_76 : OneC prog 76 := ⟨fun w => by kernel_rfl, by kernel_rfl⟩
instance zeroC_76 : ZeroC prog 76 (.pointer none) := ⟨by kernel_rfl⟩
instance ul_76 : Ul prog 76 (.pointer 36) := ⟨by kernel_rfl⟩
instance oneC_88 : OneC prog 88 := ⟨fun w => by kernel_rfl, by kernel_rfl⟩
instance zeroC_88 : ZeroC prog 88 (.slice none 0 0) := ⟨by kernel_rfl⟩
instance sliceT_88 : SliceT prog 88 74 1 8 (.pointer none) := ⟨by kernel_rfl, by kernel_rfl, rfl, by decide⟩
instance ul_88 : Ul prog 88 (.slice 74) := ⟨by kernel_rfl⟩
instance oneC_96 : OneC prog 96 := ⟨fun w => by kernel_rfl, by kernel_rfl⟩
instance zeroC_96 : ZeroC prog 96 (.int .u64 0) := ⟨by kernel_rfl⟩
instance ul_96 : Ul prog 96 (.int .u64) := ⟨by kernel_rfl⟩
instance oneC_97 : OneC prog 97 := ⟨fun w => by kernel_rfl, by kernel_rfl⟩
instance zeroC_97 : ZeroC prog 97 .nilIface := ⟨by kernel_rfl⟩
instance oneC_98 : OneC prog 98 := ⟨fun w => by kernel_rfl, by kernel_rfl⟩
instance zeroC_98 : ZeroC prog 98 .nilIface := ⟨by kernel_rfl⟩
instance oneC_101 : OneC prog 101 := ⟨fun w => by kernel_rfl, by kernel_rfl⟩
instance zeroC_101 : ZeroC prog 101 (.int .u32 0) := ⟨by kernel_rfl⟩
instance ul_101 : Ul prog 101 (.int .u32) := ⟨by kernel_rfl⟩
instance oneC_102 : OneC prog 102 := ⟨fun w => by kernel_rfl, by kernel_rfl⟩
instance zeroC_102 : ZeroC prog 102 (.slice none 0 0) := ⟨by kernel_rfl⟩
instance sliceT_102 : SliceT prog 102 101 1 4 (.int .u32 0) := ⟨by kernel_rfl, by kernel_rfl, rfl, by decide⟩
instance ul_102 : Ul prog 102 (.slice 101) := ⟨by kernel_rfl⟩
instance oneC_104 : OneC prog 104 := ⟨fun w => by kernel_rfl, by kernel_rfl⟩
instance zeroC_104 : ZeroC prog 104 (.int .u64 0) := ⟨by kernel_rfl⟩
instance ul_104 : Ul prog 104 (.int .u64) := ⟨by kernel_rfl⟩
instance aggC_106 : AggC prog 106 8 := ⟨fun w => by kernel_rfl, by kernel_rfl⟩
instance zeroC_106 : ZeroC prog 106 (.agg #[(.int .u32 0), (.int .u32 0), (.int .u32 0), (.int .u32 0), (.int .u32 0), (.int .u32 0), (.int .u32 0), (.int .u32 0)]) := ⟨by kernel_rfl⟩
instance ul_106 : Ul prog 106 (.array 8 101) := ⟨by kernel_rfl⟩
instance aggC_107 : AggC prog 107 8 := ⟨fun w => by kernel_rfl, by kernel_rfl⟩
instance zeroC_107 : ZeroC prog 107 (.agg #[(.int .u32 0), (.int .u32 0), (.int .u32 0), (.int .u32 0), (.int .u32 0), (.int .u32 0), (.int .u32 0), (.int .u32 0)]) := ⟨by kernel_rfl⟩
instance ul_107 : Ul prog 107 (.array 8 101) := ⟨by kernel_rfl⟩
instance oneC_108 : OneC prog 108 := ⟨fun w => by kernel_rfl, by kernel_rfl⟩
instance zeroC_108 : ZeroC prog 108 (.pointer none) := ⟨by kernel_rfl⟩
instance ul_108 : Ul prog 108 (.pointer 121) := ⟨by kernel_rfl⟩
instance aggC_114 : AggC prog 114 256 := ⟨fun w => by kernel_rfl, by kernel_rfl⟩
instance zeroC_114 : ZeroC prog 114 (.agg #[(.bool false), (.bool false), (.bool false), (.bool false), (.bool false), (.bool false), (.bool false), (.bool false), (.bool false), (.bool false), (.bool false), (.bool false), (.bool false), (.bool false), (.bool false), (.bool false), (.bool false), (.bool false), (.bool false), (.bool false), (.bool false), (.bool false), (.bool false), (.bool false), (.bool false), (.bool false), (.bool false), (.bool false), (.bool false), (.bool false), (.bool false), (.bool false), (.bool false), (.bool false), (.bool false), (.bool false), (.bool false), (.bool false), (.bool false), (.bool false), (.bool false), (.bool false), (.bool false), (.bool false), (.bool false), (.bool false), (.bool false), (.bool false), (.bool false), (.bool false), (.bool false), (.bool false), (.bool false), (.bool false), (.bool false), (.bool false), (.bool false), (.bool false), (.bool false), (.bool false), (.bool false), (.bool false), (.bool false), (.bool false), (.bool false), (.bool false), (.bool false), (.bool false), (.bool false), (.bool false), (.bool false), (.bool false), (.bool false), (.bool false), (.bool false), (.bool false), (.bool false), (.bool false), (.bool false), (.bool false), (.bool false), (.bool false), (.bool false), (.bool false), (.bool false), (.bool false), (.bool false), (.bool false), (.bool false), (.bool false), (.bool false), (.bool false), (.bool false), (.bool false), (.bool false), (.bool false), (.bool false), (.bool false), (.bool false), (.bool false), (.bool false), (.bool false), (.bool false), (.bool false), (.bool false), (.bool false), (.bool false), (.bool false), (.bool false), (.bool false), (.bool false), (.bool false), (.bool false), (.bool false), (.bool false), (.bool false), (.bool false), (.bool false), (.bool false), (.bool false), (.bool false), (.bool false), (.bool false), (.bool false), (.bool false), (.bool false), (.bool false), (.bool false), (.bool false), (.bool false), (.bool false), (.bool false), (.bool false), (.bool false), (.bool false), (.bool false), (.bool false), (.bool false), (.bool false), (.bool false), (.bool false), (.bool false), (.bool false), (.bool false), (.bool false), (.bool false), (.bool false), (.bool false), (.bool false), (.bool false), (.bool false), (.bool false), (.bool false), (.bool false), (.bool false), (.bool false), (.bool false), (.bool false), (.bool false), (.bool false), (.bool false), (.bool false), (.bool false), (.bool false), (.bool false), (.bool false), (.bool false), (.bool false), (.bool false), (.bool false), (.bool false), (.bool false), (.bool false), (.bool false), (.bool false), (.bool false), (.bool false), (.bool false), (.bool false), (.bool false), (.bool false), (.bool false), (.bool false), (.bool false), (.bool false), (.bool false), (.bool false), (.bool false), (.bool false), (.bool false), (.bool false), (.bool false), (.bool false), (.bool false), (.bool false), (.bool false), (.bool false), (.bool false), (.bool false), (.bool false), (.bool false), (.bool false), (.bool false), (.bool false), (.bool false), (.bool false), (.bool false), (.bool false), (.bool false), (.bool false), (.bool false), (.bool false), (.bool false), (.bool false), (.bool false), (.bool false), (.bool false), (.bool false), (.bool false), (.bool false), (.bool false), (.bool false), (.bool false), (.bool false), (.bool false), (.bool false), (.bool false), (.bool false), (.bool false), (.bool false), (.bool false), (.bool false), (.bool false), (.bool false), (.bool false), (.bool false), (.bool false), (.bool false), (.bool false), (.bool false), (.bool false), (.bool false), (.bool false), (.bool false), (.bool false), (.bool false), (.bool false), (.bool false), (.bool false), (.bool false), (.bool false), (.bool false), (.bool false), (.bool false), (.bool false), (.bool false)]) := ⟨by kernel_rfl⟩
instance ul_114 : Ul prog 114 (.array 256 4) := ⟨by kernel_rfl⟩
instance aggC_115 : AggC prog 115 256 := ⟨fun w => by kernel_rfl, by kernel_rfl⟩
instance zeroC_115 : ZeroC prog 115 (.agg #[(.bool false), (.bool false), (.bool false), (.bool false), (.bool false), (.bool false), (.bool false), (.bool false), (.bool false), (.bool false), (.bool false), (.bool false), (.bool false), (.bool false), (.bool false), (.bool false), (.bool false), (.bool false), (.bool false), (.bool false), (.bool false), (.bool false), (.bool false), (.bool false), (.bool false), (.bool false), (.bool false), (.bool false), (.bool false), (.bool false), (.bool false), (.bool false), (.bool false), (.bool false), (.bool false), (.bool false), (.bool false), (.bool false), (.bool false), (.bool false), (.bool false), (.bool false), (.bool false), (.bool false), (.bool false), (.bool false), (.bool false), (.bool false), (.bool false), (.bool false), (.bool false), (.bool false), (.bool false), (.bool false), (.bool false), (.bool false), (.bool false), (.bool false), (.bool false), (.bool false), (.bool false), (.bool false), (.bool false), (.bool false), (.bool false), (.bool false), (.bool false), (.bool false), (.bool false), (.bool false), (.bool false), (.bool false), (.bool false), (.bool false), (.bool false), (.bool false), (.bool false), (.bool false), (.bool false), (.bool false), (.bool false), (.bool false), (.bool false), (.bool false), (.bool false), (.bool false), (.bool false), (.bool false), (.bool false), (.bool false), (.bool false), (.bool false), (.bool false), (.bool false), (.bool false), (.bool false), (.bool false), (.bool false), (.bool false), (.bool false), (.bool false), (.bool false), (.bool false), (.bool false), (.bool false), (.bool false), (.bool false), (.bool false), (.bool false), (.bool false), (.bool false), (.bool false), (.bool false), (.bool false), (.bool false), (.bool false), (.bool false), (.bool false), (.bool false), (.bool false), (.bool false), (.bool false), (.bool false), (.bool false), (.bool false), (.bool false), (.bool false), (.bool false), (.bool false), (.bool false), (.bool false), (.bool false), (.bool false), (.bool false), (.bool false), (.bool false), (.bool false), (.bool false), (.bool false), (.bool false), (.bool false), (.bool false), (.bool false), (.bool false), (.bool false), (.bool false), (.bool false), (.bool false), (.bool false), (.bool false), (.bool false), (.bool false), (.bool false), (.bool false), (.bool false), (.bool false), (.bool false), (.bool false), (.bool false), (.bool false), (.bool false), (.bool false), (.bool false), (.bool false), (.bool false), (.bool false), (.bool false), (.bool false), (.bool false), (.bool false), (.bool false), (.bool false), (.bool false), (.bool false), (.bool false), (.bool false), (.bool false), (.bool false), (.bool false), (.bool false), (.bool false), (.bool false), (.bool false), (.bool false), (.bool false), (.bool false), (.bool false), (.bool false), (.bool false), (.bool false), (.bool false), (.bool false), (.bool false), (.bool false), (.bool false), (.bool false), (.bool false), (.bool false), (.bool false), (.bool false), (.bool false), (.bool false), (.bool false), (.bool false), (.bool false), (.bool false), (.bool false), (.bool false), (.bool false), (.bool false), (.bool false), (.bool false), (.bool false), (.bool false), (.bool false), (.bool false), (.bool false), (.bool false), (.bool false), (.bool false), (.bool false), (.bool false), (.bool false), (.bool false), (.bool false), (.bool false), (.bool false), (.bool false), (.bool false), (.bool false), (.bool false), (.bool false), (.bool false), (.bool false), (.bool false), (.bool false), (.bool false), (.bool false), (.bool false), (.bool false), (.bool false), (.bool false), (.bool false), (.bool false), (.bool false), (.bool false), (.bool false), (.bool false), (.bool false), (.bool false), (.bool false), (.bool false), (.bool false), (.bool false), (.bool false), (.bool false)]) := ⟨by kernel_rfl⟩
instance ul_115 : Ul prog 115 (.array 256 4) := ⟨by kernel_rfl⟩
instance oneC_119 : OneC prog 119 := ⟨fun w => by kernel_rfl, by kernel_rfl⟩
instance zeroC_119 : ZeroC prog 119 (.pointer none) := ⟨by kernel_rfl⟩
instance ul_119 : Ul prog 119 (.pointer 115) := ⟨by kernel_rfl⟩
instance aggC_121 : AggC prog 121 64 := ⟨fun w => by kernel_rfl, by kernel_rfl⟩
instance zeroC_121 : ZeroC prog 121 (.agg #[(.int .u32 0), (.int .u32 0), (.int .u32 0), (.int .u32 0), (.int .u32 0), (.int .u32 0), (.int .u32 0), (.int .u32 0), (.int .u32 0), (.int .u32 0), (.int .u32 0), (.int .u32 0), (.int .u32 0), (.int .u32 0), (.int .u32 0), (.int .u32 0), (.int .u32 0), (.int .u32 0), (.int .u32 0), (.int .u32 0), (.int .u32 0), (.int .u32 0), (.int .u32 0), (.int .u32 0), (.int .u32 0), (.int .u32 0), (.int .u32 0), (.int .u32 0), (.int .u32 0), (.int .u32 0), (.int .u32 0), (.int .u32 0), (.int .u32 0), (.int .u32 0), (.int .u32 0), (.int .u32 0), (.int .u32 0), (.int .u32 0), (.int .u32 0), (.int .u32 0), (.int .u32 0), (.int .u32 0), (.int .u32 0), (.int .u32 0), (.int .u32 0), (.int .u32 0), (.int .u32 0), (.int .u32 0), (.int .u32 0), (.int .u32 0), (.int .u32 0), (.int .u32 0), (.int .u32 0), (.int .u32 0), (.int .u32 0), (.int .u32 0), (.int .u32 0), (.int .u32 0), (.int .u32 0), (.int .u32 0), (.int .u32 0), (.int .u32 0), (.int .u32 0), (.int .u32 0)]) := ⟨by kernel_rfl⟩
instance ul_121 : Ul prog 121 (.array 64 101) := ⟨by kernel_rfl⟩
instance aggC_122 : AggC prog 122 24 := ⟨fun w => by kernel_rfl, by kernel_rfl⟩
instance zeroC_122 : ZeroC prog 122 (.agg #[(.int .u8 0), (.int .u8 0), (.int .u8 0), (.int .u8 0), (.int .u8 0), (.int .u8 0), (.int .u8 0), (.int .u8 0), (.int .u8 0), (.int .u8 0), (.int .u8 0), (.int .u8 0), (.int .u8 0), (.int .u8 0), (.int .u8 0), (.int .u8 0), (.int .u8 0), (.int .u8 0), (.int .u8 0), (.int .u8 0), (.int .u8 0), (.int .u8 0), (.int .u8 0), (.int .u8 0)]) := ⟨by kernel_rfl⟩
instance ul_122 : Ul prog 122 (.array 24 5) := ⟨by kernel_rfl⟩
instance oneC_131 : OneC prog 131 := ⟨fun w => by kernel_rfl, by kernel_rfl⟩
instance zeroC_131 : ZeroC prog 131 (.int .i64 0) := ⟨by kernel_rfl⟩
instance ul_131 : Ul prog 131 (.int .i64) := ⟨by kernel_rfl⟩
instance oneC_134 : OneC prog 134 := ⟨fun w => by kernel_rfl, by kernel_rfl⟩
instance zeroC_134 : ZeroC prog 134 (.pointer none) := ⟨by kernel_rfl⟩
instance ul_134 : Ul prog 134 (.pointer 146) := ⟨by kernel_rfl⟩
instance aggC_139 : AggC prog 139 20 := ⟨fun w => by kernel_rfl, by kernel_rfl⟩
instance zeroC_139 : ZeroC prog 139 (.agg #[(.int .u64 0), (.int .u64 0), (.int .u64 0), (.int .u64 0), (.int .u64 0), (.int .u64 0), (.int .u64 0), (.int .u64 0), (.int .u64 0), (.int .u64 0), (.int .u64 0), (.int .u64 0), (.int .u64 0), (.int .u64 0), (.int .u64 0), (.int .u64 0), (.int .u64 0), (.int .u64 0), (.int .u64 0), (.int .u64 0)]) := ⟨by kernel_rfl⟩
instance ul_139 : Ul prog 139 (.array 20 96) := ⟨by kernel_rfl⟩
instance aggC_140 : AggC prog 140 65 := ⟨fun w => by kernel_rfl, by kernel_rfl⟩
instance zeroC_140 : ZeroC prog 140 (.agg #[(.int .u8 0), (.int .u8 0), (.int .u8 0), (.int .u8 0), (.int .u8 0), (.int .u8 0), (.int .u8 0), (.int .u8 0), (.int .u8 0), (.int .u8 0), (.int .u8 0), (.int .u8 0), (.int .u8 0), (.int .u8 0), (.int .u8 0), (.int .u8 0), (.int .u8 0), (.int .u8 0), (.int .u8 0), (.int .u8 0), (.int .u8 0), (.int .u8 0), (.int .u8 0), (.int .u8 0), (.int .u8 0), (.int .u8 0), (.int .u8 0), (.int .u8 0), (.int .u8 0), (.int .u8 0), (.int .u8 0), (.int .u8 0), (.int .u8 0), (.int .u8 0), (.int .u8 0), (.int .u8 0), (.int .u8 0), (.int .u8 0), (.int .u8 0), (.int .u8 0), (.int .u8 0), (.int .u8 0), (.int .u8 0), (.int .u8 0), (.int .u8 0), (.int .u8 0), (.int .u8 0), (.int .u8 0), (.int .u8 0), (.int .u8 0), (.int .u8 0), (.int .u8 0), (.int .u8 0), (.int .u8 0), (.int .u8 0), (.int .u8 0), (.int .u8 0), (.int .u8 0), (.int .u8 0), (.int .u8 0), (.int .u8 0), (.int .u8 0), (.int .u8 0), (.int .u8 0), (.int .u8 0)]) := ⟨by kernel_rfl⟩
instance ul_140 : Ul prog 140 (.array 65 5) := ⟨by kernel_rfl⟩
instance aggC_145 : AggC prog 145 3 := ⟨fun w => by kernel_rfl, by kernel_rfl⟩
instance zeroC_145 : ZeroC prog 145 (.agg #[(.string ⟨#[]⟩), (.string ⟨#[]⟩), .nilIface]) := ⟨by kernel_rfl⟩
instance fld_145_0 : FldOff prog 145 0 0 := ⟨fun b o w => by kernel_rfl⟩
instance fld_145_1 : FldOff prog 145 1 1 := ⟨fun b o w => by kernel_rfl⟩
instance fld_145_2 : FldOff prog 145 2 2 := ⟨fun b o w => by kernel_rfl⟩
instance aggC_146 : AggC prog 146 3 := ⟨fun w => by kernel_rfl, by kernel_rfl⟩
instance zeroC_146 : ZeroC prog 146 (.agg #[(.string ⟨#[]⟩), (.string ⟨#[]⟩), .nilIface]) := ⟨by kernel_rfl⟩
instance fld_146_0 : FldOff prog 146 0 0 := ⟨fun b o w => by kernel_rfl⟩
instance fld_146_1 : FldOff prog 146 1 1 := ⟨fun b o w => by kernel_rfl⟩
instance fld_146_2 : FldOff prog 146 2 2 := ⟨fun b o w => by kernel_rfl⟩
instance aggC_149 : AggC prog 149 256 := ⟨fun w => by kernel_rfl, by kernel_rfl⟩
instance zeroC_149 : ZeroC prog 149 (.agg #[(.int .u8 0), (.int .u8 0), (.int .u8 0), (.int .u8 0), (.int .u8 0), (.int .u8 0), (.int .u8 0), (.int .u8 0), (.int .u8 0), (.int .u8 0), (.int .u8 0), (.int .u8 0), (.int .u8 0), (.int .u8 0), (.int .u8 0), (.int .u8 0), (.int .u8 0), (.int .u8 0), (.int .u8 0), (.int .u8 0), (.int .u8 0), (.int .u8 0), (.int .u8 0), (.int .u8 0), (.int .u8 0), (.int .u8 0), (.int .u8 0), (.int .u8 0), (.int .u8 0), (.int .u8 0), (.int .u8 0), (.int .u8 0), (.int .u8 0), (.int .u8 0), (.int .u8 0), (.int .u8 0), (.int .u8 0), (.int .u8 0), (.int .u8 0), (.int .u8 0), (.int .u8 0), (.int .u8 0), (.int .u8 0), (.int .u8 0), (.int .u8 0), (.int .u8 0), (.int .u8 0), (.int .u8 0), (.int .u8 0), (.int .u8 0), (.int .u8 0), (.int .u8 0), (.int .u8 0), (.int .u8 0), (.int .u8 0), (.int .u8 0), (.int .u8 0), (.int .u8 0), (.int .u8 0), (.int .u8 0), (.int .u8 0), (.int .u8 0), (.int .u8 0), (.int .u8 0), (.int .u8 0), (.int .u8 0), (.int .u8 0), (.int .u8 0), (.int .u8 0), (.int .u8 0), (.int .u8 0), (.int .u8 0), (.int .u8 0), (.int .u8 0), (.int .u8 0), (.int .u8 0), (.int .u8 0), (.int .u8 0), (.int .u8 0), (.int .u8 0), (.int .u8 0), (.int .u8 0), (.int .u8 0), (.int .u8 0), (.int .u8 0), (.int .u8 0), (.int .u8 0), (.int .u8 0), (.int .u8 0), (.int .u8 0), (.int .u8 0), (.int .u8 0), (.int .u8 0), (.int .u8 0), (.int .u8 0), (.int .u8 0), (.int .u8 0), (.int .u8 0), (.int .u8 0), (.int .u8 0), (.int .u8 0), (.int .u8 0), (.int .u8 0), (.int .u8 0), (.int .u8 0), (.int .u8 0), (.int .u8 0), (.int .u8 0), (.int .u8 0), (.int .u8 0), (.int .u8 0), (.int .u8 0), (.int .u8 0), (.int .u8 0), (.int .u8 0), (.int .u8 0), (.int .u8 0), (.int .u8 0), (.int .u8 0), (.int .u8 0), (.int .u8 0), (.int .u8 0), (.int .u8 0), (.int .u8 0), (.int .u8 0), (.int .u8 0), (.int .u8 0), (.int .u8 0), (.int .u8 0), (.int .u8 0), (.int .u8 0), (.int .u8 0), (.int .u8 0), (.int .u8 0), (.int .u8 0), (.int .u8 0), (.int .u8 0), (.int .u8 0), (.int .u8 0), (.int .u8 0), (.int .u8 0), (.int .u8 0), (.int .u8 0), (.int .u8 0), (.int .u8 0), (.int .u8 0), (.int .u8 0), (.int .u8 0), (.int .u8 0), (.int .u8 0), (.int .u8 0), (.int .u8 0), (.int .u8 0), (.int .u8 0), (.int .u8 0), (.int .u8 0), (.int .u8 0), (.int .u8 0), (.int .u8 0), (.int .u8 0), (.int .u8 0), (.int .u8 0), (.int .u8 0), (.int .u8 0), (.int .u8 0), (.int .u8 0), (.int .u8 0), (.int .u8 0), (.int .u8 0), (.int .u8 0), (.int .u8 0), (.int .u8 0), (.int .u8 0), (.int .u8 0), (.int .u8 0), (.int .u8 0), (.int .u8 0), (.int .u8 0), (.int .u8 0), (.int .u8 0), (.int .u8 0), (.int .u8 0), (.int .u8 0), (.int .u8 0), (.int .u8 0), (.int .u8 0), (.int .u8 0), (.int .u8 0), (.int .u8 0), (.int .u8 0), (.int .u8 0), (.int .u8 0), (.int .u8 0), (.int .u8 0), (.int .u8 0), (.int .u8 0), (.int .u8 0), (.int .u8 0), (.int .u8 0), (.int .u8 0), (.int .u8 0), (.int .u8 0), (.int .u8 0), (.int .u8 0), (.int .u8 0), (.int .u8 0), (.int .u8 0), (.int .u8 0), (.int .u8 0), (.int .u8 0), (.int .u8 0), (.int .u8 0), (.int .u8 0), (.int .u8 0), (.int .u8 0), (.int .u8 0), (.int .u8 0), (.int .u8 0), (.int .u8 0), (.int .u8 0), (.int .u8 0), (.int .u8 0), (.int .u8 0), (.int .u8 0), (.int .u8 0), (.int .u8 0), (.int .u8 0), (.int .u8 0), (.int .u8 0), (.int .u8 0), (.int .u8 0), (.int .u8 0), (.int .u8 0), (.int .u8 0), (.int .u8 0), (.int .u8 0), (.int .u8 0), (.int .u8 0), (.int .u8 0), (.int .u8 0), (.int .u8 0), (.int .u8 0), (.int .u8 0), (.int .u8 0), (.int .u8 0), (.int .u8 0), (.int .u8 0), (.int .u8 0), (.int .u8 0), (.int .u8 0), (.int .u8 0), (.int .u8 0), (.int .u8 0), (.int .u8 0), (.int .u8 0), (.int .u8 0)]) := ⟨by kernel_rfl⟩
instance ul_149 : Ul prog 149 (.array 256 5) := ⟨by kernel_rfl⟩
instance aggC_150 : AggC prog 150 2 := ⟨fun w => by kernel_rfl, by kernel_rfl⟩
instance zeroC_150 : ZeroC prog 150 (.agg #[(.int .u8 0), (.int .u8 0)]) := ⟨by kernel_rfl⟩
instance fld_150_0 : FldOff prog 150 0 0 := ⟨fun b o w => by kernel_rfl⟩
instance fld_150_1 : FldOff prog 150 1 1 := ⟨fun b o w => by kernel_rfl⟩
instance aggC_151 : AggC prog 151 2 := ⟨fun w => by kernel_rfl, by kernel_rfl⟩
instance zeroC_151 : ZeroC prog 151 (.agg #[(.int .u8 0), (.int .u8 0)]) := ⟨by kernel_rfl⟩
instance fld_151_0 : FldOff prog 151 0 0 := ⟨fun b o w => by kernel_rfl⟩
instance fld_151_1 : FldOff prog 151 1 1 := ⟨fun b o w => by kernel_rfl⟩
instance aggC_152 : AggC prog 152 32 := ⟨fun w => by kernel_rfl, by kernel_rfl⟩
instance zeroC_152 : ZeroC prog 152 (.agg #[(.int .u8 0), (.int .u8 0), (.int .u8 0), (.int .u8 0), (.int .u8 0), (.int .u8 0), (.int .u8 0), (.int .u8 0), (.int .u8 0), (.int .u8 0), (.int .u8 0), (.int .u8 0), (.int .u8 0), (.int .u8 0), (.int .u8 0), (.int .u8 0), (.int .u8 0), (.int .u8 0), (.int .u8 0), (.int .u8 0), (.int .u8 0), (.int .u8 0), (.int .u8 0), (.int .u8 0), (.int .u8 0), (.int .u8 0), (.int .u8 0), (.int .u8 0), (.int .u8 0), (.int .u8 0), (.int .u8 0), (.int .u8 0)]) := ⟨by kernel_rfl⟩
instance ul_152 : Ul prog 152 (.array 16 151) := ⟨by kernel_rfl⟩
instance oneC_156 : OneC prog 156 := ⟨fun w => by kernel_rfl, by kernel_rfl⟩
instance zeroC_156 : ZeroC prog 156 (.pointer none) := ⟨by kernel_rfl⟩
instance ul_156 : Ul prog 156 (.pointer 5) := ⟨by kernel_rfl⟩
instance oneC_157 : OneC prog 157 := ⟨fun w => by kernel_rfl, by kernel_rfl⟩
instance zeroC_157 : ZeroC prog 157 (.pointer none) := ⟨by kernel_rfl⟩
instance ul_157 : Ul prog 157 (.pointer 159) := ⟨by kernel_rfl⟩
instance aggC_158 : AggC prog 158 1 := ⟨fun w => by kernel_rfl, by kernel_rfl⟩
instance zeroC_158 : ZeroC prog 158 (.agg #[(.string ⟨#[]⟩)]) := ⟨by kernel_rfl⟩
instance fld_158_0 : FldOff prog 158 0 0 := ⟨fun b o w => by kernel_rfl⟩
instance aggC_159 : AggC prog 159 1 := ⟨fun w => by kernel_rfl, by kernel_rfl⟩
instance zeroC_159 : ZeroC prog 159 (.agg #[(.string ⟨#[]⟩)]) := ⟨by kernel_rfl⟩
instance fld_159_0 : FldOff prog 159 0 0 := ⟨fun b o w => by kernel_rfl⟩
instance aggC_160 : AggC prog 160 64 := ⟨fun w => by kernel_rfl, by kernel_rfl⟩
instance zeroC_160 : ZeroC prog 160 (.agg #[(.int .u8 0), (.int .u8 0), (.int .u8 0), (.int .u8 0), (.int .u8 0), (.int .u8 0), (.int .u8 0), (.int .u8 0), (.int .u8 0), (.int .u8 0), (.int .u8 0), (.int .u8 0), (.int .u8 0), (.int .u8 0), (.int .u8 0), (.int .u8 0), (.int .u8 0), (.int .u8 0), (.int .u8 0), (.int .u8 0), (.int .u8 0), (.int .u8 0), (.int .u8 0), (.int .u8 0), (.int .u8 0), (.int .u8 0), (.int .u8 0), (.int .u8 0), (.int .u8 0), (.int .u8 0), (.int .u8 0), (.int .u8 0), (.int .u8 0), (.int .u8 0), (.int .u8 0), (.int .u8 0), (.int .u8 0), (.int .u8 0), (.int .u8 0), (.int .u8 0), (.int .u8 0), (.int .u8 0), (.int .u8 0), (.int .u8 0), (.int .u8 0), (.int .u8 0), (.int .u8 0), (.int .u8 0), (.int .u8 0), (.int .u8 0), (.int .u8 0), (.int .u8 0), (.int .u8 0), (.int .u8 0), (.int .u8 0), (.int .u8 0), (.int .u8 0), (.int .u8 0), (.int .u8 0), (.int .u8 0), (.int .u8 0), (.int .u8 0), (.int .u8 0), (.int .u8 0)]) := ⟨by kernel_rfl⟩
instance ul_160 : Ul prog 160 (.array 64 5) := ⟨by kernel_rfl⟩
instance aggC_162 : AggC prog 162 4 := ⟨fun w => by kernel_rfl, by kernel_rfl⟩
instance zeroC_162 : ZeroC prog 162 (.agg #[(.pointer none), (.pointer none), (.pointer none), (.string ⟨#[]⟩)]) := ⟨by kernel_rfl⟩
instance fld_162_0 : FldOff prog 162 0 0 := ⟨fun b o w => by kernel_rfl⟩
instance fld_162_1 : FldOff prog 162 1 1 := ⟨fun b o w => by kernel_rfl⟩
instance fld_162_2 : FldOff prog 162 2 2 := ⟨fun b o w => by kernel_rfl⟩
instance fld_162_3 : FldOff prog 162 3 3 := ⟨fun b o w => by kernel_rfl⟩
instance aggC_163 : AggC prog 163 4 := ⟨fun w => by kernel_rfl, by kernel_rfl⟩
instance zeroC_163 : ZeroC prog 163 (.agg #[(.pointer none), (.pointer none), (.pointer none), (.string ⟨#[]⟩)]) := ⟨by kernel_rfl⟩
instance fld_163_0 : FldOff prog 163 0 0 := ⟨fun b o w => by kernel_rfl⟩
instance fld_163_1 : FldOff prog 163 1 1 := ⟨fun b o w => by kernel_rfl⟩
instance fld_163_2 : FldOff prog 163 2 2 := ⟨fun b o w => by kernel_rfl⟩
instance fld_163_3 : FldOff prog 163 3 3 := ⟨fun b o w => by kernel_rfl⟩
instance aggC_164 : AggC prog 164 0 := ⟨fun w => by kernel_rfl, by kernel_rfl⟩
instance zeroC_164 : ZeroC prog 164 (.agg #[]) := ⟨by kernel_rfl⟩
instance ul_164 : Ul prog 164 (.array 0 16) := ⟨by kernel_rfl⟩
instance aggC_165 : AggC prog 165 0 := ⟨fun w => by kernel_rfl, by kernel_rfl⟩
instance zeroC_165 : ZeroC prog 165 (.agg #[]) := ⟨by kernel_rfl⟩
instance aggC_166 : AggC prog 166 0 := ⟨fun w => by kernel_rfl, by kernel_rfl⟩
instance zeroC_166 : ZeroC prog 166 (.agg #[]) := ⟨by kernel_rfl⟩
instance oneC_167 : OneC prog 167 := ⟨fun w => by kernel_rfl, by kernel_rfl⟩
instance zeroC_167 : ZeroC prog 167 (.int .u8 0) := ⟨by kernel_rfl⟩
instance ul_167 : Ul prog 167 (.int .u8) := ⟨by kernel_rfl⟩
instance oneC_168 : OneC prog 168 := ⟨fun w => by kernel_rfl, by kernel_rfl⟩
instance zeroC_168 : ZeroC prog 168 (.int .u8 0) := ⟨by kernel_rfl⟩
instance ul_168 : Ul prog 168 (.int .u8) := ⟨by kernel_rfl⟩
instance oneC_170 : OneC prog 170 := ⟨fun w => by kernel_rfl, by kernel_rfl⟩
instance zeroC_170 : ZeroC prog 170 (.int .i32 0) := ⟨by kernel_rfl⟩
instance ul_170 : Ul prog 170 (.int .i32) := ⟨by kernel_rfl⟩
instance oneC_171 : OneC prog 171 := ⟨fun w => by kernel_rfl, by kernel_rfl⟩
instance zeroC_171 : ZeroC prog 171 (.int .i32 0) := ⟨by kernel_rfl⟩
instance ul_171 : Ul prog 171 (.int .i32) := ⟨by kernel_rfl⟩
instance aggC_172 : AggC prog 172 11 := ⟨fun w => by kernel_rfl, by kernel_rfl⟩
instance zeroC_172 : ZeroC prog 172 (.agg #[(.int .u64 0), (.int .u64 0), (.int .u32 0), (.int .u8 0), (.int .u8 0), (.int .u8 0), (.int .u8 0), .nilFunc, (.pointer none), (.int .i32 0), (.int .i32 0)]) := ⟨by kernel_rfl⟩
instance fld_172_0 : FldOff prog 172 0 0 := ⟨fun b o w => by kernel_rfl⟩
instance fld_172_1 : FldOff prog 172 1 1 := ⟨fun b o w => by kernel_rfl⟩
instance fld_172_2 : FldOff prog 172 2 2 := ⟨fun b o w => by kernel_rfl⟩
instance fld_172_3 : FldOff prog 172 3 3 := ⟨fun b o w => by kernel_rfl⟩
instance fld_172_4 : FldOff prog 172 4 4 := ⟨fun b o w => by kernel_rfl⟩
instance fld_172_5 : FldOff prog 172 5 5 := ⟨fun b o w => by kernel_rfl⟩
instance fld_172_6 : FldOff prog 172 6 6 := ⟨fun b o w => by kernel_rfl⟩
instance fld_172_7 : FldOff prog 172 7 7 := ⟨fun b o w => by kernel_rfl⟩
instance fld_172_8 : FldOff prog 172 8 8 := ⟨fun b o w => by kernel_rfl⟩
instance fld_172_9 : FldOff prog 172 9 9 := ⟨fun b o w => by kernel_rfl⟩
instance fld_172_10 : FldOff prog 172 10 10 := ⟨fun b o w => by kernel_rfl⟩
instance aggC_173 : AggC prog 173 11 := ⟨fun w => by kernel_rfl, by kernel_rfl⟩
instance zeroC_173 : ZeroC prog 173 (.agg #[(.int .u64 0), (.int .u64 0), (.int .u32 0), (.int .u8 0), (.int .u8 0), (.int .u8 0), (.int .u8 0), .nilFunc, (.pointer none), (.int .i32 0), (.int .i32 0)]) := ⟨by kernel_rfl⟩
instance fld_173_0 : FldOff prog 173 0 0 := ⟨fun b o w => by kernel_rfl⟩
instance fld_173_1 : FldOff prog 173 1 1 := ⟨fun b o w => by kernel_rfl⟩
instance fld_173_2 : FldOff prog 173 2 2 := ⟨fun b o w => by kernel_rfl⟩
instance fld_173_3 : FldOff prog 173 3 3 := ⟨fun b o w => by kernel_rfl⟩
instance fld_173_4 : FldOff prog 173 4 4 := ⟨fun b o w => by kernel_rfl⟩
instance fld_173_5 : FldOff prog 173 5 5 := ⟨fun b o w => by kernel_rfl⟩
instance fld_173_6 : FldOff prog 173 6 6 := ⟨fun b o w => by kernel_rfl⟩
instance fld_173_7 : FldOff prog 173 7 7 := ⟨fun b o w => by kernel_rfl⟩
instance fld_173_8 : FldOff prog 173 8 8 := ⟨fun b o w => by kernel_rfl⟩
instance fld_173_9 : FldOff prog 173 9 9 := ⟨fun b o w => by kernel_rfl⟩
instance fld_173_10 : FldOff prog 173 10 10 := ⟨fun b o w => by kernel_rfl⟩
instance oneC_174 : OneC prog 174 := ⟨fun w => by kernel_rfl, by kernel_rfl⟩
instance zeroC_174 : ZeroC prog 174 (.pointer none) := ⟨by kernel_rfl⟩

end Go.Proofs.YtjeiojibnmfibaaDoor
