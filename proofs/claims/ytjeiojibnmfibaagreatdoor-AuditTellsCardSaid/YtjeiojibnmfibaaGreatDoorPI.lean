import Derived.Test.YtjeiojibnmfibaaGreatDoorProg
import Derived.Test.YtjeiojibnmfibaaGreatDoorVc
import Derived.KernelRfl
set_option linter.all false
set_option maxRecDepth 100000
namespace Go.Proofs.YtjeiojibnmfibaaGreatDoor
open Go Hold
noncomputable abbrev prog : Program := Tryz.prog
instance oneC_2 : OneC prog 2 := ⟨fun w => by kernel_rfl, by kernel_rfl⟩
instance zeroC_2 : ZeroC prog 2 (.int .i64 0) := ⟨by kernel_rfl⟩
instance ul_2 : Ul prog 2 (.int .i64) := ⟨by kernel_rfl⟩
instance oneC_3 : OneC prog 3 := ⟨fun w => by kernel_rfl, by kernel_rfl⟩
instance zeroC_3 : ZeroC prog 3 (.int .i64 0) := ⟨by kernel_rfl⟩
instance ul_3 : Ul prog 3 (.int .i64) := ⟨by kernel_rfl⟩
instance oneC_4 : OneC prog 4 := ⟨fun w => by kernel_rfl, by kernel_rfl⟩
instance zeroC_4 : ZeroC prog 4 (.bool false) := ⟨by kernel_rfl⟩
instance ul_4 : Ul prog 4 .bool := ⟨by kernel_rfl⟩
instance oneC_5 : OneC prog 5 := ⟨fun w => by kernel_rfl, by kernel_rfl⟩
instance zeroC_5 : ZeroC prog 5 (.int .u8 0) := ⟨by kernel_rfl⟩
instance ul_5 : Ul prog 5 (.int .u8) := ⟨by kernel_rfl⟩
instance oneC_6 : OneC prog 6 := ⟨fun w => by kernel_rfl, by kernel_rfl⟩
instance zeroC_6 : ZeroC prog 6 (.int .u8 0) := ⟨by kernel_rfl⟩
instance ul_6 : Ul prog 6 (.int .u8) := ⟨by kernel_rfl⟩
instance aggC_7 : AggC prog 7 4 := ⟨fun w => by kernel_rfl, by kernel_rfl⟩
instance zeroC_7 : ZeroC prog 7 (.agg #[(.int .i64 0), (.int .i64 0), (.bool false), (.int .u8 0)]) := ⟨by kernel_rfl⟩
instance fld_7_0 : FldOff prog 7 0 0 := ⟨fun b o w => by kernel_rfl⟩
instance fld_7_1 : FldOff prog 7 1 1 := ⟨fun b o w => by kernel_rfl⟩
instance fld_7_2 : FldOff prog 7 2 2 := ⟨fun b o w => by kernel_rfl⟩
instance fld_7_3 : FldOff prog 7 3 3 := ⟨fun b o w => by kernel_rfl⟩
instance aggC_8 : AggC prog 8 4 := ⟨fun w => by kernel_rfl, by kernel_rfl⟩
instance zeroC_8 : ZeroC prog 8 (.agg #[(.int .i64 0), (.int .i64 0), (.bool false), (.int .u8 0)]) := ⟨by kernel_rfl⟩
instance fld_8_0 : FldOff prog 8 0 0 := ⟨fun b o w => by kernel_rfl⟩
instance fld_8_1 : FldOff prog 8 1 1 := ⟨fun b o w => by kernel_rfl⟩
instance fld_8_2 : FldOff prog 8 2 2 := ⟨fun b o w => by kernel_rfl⟩
instance fld_8_3 : FldOff prog 8 3 3 := ⟨fun b o w => by kernel_rfl⟩
instance oneC_9 : OneC prog 9 := ⟨fun w => by kernel_rfl, by kernel_rfl⟩
instance zeroC_9 : ZeroC prog 9 (.string ⟨#[]⟩) := ⟨by kernel_rfl⟩
instance ul_9 : Ul prog 9 .string := ⟨by kernel_rfl⟩
instance oneC_10 : OneC prog 10 := ⟨fun w => by kernel_rfl, by kernel_rfl⟩
instance zeroC_10 : ZeroC prog 10 (.string ⟨#[]⟩) := ⟨by kernel_rfl⟩
instance ul_10 : Ul prog 10 .string := ⟨by kernel_rfl⟩
instance oneC_11 : OneC prog 11 := ⟨fun w => by kernel_rfl, by kernel_rfl⟩
instance zeroC_11 : ZeroC prog 11 (.string ⟨#[]⟩) := ⟨by kernel_rfl⟩
instance ul_11 : Ul prog 11 .string := ⟨by kernel_rfl⟩
instance oneC_12 : OneC prog 12 := ⟨fun w => by kernel_rfl, by kernel_rfl⟩
instance zeroC_12 : ZeroC prog 12 (.int .u64 0) := ⟨by kernel_rfl⟩
instance ul_12 : Ul prog 12 (.int .u64) := ⟨by kernel_rfl⟩
instance aggC_13 : AggC prog 13 2 := ⟨fun w => by kernel_rfl, by kernel_rfl⟩
instance zeroC_13 : ZeroC prog 13 (.agg #[(.string ⟨#[]⟩), (.int .u64 0)]) := ⟨by kernel_rfl⟩
instance fld_13_0 : FldOff prog 13 0 0 := ⟨fun b o w => by kernel_rfl⟩
instance fld_13_1 : FldOff prog 13 1 1 := ⟨fun b o w => by kernel_rfl⟩
instance aggC_14 : AggC prog 14 2 := ⟨fun w => by kernel_rfl, by kernel_rfl⟩
instance zeroC_14 : ZeroC prog 14 (.agg #[(.string ⟨#[]⟩), (.int .u64 0)]) := ⟨by kernel_rfl⟩
instance fld_14_0 : FldOff prog 14 0 0 := ⟨fun b o w => by kernel_rfl⟩
instance fld_14_1 : FldOff prog 14 1 1 := ⟨fun b o w => by kernel_rfl⟩
instance oneC_15 : OneC prog 15 := ⟨fun w => by kernel_rfl, by kernel_rfl⟩
instance zeroC_15 : ZeroC prog 15 (.pointer none) := ⟨by kernel_rfl⟩
instance ul_15 : Ul prog 15 (.pointer 161) := ⟨by kernel_rfl⟩
instance oneC_16 : OneC prog 16 := ⟨fun w => by kernel_rfl, by kernel_rfl⟩
instance zeroC_16 : ZeroC prog 16 (.pointer none) := ⟨by kernel_rfl⟩
instance ul_16 : Ul prog 16 (.pointer 164) := ⟨by kernel_rfl⟩
instance oneC_17 : OneC prog 17 := ⟨fun w => by kernel_rfl, by kernel_rfl⟩
instance zeroC_17 : ZeroC prog 17 (.pointer none) := ⟨by kernel_rfl⟩
instance ul_17 : Ul prog 17 (.pointer 171) := ⟨by kernel_rfl⟩
instance aggC_18 : AggC prog 18 1 := ⟨fun w => by kernel_rfl, by kernel_rfl⟩
instance zeroC_18 : ZeroC prog 18 (.agg #[(.pointer none)]) := ⟨by kernel_rfl⟩
instance fld_18_0 : FldOff prog 18 0 0 := ⟨fun b o w => by kernel_rfl⟩
instance aggC_19 : AggC prog 19 1 := ⟨fun w => by kernel_rfl, by kernel_rfl⟩
instance zeroC_19 : ZeroC prog 19 (.agg #[(.pointer none)]) := ⟨by kernel_rfl⟩
instance fld_19_0 : FldOff prog 19 0 0 := ⟨fun b o w => by kernel_rfl⟩
instance oneC_20 : OneC prog 20 := ⟨fun w => by kernel_rfl, by kernel_rfl⟩
instance zeroC_20 : ZeroC prog 20 .nilIface := ⟨by kernel_rfl⟩
instance oneC_21 : OneC prog 21 := ⟨fun w => by kernel_rfl, by kernel_rfl⟩
instance zeroC_21 : ZeroC prog 21 (.int .i32 0) := ⟨by kernel_rfl⟩
instance ul_21 : Ul prog 21 (.int .i32) := ⟨by kernel_rfl⟩
instance oneC_22 : OneC prog 22 := ⟨fun w => by kernel_rfl, by kernel_rfl⟩
instance zeroC_22 : ZeroC prog 22 (.slice none 0 0) := ⟨by kernel_rfl⟩
instance sliceT_22 : SliceT prog 22 24 5 56 (.agg #[(.int .i64 0), (.int .i64 0), (.int .i64 0), (.string ⟨#[]⟩), (.string ⟨#[]⟩)]) := ⟨by kernel_rfl, by kernel_rfl, rfl, by decide⟩
instance ul_22 : Ul prog 22 (.slice 24) := ⟨by kernel_rfl⟩
instance aggC_23 : AggC prog 23 5 := ⟨fun w => by kernel_rfl, by kernel_rfl⟩
instance zeroC_23 : ZeroC prog 23 (.agg #[(.int .i64 0), (.int .i64 0), (.int .i64 0), (.string ⟨#[]⟩), (.string ⟨#[]⟩)]) := ⟨by kernel_rfl⟩
instance fld_23_0 : FldOff prog 23 0 0 := ⟨fun b o w => by kernel_rfl⟩
instance fld_23_1 : FldOff prog 23 1 1 := ⟨fun b o w => by kernel_rfl⟩
instance fld_23_2 : FldOff prog 23 2 2 := ⟨fun b o w => by kernel_rfl⟩
instance fld_23_3 : FldOff prog 23 3 3 := ⟨fun b o w => by kernel_rfl⟩
instance fld_23_4 : FldOff prog 23 4 4 := ⟨fun b o w => by kernel_rfl⟩
instance aggC_24 : AggC prog 24 5 := ⟨fun w => by kernel_rfl, by kernel_rfl⟩
instance zeroC_24 : ZeroC prog 24 (.agg #[(.int .i64 0), (.int .i64 0), (.int .i64 0), (.string ⟨#[]⟩), (.string ⟨#[]⟩)]) := ⟨by kernel_rfl⟩
instance fld_24_0 : FldOff prog 24 0 0 := ⟨fun b o w => by kernel_rfl⟩
instance fld_24_1 : FldOff prog 24 1 1 := ⟨fun b o w => by kernel_rfl⟩
instance fld_24_2 : FldOff prog 24 2 2 := ⟨fun b o w => by kernel_rfl⟩
instance fld_24_3 : FldOff prog 24 3 3 := ⟨fun b o w => by kernel_rfl⟩
instance fld_24_4 : FldOff prog 24 4 4 := ⟨fun b o w => by kernel_rfl⟩
instance oneC_25 : OneC prog 25 := ⟨fun w => by kernel_rfl, by kernel_rfl⟩
instance zeroC_25 : ZeroC prog 25 (.pointer none) := ⟨by kernel_rfl⟩
instance ul_25 : Ul prog 25 (.pointer 52) := ⟨by kernel_rfl⟩
instance oneC_27 : OneC prog 27 := ⟨fun w => by kernel_rfl, by kernel_rfl⟩
instance zeroC_27 : ZeroC prog 27 (.pointer none) := ⟨by kernel_rfl⟩
instance ul_27 : Ul prog 27 (.pointer 54) := ⟨by kernel_rfl⟩
instance oneC_31 : OneC prog 31 := ⟨fun w => by kernel_rfl, by kernel_rfl⟩
instance zeroC_31 : ZeroC prog 31 (.slice none 0 0) := ⟨by kernel_rfl⟩
instance sliceT_31 : SliceT prog 31 35 2 40 (.agg #[(.string ⟨#[]⟩), (.slice none 0 0)]) := ⟨by kernel_rfl, by kernel_rfl, rfl, by decide⟩
instance ul_31 : Ul prog 31 (.slice 35) := ⟨by kernel_rfl⟩
instance oneC_33 : OneC prog 33 := ⟨fun w => by kernel_rfl, by kernel_rfl⟩
instance zeroC_33 : ZeroC prog 33 (.slice none 0 0) := ⟨by kernel_rfl⟩
instance sliceT_33 : SliceT prog 33 9 1 16 (.string ⟨#[]⟩) := ⟨by kernel_rfl, by kernel_rfl, rfl, by decide⟩
instance ul_33 : Ul prog 33 (.slice 9) := ⟨by kernel_rfl⟩
instance aggC_34 : AggC prog 34 2 := ⟨fun w => by kernel_rfl, by kernel_rfl⟩
instance zeroC_34 : ZeroC prog 34 (.agg #[(.string ⟨#[]⟩), (.slice none 0 0)]) := ⟨by kernel_rfl⟩
instance fld_34_0 : FldOff prog 34 0 0 := ⟨fun b o w => by kernel_rfl⟩
instance fld_34_1 : FldOff prog 34 1 1 := ⟨fun b o w => by kernel_rfl⟩
instance aggC_35 : AggC prog 35 2 := ⟨fun w => by kernel_rfl, by kernel_rfl⟩
instance zeroC_35 : ZeroC prog 35 (.agg #[(.string ⟨#[]⟩), (.slice none 0 0)]) := ⟨by kernel_rfl⟩
instance fld_35_0 : FldOff prog 35 0 0 := ⟨fun b o w => by kernel_rfl⟩
instance fld_35_1 : FldOff prog 35 1 1 := ⟨fun b o w => by kernel_rfl⟩
instance oneC_36 : OneC prog 36 := ⟨fun w => by kernel_rfl, by kernel_rfl⟩
instance zeroC_36 : ZeroC prog 36 (.int .i64 0) := ⟨by kernel_rfl⟩
instance ul_36 : Ul prog 36 (.int .i64) := ⟨by kernel_rfl⟩
instance oneC_41 : OneC prog 41 := ⟨fun w => by kernel_rfl, by kernel_rfl⟩
instance zeroC_41 : ZeroC prog 41 (.slice none 0 0) := ⟨by kernel_rfl⟩
instance sliceT_41 : SliceT prog 41 56 4 48 (.agg #[(.int .i64 0), (.int .i64 0), (.string ⟨#[]⟩), (.string ⟨#[]⟩)]) := ⟨by kernel_rfl, by kernel_rfl, rfl, by decide⟩
instance ul_41 : Ul prog 41 (.slice 56) := ⟨by kernel_rfl⟩
instance aggC_43 : AggC prog 43 32 := ⟨fun w => by kernel_rfl, by kernel_rfl⟩
instance zeroC_43 : ZeroC prog 43 (.agg #[(.int .u8 0), (.int .u8 0), (.int .u8 0), (.int .u8 0), (.int .u8 0), (.int .u8 0), (.int .u8 0), (.int .u8 0), (.int .u8 0), (.int .u8 0), (.int .u8 0), (.int .u8 0), (.int .u8 0), (.int .u8 0), (.int .u8 0), (.int .u8 0), (.int .u8 0), (.int .u8 0), (.int .u8 0), (.int .u8 0), (.int .u8 0), (.int .u8 0), (.int .u8 0), (.int .u8 0), (.int .u8 0), (.int .u8 0), (.int .u8 0), (.int .u8 0), (.int .u8 0), (.int .u8 0), (.int .u8 0), (.int .u8 0)]) := ⟨by kernel_rfl⟩
instance ul_43 : Ul prog 43 (.array 32 5) := ⟨by kernel_rfl⟩
instance aggC_44 : AggC prog 44 32 := ⟨fun w => by kernel_rfl, by kernel_rfl⟩
instance zeroC_44 : ZeroC prog 44 (.agg #[(.int .u8 0), (.int .u8 0), (.int .u8 0), (.int .u8 0), (.int .u8 0), (.int .u8 0), (.int .u8 0), (.int .u8 0), (.int .u8 0), (.int .u8 0), (.int .u8 0), (.int .u8 0), (.int .u8 0), (.int .u8 0), (.int .u8 0), (.int .u8 0), (.int .u8 0), (.int .u8 0), (.int .u8 0), (.int .u8 0), (.int .u8 0), (.int .u8 0), (.int .u8 0), (.int .u8 0), (.int .u8 0), (.int .u8 0), (.int .u8 0), (.int .u8 0), (.int .u8 0), (.int .u8 0), (.int .u8 0), (.int .u8 0)]) := ⟨by kernel_rfl⟩
instance ul_44 : Ul prog 44 (.array 32 5) := ⟨by kernel_rfl⟩
instance aggC_49 : AggC prog 49 33 := ⟨fun w => by kernel_rfl, by kernel_rfl⟩
instance zeroC_49 : ZeroC prog 49 (.agg #[(.int .i64 0), (.int .u8 0), (.int .u8 0), (.int .u8 0), (.int .u8 0), (.int .u8 0), (.int .u8 0), (.int .u8 0), (.int .u8 0), (.int .u8 0), (.int .u8 0), (.int .u8 0), (.int .u8 0), (.int .u8 0), (.int .u8 0), (.int .u8 0), (.int .u8 0), (.int .u8 0), (.int .u8 0), (.int .u8 0), (.int .u8 0), (.int .u8 0), (.int .u8 0), (.int .u8 0), (.int .u8 0), (.int .u8 0), (.int .u8 0), (.int .u8 0), (.int .u8 0), (.int .u8 0), (.int .u8 0), (.int .u8 0), (.int .u8 0)]) := ⟨by kernel_rfl⟩
instance fld_49_0 : FldOff prog 49 0 0 := ⟨fun b o w => by kernel_rfl⟩
instance fld_49_1 : FldOff prog 49 1 1 := ⟨fun b o w => by kernel_rfl⟩
instance aggC_50 : AggC prog 50 33 := ⟨fun w => by kernel_rfl, by kernel_rfl⟩
instance zeroC_50 : ZeroC prog 50 (.agg #[(.int .i64 0), (.int .u8 0), (.int .u8 0), (.int .u8 0), (.int .u8 0), (.int .u8 0), (.int .u8 0), (.int .u8 0), (.int .u8 0), (.int .u8 0), (.int .u8 0), (.int .u8 0), (.int .u8 0), (.int .u8 0), (.int .u8 0), (.int .u8 0), (.int .u8 0), (.int .u8 0), (.int .u8 0), (.int .u8 0), (.int .u8 0), (.int .u8 0), (.int .u8 0), (.int .u8 0), (.int .u8 0), (.int .u8 0), (.int .u8 0), (.int .u8 0), (.int .u8 0), (.int .u8 0), (.int .u8 0), (.int .u8 0), (.int .u8 0)]) := ⟨by kernel_rfl⟩
instance fld_50_0 : FldOff prog 50 0 0 := ⟨fun b o w => by kernel_rfl⟩
instance fld_50_1 : FldOff prog 50 1 1 := ⟨fun b o w => by kernel_rfl⟩
instance aggC_51 : AggC prog 51 100 := ⟨fun w => by kernel_rfl, by kernel_rfl⟩
instance zeroC_51 : ZeroC prog 51 (.agg #[(.int .i64 0), (.int .u8 0), (.int .u8 0), (.int .u8 0), (.int .u8 0), (.int .u8 0), (.int .u8 0), (.int .u8 0), (.int .u8 0), (.int .u8 0), (.int .u8 0), (.int .u8 0), (.int .u8 0), (.int .u8 0), (.int .u8 0), (.int .u8 0), (.int .u8 0), (.int .u8 0), (.int .u8 0), (.int .u8 0), (.int .u8 0), (.int .u8 0), (.int .u8 0), (.int .u8 0), (.int .u8 0), (.int .u8 0), (.int .u8 0), (.int .u8 0), (.int .u8 0), (.int .u8 0), (.int .u8 0), (.int .u8 0), (.int .u8 0), (.int .i64 0), (.int .u8 0), (.int .u8 0), (.int .u8 0), (.int .u8 0), (.int .u8 0), (.int .u8 0), (.int .u8 0), (.int .u8 0), (.int .u8 0), (.int .u8 0), (.int .u8 0), (.int .u8 0), (.int .u8 0), (.int .u8 0), (.int .u8 0), (.int .u8 0), (.int .u8 0), (.int .u8 0), (.int .u8 0), (.int .u8 0), (.int .u8 0), (.int .u8 0), (.int .u8 0), (.int .u8 0), (.int .u8 0), (.int .u8 0), (.int .u8 0), (.int .u8 0), (.int .u8 0), (.int .u8 0), (.int .u8 0), (.int .u8 0), (.int .u8 0), (.int .u8 0), (.int .u8 0), (.int .u8 0), (.int .u8 0), (.int .u8 0), (.int .u8 0), (.int .u8 0), (.int .u8 0), (.int .u8 0), (.int .u8 0), (.int .u8 0), (.int .u8 0), (.int .u8 0), (.int .u8 0), (.int .u8 0), (.int .u8 0), (.int .u8 0), (.int .u8 0), (.int .u8 0), (.int .u8 0), (.int .u8 0), (.int .u8 0), (.int .u8 0), (.int .u8 0), (.int .u8 0), (.int .u8 0), (.int .u8 0), (.int .u8 0), (.int .u8 0), (.int .u8 0), (.int .u8 0), (.int .i64 0), (.slice none 0 0)]) := ⟨by kernel_rfl⟩
instance fld_51_0 : FldOff prog 51 0 0 := ⟨fun b o w => by kernel_rfl⟩
instance fld_51_1 : FldOff prog 51 1 33 := ⟨fun b o w => by kernel_rfl⟩
instance fld_51_2 : FldOff prog 51 2 66 := ⟨fun b o w => by kernel_rfl⟩
instance fld_51_3 : FldOff prog 51 3 98 := ⟨fun b o w => by kernel_rfl⟩
instance fld_51_4 : FldOff prog 51 4 99 := ⟨fun b o w => by kernel_rfl⟩
instance aggC_52 : AggC prog 52 100 := ⟨fun w => by kernel_rfl, by kernel_rfl⟩
instance zeroC_52 : ZeroC prog 52 (.agg #[(.int .i64 0), (.int .u8 0), (.int .u8 0), (.int .u8 0), (.int .u8 0), (.int .u8 0), (.int .u8 0), (.int .u8 0), (.int .u8 0), (.int .u8 0), (.int .u8 0), (.int .u8 0), (.int .u8 0), (.int .u8 0), (.int .u8 0), (.int .u8 0), (.int .u8 0), (.int .u8 0), (.int .u8 0), (.int .u8 0), (.int .u8 0), (.int .u8 0), (.int .u8 0), (.int .u8 0), (.int .u8 0), (.int .u8 0), (.int .u8 0), (.int .u8 0), (.int .u8 0), (.int .u8 0), (.int .u8 0), (.int .u8 0), (.int .u8 0), (.int .i64 0), (.int .u8 0), (.int .u8 0), (.int .u8 0), (.int .u8 0), (.int .u8 0), (.int .u8 0), (.int .u8 0), (.int .u8 0), (.int .u8 0), (.int .u8 0), (.int .u8 0), (.int .u8 0), (.int .u8 0), (.int .u8 0), (.int .u8 0), (.int .u8 0), (.int .u8 0), (.int .u8 0), (.int .u8 0), (.int .u8 0), (.int .u8 0), (.int .u8 0), (.int .u8 0), (.int .u8 0), (.int .u8 0), (.int .u8 0), (.int .u8 0), (.int .u8 0), (.int .u8 0), (.int .u8 0), (.int .u8 0), (.int .u8 0), (.int .u8 0), (.int .u8 0), (.int .u8 0), (.int .u8 0), (.int .u8 0), (.int .u8 0), (.int .u8 0), (.int .u8 0), (.int .u8 0), (.int .u8 0), (.int .u8 0), (.int .u8 0), (.int .u8 0), (.int .u8 0), (.int .u8 0), (.int .u8 0), (.int .u8 0), (.int .u8 0), (.int .u8 0), (.int .u8 0), (.int .u8 0), (.int .u8 0), (.int .u8 0), (.int .u8 0), (.int .u8 0), (.int .u8 0), (.int .u8 0), (.int .u8 0), (.int .u8 0), (.int .u8 0), (.int .u8 0), (.int .u8 0), (.int .i64 0), (.slice none 0 0)]) := ⟨by kernel_rfl⟩
instance fld_52_0 : FldOff prog 52 0 0 := ⟨fun b o w => by kernel_rfl⟩
instance fld_52_1 : FldOff prog 52 1 33 := ⟨fun b o w => by kernel_rfl⟩
instance fld_52_2 : FldOff prog 52 2 66 := ⟨fun b o w => by kernel_rfl⟩
instance fld_52_3 : FldOff prog 52 3 98 := ⟨fun b o w => by kernel_rfl⟩
instance fld_52_4 : FldOff prog 52 4 99 := ⟨fun b o w => by kernel_rfl⟩
instance aggC_53 : AggC prog 53 100 := ⟨fun w => by kernel_rfl, by kernel_rfl⟩
instance zeroC_53 : ZeroC prog 53 (.agg #[(.int .i64 0), (.int .i64 0), (.int .i64 0), (.int .u8 0), (.int .u8 0), (.int .u8 0), (.int .u8 0), (.int .u8 0), (.int .u8 0), (.int .u8 0), (.int .u8 0), (.int .u8 0), (.int .u8 0), (.int .u8 0), (.int .u8 0), (.int .u8 0), (.int .u8 0), (.int .u8 0), (.int .u8 0), (.int .u8 0), (.int .u8 0), (.int .u8 0), (.int .u8 0), (.int .u8 0), (.int .u8 0), (.int .u8 0), (.int .u8 0), (.int .u8 0), (.int .u8 0), (.int .u8 0), (.int .u8 0), (.int .u8 0), (.int .u8 0), (.int .u8 0), (.int .u8 0), (.int .u8 0), (.int .u8 0), (.int .u8 0), (.int .u8 0), (.int .u8 0), (.int .u8 0), (.int .u8 0), (.int .u8 0), (.int .u8 0), (.int .u8 0), (.int .u8 0), (.int .u8 0), (.int .u8 0), (.int .u8 0), (.int .u8 0), (.int .u8 0), (.int .u8 0), (.int .u8 0), (.int .u8 0), (.int .u8 0), (.int .u8 0), (.int .u8 0), (.int .u8 0), (.int .u8 0), (.int .u8 0), (.int .u8 0), (.int .u8 0), (.int .u8 0), (.int .u8 0), (.int .u8 0), (.int .u8 0), (.int .u8 0), (.int .u8 0), (.int .u8 0), (.int .u8 0), (.int .u8 0), (.int .u8 0), (.int .u8 0), (.int .u8 0), (.int .u8 0), (.int .u8 0), (.int .u8 0), (.int .u8 0), (.int .u8 0), (.int .u8 0), (.int .u8 0), (.int .u8 0), (.int .u8 0), (.int .u8 0), (.int .u8 0), (.int .u8 0), (.int .u8 0), (.int .u8 0), (.int .u8 0), (.int .u8 0), (.int .u8 0), (.int .u8 0), (.int .u8 0), (.int .u8 0), (.int .u8 0), (.int .u8 0), (.int .u8 0), (.int .u8 0), (.int .u8 0), (.slice none 0 0)]) := ⟨by kernel_rfl⟩
instance fld_53_0 : FldOff prog 53 0 0 := ⟨fun b o w => by kernel_rfl⟩
instance fld_53_1 : FldOff prog 53 1 1 := ⟨fun b o w => by kernel_rfl⟩
instance fld_53_2 : FldOff prog 53 2 2 := ⟨fun b o w => by kernel_rfl⟩
instance fld_53_3 : FldOff prog 53 3 3 := ⟨fun b o w => by kernel_rfl⟩
instance fld_53_4 : FldOff prog 53 4 35 := ⟨fun b o w => by kernel_rfl⟩
instance fld_53_5 : FldOff prog 53 5 67 := ⟨fun b o w => by kernel_rfl⟩
instance fld_53_6 : FldOff prog 53 6 99 := ⟨fun b o w => by kernel_rfl⟩
instance aggC_54 : AggC prog 54 100 := ⟨fun w => by kernel_rfl, by kernel_rfl⟩
instance zeroC_54 : ZeroC prog 54 (.agg #[(.int .i64 0), (.int .i64 0), (.int .i64 0), (.int .u8 0), (.int .u8 0), (.int .u8 0), (.int .u8 0), (.int .u8 0), (.int .u8 0), (.int .u8 0), (.int .u8 0), (.int .u8 0), (.int .u8 0), (.int .u8 0), (.int .u8 0), (.int .u8 0), (.int .u8 0), (.int .u8 0), (.int .u8 0), (.int .u8 0), (.int .u8 0), (.int .u8 0), (.int .u8 0), (.int .u8 0), (.int .u8 0), (.int .u8 0), (.int .u8 0), (.int .u8 0), (.int .u8 0), (.int .u8 0), (.int .u8 0), (.int .u8 0), (.int .u8 0), (.int .u8 0), (.int .u8 0), (.int .u8 0), (.int .u8 0), (.int .u8 0), (.int .u8 0), (.int .u8 0), (.int .u8 0), (.int .u8 0), (.int .u8 0), (.int .u8 0), (.int .u8 0), (.int .u8 0), (.int .u8 0), (.int .u8 0), (.int .u8 0), (.int .u8 0), (.int .u8 0), (.int .u8 0), (.int .u8 0), (.int .u8 0), (.int .u8 0), (.int .u8 0), (.int .u8 0), (.int .u8 0), (.int .u8 0), (.int .u8 0), (.int .u8 0), (.int .u8 0), (.int .u8 0), (.int .u8 0), (.int .u8 0), (.int .u8 0), (.int .u8 0), (.int .u8 0), (.int .u8 0), (.int .u8 0), (.int .u8 0), (.int .u8 0), (.int .u8 0), (.int .u8 0), (.int .u8 0), (.int .u8 0), (.int .u8 0), (.int .u8 0), (.int .u8 0), (.int .u8 0), (.int .u8 0), (.int .u8 0), (.int .u8 0), (.int .u8 0), (.int .u8 0), (.int .u8 0), (.int .u8 0), (.int .u8 0), (.int .u8 0), (.int .u8 0), (.int .u8 0), (.int .u8 0), (.int .u8 0), (.int .u8 0), (.int .u8 0), (.int .u8 0), (.int .u8 0), (.int .u8 0), (.int .u8 0), (.slice none 0 0)]) := ⟨by kernel_rfl⟩
instance fld_54_0 : FldOff prog 54 0 0 := ⟨fun b o w => by kernel_rfl⟩
instance fld_54_1 : FldOff prog 54 1 1 := ⟨fun b o w => by kernel_rfl⟩
instance fld_54_2 : FldOff prog 54 2 2 := ⟨fun b o w => by kernel_rfl⟩
instance fld_54_3 : FldOff prog 54 3 3 := ⟨fun b o w => by kernel_rfl⟩
instance fld_54_4 : FldOff prog 54 4 35 := ⟨fun b o w => by kernel_rfl⟩
instance fld_54_5 : FldOff prog 54 5 67 := ⟨fun b o w => by kernel_rfl⟩
instance fld_54_6 : FldOff prog 54 6 99 := ⟨fun b o w => by kernel_rfl⟩
instance aggC_55 : AggC prog 55 4 := ⟨fun w => by kernel_rfl, by kernel_rfl⟩
instance zeroC_55 : ZeroC prog 55 (.agg #[(.int .i64 0), (.int .i64 0), (.string ⟨#[]⟩), (.string ⟨#[]⟩)]) := ⟨by kernel_rfl⟩
instance fld_55_0 : FldOff prog 55 0 0 := ⟨fun b o w => by kernel_rfl⟩
instance fld_55_1 : FldOff prog 55 1 1 := ⟨fun b o w => by kernel_rfl⟩
instance fld_55_2 : FldOff prog 55 2 2 := ⟨fun b o w => by kernel_rfl⟩
instance fld_55_3 : FldOff prog 55 3 3 := ⟨fun b o w => by kernel_rfl⟩
instance aggC_56 : AggC prog 56 4 := ⟨fun w => by kernel_rfl, by kernel_rfl⟩
instance zeroC_56 : ZeroC prog 56 (.agg #[(.int .i64 0), (.int .i64 0), (.string ⟨#[]⟩), (.string ⟨#[]⟩)]) := ⟨by kernel_rfl⟩
instance fld_56_0 : FldOff prog 56 0 0 := ⟨fun b o w => by kernel_rfl⟩
instance fld_56_1 : FldOff prog 56 1 1 := ⟨fun b o w => by kernel_rfl⟩
instance fld_56_2 : FldOff prog 56 2 2 := ⟨fun b o w => by kernel_rfl⟩
instance fld_56_3 : FldOff prog 56 3 3 := ⟨fun b o w => by kernel_rfl⟩
instance oneC_67 : OneC prog 67 := ⟨fun w => by kernel_rfl, by kernel_rfl⟩
instance zeroC_67 : ZeroC prog 67 (.pointer none) := ⟨by kernel_rfl⟩
instance ul_67 : Ul prog 67 (.pointer 3) := ⟨by kernel_rfl⟩
instance oneC_69 : OneC prog 69 := ⟨fun w => by kernel_rfl, by kernel_rfl⟩
instance zeroC_69 : ZeroC prog 69 (.pointer none) := ⟨by kernel_rfl⟩
instance ul_69 : Ul prog 69 (.pointer 44) := ⟨by kernel_rfl⟩
instance oneC_74 : OneC prog 74 := ⟨fun w => by kernel_rfl, by kernel_rfl⟩
instance zeroC_74 : ZeroC prog 74 (.slice none 0 0) := ⟨by kernel_rfl⟩
instance sliceT_74 : SliceT prog 74 5 1 1 (.int .u8 0) := ⟨by kernel_rfl, by kernel_rfl, rfl, by decide⟩
instance ul_74 : Ul prog 74 (.slice 5) := ⟨by kernel_rfl⟩
instance oneC_85 : OneC prog 85 := ⟨fun w => by kernel_rfl, by kernel_rfl⟩
instance zeroC_85 : ZeroC prog 85 (.slice none 0 0) := ⟨by kernel_rfl⟩
instance sliceT_85 : SliceT prog 85 67 1 8 (.pointer none) := ⟨by kernel_rfl, by kernel_rfl, rfl, by decide⟩
instance ul_85 : Ul prog 85 (.slice 67) := ⟨by kernel_rfl⟩
instance oneC_94 : OneC prog 94 := ⟨fun w => by kernel_rfl, by kernel_rfl⟩
instance zeroC_94 : ZeroC prog 94 (.int .u64 0) := ⟨by kernel_rfl⟩
instance ul_94 : Ul prog 94 (.int .u64) := ⟨by kernel_rfl⟩
instance oneC_95 : OneC prog 95 := ⟨fun w => by kernel_rfl, by kernel_rfl⟩
instance zeroC_95 : ZeroC prog 95 .nilIface := ⟨by kernel_rfl⟩
instance oneC_96 : OneC prog 96 := ⟨fun w => by kernel_rfl, by kernel_rfl⟩
instance zeroC_96 : ZeroC prog 96 .nilIface := ⟨by kernel_rfl⟩
instance oneC_100 : OneC prog 100 := ⟨fun w => by kernel_rfl, by kernel_rfl⟩
instance zeroC_100 : ZeroC prog 100 (.int .u32 0) := ⟨by kernel_rfl⟩
instance ul_100 : Ul prog 100 (.int .u32) := ⟨by kernel_rfl⟩
instance oneC_101 : OneC prog 101 := ⟨fun w => by kernel_rfl, by kernel_rfl⟩
instance zeroC_101 : ZeroC prog 101 (.slice none 0 0) := ⟨by kernel_rfl⟩
instance sliceT_101 : SliceT prog 101 100 1 4 (.int .u32 0) := ⟨by kernel_rfl, by kernel_rfl, rfl, by decide⟩
instance ul_101 : Ul prog 101 (.slice 100) := ⟨by kernel_rfl⟩
instance oneC_103 : OneC prog 103 := ⟨fun w => by kernel_rfl, by kernel_rfl⟩
instance zeroC_103 : ZeroC prog 103 (.int .u64 0) := ⟨by kernel_rfl⟩
instance ul_103 : Ul prog 103 (.int .u64) := ⟨by kernel_rfl⟩
instance aggC_106 : AggC prog 106 256 := ⟨fun w => by kernel_rfl, by kernel_rfl⟩
instance zeroC_106 : ZeroC prog 106 (.agg #[(.bool false), (.bool false), (.bool false), (.bool false), (.bool false), (.bool false), (.bool false), (.bool false), (.bool false), (.bool false), (.bool false), (.bool false), (.bool false), (.bool false), (.bool false), (.bool false), (.bool false), (.bool false), (.bool false), (.bool false), (.bool false), (.bool false), (.bool false), (.bool false), (.bool false), (.bool false), (.bool false), (.bool false), (.bool false), (.bool false), (.bool false), (.bool false), (.bool false), (.bool false), (.bool false), (.bool false), (.bool false), (.bool false), (.bool false), (.bool false), (.bool false), (.bool false), (.bool false), (.bool false), (.bool false), (.bool false), (.bool false), (.bool false), (.bool false), (.bool false), (.bool false), (.bool false), (.bool false), (.bool false), (.bool false), (.bool false), (.bool false), (.bool false), (.bool false), (.bool false), (.bool false), (.bool false), (.bool false), (.bool false), (.bool false), (.bool false), (.bool false), (.bool false), (.bool false), (.bool false), (.bool false), (.bool false), (.bool false), (.bool false), (.bool false), (.bool false), (.bool false), (.bool false), (.bool false), (.bool false), (.bool false), (.bool false), (.bool false), (.bool false), (.bool false), (.bool false), (.bool false), (.bool false), (.bool false), (.bool false), (.bool false), (.bool false), (.bool false), (.bool false), (.bool false), (.bool false), (.bool false), (.bool false), (.bool false), (.bool false), (.bool false), (.bool false), (.bool false), (.bool false), (.bool false), (.bool false), (.bool false), (.bool false), (.bool false), (.bool false), (.bool false), (.bool false), (.bool false), (.bool false), (.bool false), (.bool false), (.bool false), (.bool false), (.bool false), (.bool false), (.bool false), (.bool false), (.bool false), (.bool false), (.bool false), (.bool false), (.bool false), (.bool false), (.bool false), (.bool false), (.bool false), (.bool false), (.bool false), (.bool false), (.bool false), (.bool false), (.bool false), (.bool false), (.bool false), (.bool false), (.bool false), (.bool false), (.bool false), (.bool false), (.bool false), (.bool false), (.bool false), (.bool false), (.bool false), (.bool false), (.bool false), (.bool false), (.bool false), (.bool false), (.bool false), (.bool false), (.bool false), (.bool false), (.bool false), (.bool false), (.bool false), (.bool false), (.bool false), (.bool false), (.bool false), (.bool false), (.bool false), (.bool false), (.bool false), (.bool false), (.bool false), (.bool false), (.bool false), (.bool false), (.bool false), (.bool false), (.bool false), (.bool false), (.bool false), (.bool false), (.bool false), (.bool false), (.bool false), (.bool false), (.bool false), (.bool false), (.bool false), (.bool false), (.bool false), (.bool false), (.bool false), (.bool false), (.bool false), (.bool false), (.bool false), (.bool false), (.bool false), (.bool false), (.bool false), (.bool false), (.bool false), (.bool false), (.bool false), (.bool false), (.bool false), (.bool false), (.bool false), (.bool false), (.bool false), (.bool false), (.bool false), (.bool false), (.bool false), (.bool false), (.bool false), (.bool false), (.bool false), (.bool false), (.bool false), (.bool false), (.bool false), (.bool false), (.bool false), (.bool false), (.bool false), (.bool false), (.bool false), (.bool false), (.bool false), (.bool false), (.bool false), (.bool false), (.bool false), (.bool false), (.bool false), (.bool false), (.bool false), (.bool false), (.bool false), (.bool false), (.bool false), (.bool false), (.bool false), (.bool false), (.bool false), (.bool false), (.bool false), (.bool false), (.bool false), (.bool false), (.bool false), (.bool false), (.bool false), (.bool false), (.bool false), (.bool false)]) := ⟨by kernel_rfl⟩
instance ul_106 : Ul prog 106 (.array 256 4) := ⟨by kernel_rfl⟩
instance aggC_107 : AggC prog 107 256 := ⟨fun w => by kernel_rfl, by kernel_rfl⟩
instance zeroC_107 : ZeroC prog 107 (.agg #[(.bool false), (.bool false), (.bool false), (.bool false), (.bool false), (.bool false), (.bool false), (.bool false), (.bool false), (.bool false), (.bool false), (.bool false), (.bool false), (.bool false), (.bool false), (.bool false), (.bool false), (.bool false), (.bool false), (.bool false), (.bool false), (.bool false), (.bool false), (.bool false), (.bool false), (.bool false), (.bool false), (.bool false), (.bool false), (.bool false), (.bool false), (.bool false), (.bool false), (.bool false), (.bool false), (.bool false), (.bool false), (.bool false), (.bool false), (.bool false), (.bool false), (.bool false), (.bool false), (.bool false), (.bool false), (.bool false), (.bool false), (.bool false), (.bool false), (.bool false), (.bool false), (.bool false), (.bool false), (.bool false), (.bool false), (.bool false), (.bool false), (.bool false), (.bool false), (.bool false), (.bool false), (.bool false), (.bool false), (.bool false), (.bool false), (.bool false), (.bool false), (.bool false), (.bool false), (.bool false), (.bool false), (.bool false), (.bool false), (.bool false), (.bool false), (.bool false), (.bool false), (.bool false), (.bool false), (.bool false), (.bool false), (.bool false), (.bool false), (.bool false), (.bool false), (.bool false), (.bool false), (.bool false), (.bool false), (.bool false), (.bool false), (.bool false), (.bool false), (.bool false), (.bool false), (.bool false), (.bool false), (.bool false), (.bool false), (.bool false), (.bool false), (.bool false), (.bool false), (.bool false), (.bool false), (.bool false), (.bool false), (.bool false), (.bool false), (.bool false), (.bool false), (.bool false), (.bool false), (.bool false), (.bool false), (.bool false), (.bool false), (.bool false), (.bool false), (.bool false), (.bool false), (.bool false), (.bool false), (.bool false), (.bool false), (.bool false), (.bool false), (.bool false), (.bool false), (.bool false), (.bool false), (.bool false), (.bool false), (.bool false), (.bool false), (.bool false), (.bool false), (.bool false), (.bool false), (.bool false), (.bool false), (.bool false), (.bool false), (.bool false), (.bool false), (.bool false), (.bool false), (.bool false), (.bool false), (.bool false), (.bool false), (.bool false), (.bool false), (.bool false), (.bool false), (.bool false), (.bool false), (.bool false), (.bool false), (.bool false), (.bool false), (.bool false), (.bool false), (.bool false), (.bool false), (.bool false), (.bool false), (.bool false), (.bool false), (.bool false), (.bool false), (.bool false), (.bool false), (.bool false), (.bool false), (.bool false), (.bool false), (.bool false), (.bool false), (.bool false), (.bool false), (.bool false), (.bool false), (.bool false), (.bool false), (.bool false), (.bool false), (.bool false), (.bool false), (.bool false), (.bool false), (.bool false), (.bool false), (.bool false), (.bool false), (.bool false), (.bool false), (.bool false), (.bool false), (.bool false), (.bool false), (.bool false), (.bool false), (.bool false), (.bool false), (.bool false), (.bool false), (.bool false), (.bool false), (.bool false), (.bool false), (.bool false), (.bool false), (.bool false), (.bool false), (.bool false), (.bool false), (.bool false), (.bool false), (.bool false), (.bool false), (.bool false), (.bool false), (.bool false), (.bool false), (.bool false), (.bool false), (.bool false), (.bool false), (.bool false), (.bool false), (.bool false), (.bool false), (.bool false), (.bool false), (.bool false), (.bool false), (.bool false), (.bool false), (.bool false), (.bool false), (.bool false), (.bool false), (.bool false), (.bool false), (.bool false), (.bool false), (.bool false), (.bool false), (.bool false), (.bool false), (.bool false), (.bool false), (.bool false), (.bool false), (.bool false)]) := ⟨by kernel_rfl⟩
instance ul_107 : Ul prog 107 (.array 256 4) := ⟨by kernel_rfl⟩
instance oneC_111 : OneC prog 111 := ⟨fun w => by kernel_rfl, by kernel_rfl⟩
instance zeroC_111 : ZeroC prog 111 (.pointer none) := ⟨by kernel_rfl⟩
instance ul_111 : Ul prog 111 (.pointer 107) := ⟨by kernel_rfl⟩
instance aggC_113 : AggC prog 113 8 := ⟨fun w => by kernel_rfl, by kernel_rfl⟩
instance zeroC_113 : ZeroC prog 113 (.agg #[(.int .u32 0), (.int .u32 0), (.int .u32 0), (.int .u32 0), (.int .u32 0), (.int .u32 0), (.int .u32 0), (.int .u32 0)]) := ⟨by kernel_rfl⟩
instance ul_113 : Ul prog 113 (.array 8 100) := ⟨by kernel_rfl⟩
instance aggC_114 : AggC prog 114 8 := ⟨fun w => by kernel_rfl, by kernel_rfl⟩
instance zeroC_114 : ZeroC prog 114 (.agg #[(.int .u32 0), (.int .u32 0), (.int .u32 0), (.int .u32 0), (.int .u32 0), (.int .u32 0), (.int .u32 0), (.int .u32 0)]) := ⟨by kernel_rfl⟩
instance ul_114 : Ul prog 114 (.array 8 100) := ⟨by kernel_rfl⟩
instance oneC_115 : OneC prog 115 := ⟨fun w => by kernel_rfl, by kernel_rfl⟩
instance zeroC_115 : ZeroC prog 115 (.pointer none) := ⟨by kernel_rfl⟩
instance ul_115 : Ul prog 115 (.pointer 134) := ⟨by kernel_rfl⟩
instance oneC_123 : OneC prog 123 := ⟨fun w => by kernel_rfl, by kernel_rfl⟩
instance zeroC_123 : ZeroC prog 123 (.int .i64 0) := ⟨by kernel_rfl⟩
instance ul_123 : Ul prog 123 (.int .i64) := ⟨by kernel_rfl⟩
instance oneC_126 : OneC prog 126 := ⟨fun w => by kernel_rfl, by kernel_rfl⟩
instance zeroC_126 : ZeroC prog 126 (.pointer none) := ⟨by kernel_rfl⟩
instance ul_126 : Ul prog 126 (.pointer 138) := ⟨by kernel_rfl⟩
instance aggC_129 : AggC prog 129 24 := ⟨fun w => by kernel_rfl, by kernel_rfl⟩
instance zeroC_129 : ZeroC prog 129 (.agg #[(.int .u8 0), (.int .u8 0), (.int .u8 0), (.int .u8 0), (.int .u8 0), (.int .u8 0), (.int .u8 0), (.int .u8 0), (.int .u8 0), (.int .u8 0), (.int .u8 0), (.int .u8 0), (.int .u8 0), (.int .u8 0), (.int .u8 0), (.int .u8 0), (.int .u8 0), (.int .u8 0), (.int .u8 0), (.int .u8 0), (.int .u8 0), (.int .u8 0), (.int .u8 0), (.int .u8 0)]) := ⟨by kernel_rfl⟩
instance ul_129 : Ul prog 129 (.array 24 5) := ⟨by kernel_rfl⟩
instance aggC_134 : AggC prog 134 64 := ⟨fun w => by kernel_rfl, by kernel_rfl⟩
instance zeroC_134 : ZeroC prog 134 (.agg #[(.int .u32 0), (.int .u32 0), (.int .u32 0), (.int .u32 0), (.int .u32 0), (.int .u32 0), (.int .u32 0), (.int .u32 0), (.int .u32 0), (.int .u32 0), (.int .u32 0), (.int .u32 0), (.int .u32 0), (.int .u32 0), (.int .u32 0), (.int .u32 0), (.int .u32 0), (.int .u32 0), (.int .u32 0), (.int .u32 0), (.int .u32 0), (.int .u32 0), (.int .u32 0), (.int .u32 0), (.int .u32 0), (.int .u32 0), (.int .u32 0), (.int .u32 0), (.int .u32 0), (.int .u32 0), (.int .u32 0), (.int .u32 0), (.int .u32 0), (.int .u32 0), (.int .u32 0), (.int .u32 0), (.int .u32 0), (.int .u32 0), (.int .u32 0), (.int .u32 0), (.int .u32 0), (.int .u32 0), (.int .u32 0), (.int .u32 0), (.int .u32 0), (.int .u32 0), (.int .u32 0), (.int .u32 0), (.int .u32 0), (.int .u32 0), (.int .u32 0), (.int .u32 0), (.int .u32 0), (.int .u32 0), (.int .u32 0), (.int .u32 0), (.int .u32 0), (.int .u32 0), (.int .u32 0), (.int .u32 0), (.int .u32 0), (.int .u32 0), (.int .u32 0), (.int .u32 0)]) := ⟨by kernel_rfl⟩
instance ul_134 : Ul prog 134 (.array 64 100) := ⟨by kernel_rfl⟩
instance aggC_137 : AggC prog 137 3 := ⟨fun w => by kernel_rfl, by kernel_rfl⟩
instance zeroC_137 : ZeroC prog 137 (.agg #[(.string ⟨#[]⟩), (.string ⟨#[]⟩), .nilIface]) := ⟨by kernel_rfl⟩
instance fld_137_0 : FldOff prog 137 0 0 := ⟨fun b o w => by kernel_rfl⟩
instance fld_137_1 : FldOff prog 137 1 1 := ⟨fun b o w => by kernel_rfl⟩
instance fld_137_2 : FldOff prog 137 2 2 := ⟨fun b o w => by kernel_rfl⟩
instance aggC_138 : AggC prog 138 3 := ⟨fun w => by kernel_rfl, by kernel_rfl⟩
instance zeroC_138 : ZeroC prog 138 (.agg #[(.string ⟨#[]⟩), (.string ⟨#[]⟩), .nilIface]) := ⟨by kernel_rfl⟩
instance fld_138_0 : FldOff prog 138 0 0 := ⟨fun b o w => by kernel_rfl⟩
instance fld_138_1 : FldOff prog 138 1 1 := ⟨fun b o w => by kernel_rfl⟩
instance fld_138_2 : FldOff prog 138 2 2 := ⟨fun b o w => by kernel_rfl⟩
instance aggC_142 : AggC prog 142 20 := ⟨fun w => by kernel_rfl, by kernel_rfl⟩
instance zeroC_142 : ZeroC prog 142 (.agg #[(.int .u64 0), (.int .u64 0), (.int .u64 0), (.int .u64 0), (.int .u64 0), (.int .u64 0), (.int .u64 0), (.int .u64 0), (.int .u64 0), (.int .u64 0), (.int .u64 0), (.int .u64 0), (.int .u64 0), (.int .u64 0), (.int .u64 0), (.int .u64 0), (.int .u64 0), (.int .u64 0), (.int .u64 0), (.int .u64 0)]) := ⟨by kernel_rfl⟩
instance ul_142 : Ul prog 142 (.array 20 94) := ⟨by kernel_rfl⟩
instance aggC_143 : AggC prog 143 65 := ⟨fun w => by kernel_rfl, by kernel_rfl⟩
instance zeroC_143 : ZeroC prog 143 (.agg #[(.int .u8 0), (.int .u8 0), (.int .u8 0), (.int .u8 0), (.int .u8 0), (.int .u8 0), (.int .u8 0), (.int .u8 0), (.int .u8 0), (.int .u8 0), (.int .u8 0), (.int .u8 0), (.int .u8 0), (.int .u8 0), (.int .u8 0), (.int .u8 0), (.int .u8 0), (.int .u8 0), (.int .u8 0), (.int .u8 0), (.int .u8 0), (.int .u8 0), (.int .u8 0), (.int .u8 0), (.int .u8 0), (.int .u8 0), (.int .u8 0), (.int .u8 0), (.int .u8 0), (.int .u8 0), (.int .u8 0), (.int .u8 0), (.int .u8 0), (.int .u8 0), (.int .u8 0), (.int .u8 0), (.int .u8 0), (.int .u8 0), (.int .u8 0), (.int .u8 0), (.int .u8 0), (.int .u8 0), (.int .u8 0), (.int .u8 0), (.int .u8 0), (.int .u8 0), (.int .u8 0), (.int .u8 0), (.int .u8 0), (.int .u8 0), (.int .u8 0), (.int .u8 0), (.int .u8 0), (.int .u8 0), (.int .u8 0), (.int .u8 0), (.int .u8 0), (.int .u8 0), (.int .u8 0), (.int .u8 0), (.int .u8 0), (.int .u8 0), (.int .u8 0), (.int .u8 0), (.int .u8 0)]) := ⟨by kernel_rfl⟩
instance ul_143 : Ul prog 143 (.array 65 5) := ⟨by kernel_rfl⟩
instance aggC_146 : AggC prog 146 256 := ⟨fun w => by kernel_rfl, by kernel_rfl⟩
instance zeroC_146 : ZeroC prog 146 (.agg #[(.int .u8 0), (.int .u8 0), (.int .u8 0), (.int .u8 0), (.int .u8 0), (.int .u8 0), (.int .u8 0), (.int .u8 0), (.int .u8 0), (.int .u8 0), (.int .u8 0), (.int .u8 0), (.int .u8 0), (.int .u8 0), (.int .u8 0), (.int .u8 0), (.int .u8 0), (.int .u8 0), (.int .u8 0), (.int .u8 0), (.int .u8 0), (.int .u8 0), (.int .u8 0), (.int .u8 0), (.int .u8 0), (.int .u8 0), (.int .u8 0), (.int .u8 0), (.int .u8 0), (.int .u8 0), (.int .u8 0), (.int .u8 0), (.int .u8 0), (.int .u8 0), (.int .u8 0), (.int .u8 0), (.int .u8 0), (.int .u8 0), (.int .u8 0), (.int .u8 0), (.int .u8 0), (.int .u8 0), (.int .u8 0), (.int .u8 0), (.int .u8 0), (.int .u8 0), (.int .u8 0), (.int .u8 0), (.int .u8 0), (.int .u8 0), (.int .u8 0), (.int .u8 0), (.int .u8 0), (.int .u8 0), (.int .u8 0), (.int .u8 0), (.int .u8 0), (.int .u8 0), (.int .u8 0), (.int .u8 0), (.int .u8 0), (.int .u8 0), (.int .u8 0), (.int .u8 0), (.int .u8 0), (.int .u8 0), (.int .u8 0), (.int .u8 0), (.int .u8 0), (.int .u8 0), (.int .u8 0), (.int .u8 0), (.int .u8 0), (.int .u8 0), (.int .u8 0), (.int .u8 0), (.int .u8 0), (.int .u8 0), (.int .u8 0), (.int .u8 0), (.int .u8 0), (.int .u8 0), (.int .u8 0), (.int .u8 0), (.int .u8 0), (.int .u8 0), (.int .u8 0), (.int .u8 0), (.int .u8 0), (.int .u8 0), (.int .u8 0), (.int .u8 0), (.int .u8 0), (.int .u8 0), (.int .u8 0), (.int .u8 0), (.int .u8 0), (.int .u8 0), (.int .u8 0), (.int .u8 0), (.int .u8 0), (.int .u8 0), (.int .u8 0), (.int .u8 0), (.int .u8 0), (.int .u8 0), (.int .u8 0), (.int .u8 0), (.int .u8 0), (.int .u8 0), (.int .u8 0), (.int .u8 0), (.int .u8 0), (.int .u8 0), (.int .u8 0), (.int .u8 0), (.int .u8 0), (.int .u8 0), (.int .u8 0), (.int .u8 0), (.int .u8 0), (.int .u8 0), (.int .u8 0), (.int .u8 0), (.int .u8 0), (.int .u8 0), (.int .u8 0), (.int .u8 0), (.int .u8 0), (.int .u8 0), (.int .u8 0), (.int .u8 0), (.int .u8 0), (.int .u8 0), (.int .u8 0), (.int .u8 0), (.int .u8 0), (.int .u8 0), (.int .u8 0), (.int .u8 0), (.int .u8 0), (.int .u8 0), (.int .u8 0), (.int .u8 0), (.int .u8 0), (.int .u8 0), (.int .u8 0), (.int .u8 0), (.int .u8 0), (.int .u8 0), (.int .u8 0), (.int .u8 0), (.int .u8 0), (.int .u8 0), (.int .u8 0), (.int .u8 0), (.int .u8 0), (.int .u8 0), (.int .u8 0), (.int .u8 0), (.int .u8 0), (.int .u8 0), (.int .u8 0), (.int .u8 0), (.int .u8 0), (.int .u8 0), (.int .u8 0), (.int .u8 0), (.int .u8 0), (.int .u8 0), (.int .u8 0), (.int .u8 0), (.int .u8 0), (.int .u8 0), (.int .u8 0), (.int .u8 0), (.int .u8 0), (.int .u8 0), (.int .u8 0), (.int .u8 0), (.int .u8 0), (.int .u8 0), (.int .u8 0), (.int .u8 0), (.int .u8 0), (.int .u8 0), (.int .u8 0), (.int .u8 0), (.int .u8 0), (.int .u8 0), (.int .u8 0), (.int .u8 0), (.int .u8 0), (.int .u8 0), (.int .u8 0), (.int .u8 0), (.int .u8 0), (.int .u8 0), (.int .u8 0), (.int .u8 0), (.int .u8 0), (.int .u8 0), (.int .u8 0), (.int .u8 0), (.int .u8 0), (.int .u8 0), (.int .u8 0), (.int .u8 0), (.int .u8 0), (.int .u8 0), (.int .u8 0), (.int .u8 0), (.int .u8 0), (.int .u8 0), (.int .u8 0), (.int .u8 0), (.int .u8 0), (.int .u8 0), (.int .u8 0), (.int .u8 0), (.int .u8 0), (.int .u8 0), (.int .u8 0), (.int .u8 0), (.int .u8 0), (.int .u8 0), (.int .u8 0), (.int .u8 0), (.int .u8 0), (.int .u8 0), (.int .u8 0), (.int .u8 0), (.int .u8 0), (.int .u8 0), (.int .u8 0), (.int .u8 0), (.int .u8 0), (.int .u8 0), (.int .u8 0), (.int .u8 0), (.int .u8 0), (.int .u8 0), (.int .u8 0), (.int .u8 0), (.int .u8 0), (.int .u8 0), (.int .u8 0), (.int .u8 0), (.int .u8 0), (.int .u8 0), (.int .u8 0), (.int .u8 0), (.int .u8 0), (.int .u8 0), (.int .u8 0), (.int .u8 0)]) := ⟨by kernel_rfl⟩
instance ul_146 : Ul prog 146 (.array 256 5) := ⟨by kernel_rfl⟩
instance aggC_147 : AggC prog 147 2 := ⟨fun w => by kernel_rfl, by kernel_rfl⟩
instance zeroC_147 : ZeroC prog 147 (.agg #[(.int .u8 0), (.int .u8 0)]) := ⟨by kernel_rfl⟩
instance fld_147_0 : FldOff prog 147 0 0 := ⟨fun b o w => by kernel_rfl⟩
instance fld_147_1 : FldOff prog 147 1 1 := ⟨fun b o w => by kernel_rfl⟩
instance aggC_148 : AggC prog 148 2 := ⟨fun w => by kernel_rfl, by kernel_rfl⟩
instance zeroC_148 : ZeroC prog 148 (.agg #[(.int .u8 0), (.int .u8 0)]) := ⟨by kernel_rfl⟩
instance fld_148_0 : FldOff prog 148 0 0 := ⟨fun b o w => by kernel_rfl⟩
instance fld_148_1 : FldOff prog 148 1 1 := ⟨fun b o w => by kernel_rfl⟩
instance aggC_149 : AggC prog 149 32 := ⟨fun w => by kernel_rfl, by kernel_rfl⟩
instance zeroC_149 : ZeroC prog 149 (.agg #[(.int .u8 0), (.int .u8 0), (.int .u8 0), (.int .u8 0), (.int .u8 0), (.int .u8 0), (.int .u8 0), (.int .u8 0), (.int .u8 0), (.int .u8 0), (.int .u8 0), (.int .u8 0), (.int .u8 0), (.int .u8 0), (.int .u8 0), (.int .u8 0), (.int .u8 0), (.int .u8 0), (.int .u8 0), (.int .u8 0), (.int .u8 0), (.int .u8 0), (.int .u8 0), (.int .u8 0), (.int .u8 0), (.int .u8 0), (.int .u8 0), (.int .u8 0), (.int .u8 0), (.int .u8 0), (.int .u8 0), (.int .u8 0)]) := ⟨by kernel_rfl⟩
instance ul_149 : Ul prog 149 (.array 16 148) := ⟨by kernel_rfl⟩
instance oneC_153 : OneC prog 153 := ⟨fun w => by kernel_rfl, by kernel_rfl⟩
instance zeroC_153 : ZeroC prog 153 (.pointer none) := ⟨by kernel_rfl⟩
instance ul_153 : Ul prog 153 (.pointer 5) := ⟨by kernel_rfl⟩
instance oneC_154 : OneC prog 154 := ⟨fun w => by kernel_rfl, by kernel_rfl⟩
instance zeroC_154 : ZeroC prog 154 (.pointer none) := ⟨by kernel_rfl⟩
instance ul_154 : Ul prog 154 (.pointer 156) := ⟨by kernel_rfl⟩
instance aggC_155 : AggC prog 155 1 := ⟨fun w => by kernel_rfl, by kernel_rfl⟩
instance zeroC_155 : ZeroC prog 155 (.agg #[(.string ⟨#[]⟩)]) := ⟨by kernel_rfl⟩
instance fld_155_0 : FldOff prog 155 0 0 := ⟨fun b o w => by kernel_rfl⟩
instance aggC_156 : AggC prog 156 1 := ⟨fun w => by kernel_rfl, by kernel_rfl⟩
instance zeroC_156 : ZeroC prog 156 (.agg #[(.string ⟨#[]⟩)]) := ⟨by kernel_rfl⟩
instance fld_156_0 : FldOff prog 156 0 0 := ⟨fun b o w => by kernel_rfl⟩
instance aggC_158 : AggC prog 158 64 := ⟨fun w => by kernel_rfl, by kernel_rfl⟩
instance zeroC_158 : ZeroC prog 158 (.agg #[(.int .u8 0), (.int .u8 0), (.int .u8 0), (.int .u8 0), (.int .u8 0), (.int .u8 0), (.int .u8 0), (.int .u8 0), (.int .u8 0), (.int .u8 0), (.int .u8 0), (.int .u8 0), (.int .u8 0), (.int .u8 0), (.int .u8 0), (.int .u8 0), (.int .u8 0), (.int .u8 0), (.int .u8 0), (.int .u8 0), (.int .u8 0), (.int .u8 0), (.int .u8 0), (.int .u8 0), (.int .u8 0), (.int .u8 0), (.int .u8 0), (.int .u8 0), (.int .u8 0), (.int .u8 0), (.int .u8 0), (.int .u8 0), (.int .u8 0), (.int .u8 0), (.int .u8 0), (.int .u8 0), (.int .u8 0), (.int .u8 0), (.int .u8 0), (.int .u8 0), (.int .u8 0), (.int .u8 0), (.int .u8 0), (.int .u8 0), (.int .u8 0), (.int .u8 0), (.int .u8 0), (.int .u8 0), (.int .u8 0), (.int .u8 0), (.int .u8 0), (.int .u8 0), (.int .u8 0), (.int .u8 0), (.int .u8 0), (.int .u8 0), (.int .u8 0), (.int .u8 0), (.int .u8 0), (.int .u8 0), (.int .u8 0), (.int .u8 0), (.int .u8 0), (.int .u8 0)]) := ⟨by kernel_rfl⟩
instance ul_158 : Ul prog 158 (.array 64 5) := ⟨by kernel_rfl⟩
instance aggC_160 : AggC prog 160 4 := ⟨fun w => by kernel_rfl, by kernel_rfl⟩
instance zeroC_160 : ZeroC prog 160 (.agg #[(.pointer none), (.pointer none), (.pointer none), (.string ⟨#[]⟩)]) := ⟨by kernel_rfl⟩
instance fld_160_0 : FldOff prog 160 0 0 := ⟨fun b o w => by kernel_rfl⟩
instance fld_160_1 : FldOff prog 160 1 1 := ⟨fun b o w => by kernel_rfl⟩
instance fld_160_2 : FldOff prog 160 2 2 := ⟨fun b o w => by kernel_rfl⟩
instance fld_160_3 : FldOff prog 160 3 3 := ⟨fun b o w => by kernel_rfl⟩
instance aggC_161 : AggC prog 161 4 := ⟨fun w => by kernel_rfl, by kernel_rfl⟩
instance zeroC_161 : ZeroC prog 161 (.agg #[(.pointer none), (.pointer none), (.pointer none), (.string ⟨#[]⟩)]) := ⟨by kernel_rfl⟩
instance fld_161_0 : FldOff prog 161 0 0 := ⟨fun b o w => by kernel_rfl⟩
instance fld_161_1 : FldOff prog 161 1 1 := ⟨fun b o w => by kernel_rfl⟩
instance fld_161_2 : FldOff prog 161 2 2 := ⟨fun b o w => by kernel_rfl⟩
instance fld_161_3 : FldOff prog 161 3 3 := ⟨fun b o w => by kernel_rfl⟩
instance aggC_162 : AggC prog 162 0 := ⟨fun w => by kernel_rfl, by kernel_rfl⟩
instance zeroC_162 : ZeroC prog 162 (.agg #[]) := ⟨by kernel_rfl⟩
instance ul_162 : Ul prog 162 (.array 0 16) := ⟨by kernel_rfl⟩
instance aggC_163 : AggC prog 163 0 := ⟨fun w => by kernel_rfl, by kernel_rfl⟩
instance zeroC_163 : ZeroC prog 163 (.agg #[]) := ⟨by kernel_rfl⟩
instance aggC_164 : AggC prog 164 0 := ⟨fun w => by kernel_rfl, by kernel_rfl⟩
instance zeroC_164 : ZeroC prog 164 (.agg #[]) := ⟨by kernel_rfl⟩
instance oneC_165 : OneC prog 165 := ⟨fun w => by kernel_rfl, by kernel_rfl⟩
instance zeroC_165 : ZeroC prog 165 (.int .u8 0) := ⟨by kernel_rfl⟩
instance ul_165 : Ul prog 165 (.int .u8) := ⟨by kernel_rfl⟩
instance oneC_166 : OneC prog 166 := ⟨fun w => by kernel_rfl, by kernel_rfl⟩
instance zeroC_166 : ZeroC prog 166 (.int .u8 0) := ⟨by kernel_rfl⟩
instance ul_166 : Ul prog 166 (.int .u8) := ⟨by kernel_rfl⟩
instance oneC_168 : OneC prog 168 := ⟨fun w => by kernel_rfl, by kernel_rfl⟩
instance zeroC_168 : ZeroC prog 168 (.int .i32 0) := ⟨by kernel_rfl⟩
instance ul_168 : Ul prog 168 (.int .i32) := ⟨by kernel_rfl⟩
instance oneC_169 : OneC prog 169 := ⟨fun w => by kernel_rfl, by kernel_rfl⟩
instance zeroC_169 : ZeroC prog 169 (.int .i32 0) := ⟨by kernel_rfl⟩
instance ul_169 : Ul prog 169 (.int .i32) := ⟨by kernel_rfl⟩
instance aggC_170 : AggC prog 170 11 := ⟨fun w => by kernel_rfl, by kernel_rfl⟩
instance zeroC_170 : ZeroC prog 170 (.agg #[(.int .u64 0), (.int .u64 0), (.int .u32 0), (.int .u8 0), (.int .u8 0), (.int .u8 0), (.int .u8 0), .nilFunc, (.pointer none), (.int .i32 0), (.int .i32 0)]) := ⟨by kernel_rfl⟩
instance fld_170_0 : FldOff prog 170 0 0 := ⟨fun b o w => by kernel_rfl⟩
instance fld_170_1 : FldOff prog 170 1 1 := ⟨fun b o w => by kernel_rfl⟩
instance fld_170_2 : FldOff prog 170 2 2 := ⟨fun b o w => by kernel_rfl⟩
instance fld_170_3 : FldOff prog 170 3 3 := ⟨fun b o w => by kernel_rfl⟩
instance fld_170_4 : FldOff prog 170 4 4 := ⟨fun b o w => by kernel_rfl⟩
instance fld_170_5 : FldOff prog 170 5 5 := ⟨fun b o w => by kernel_rfl⟩
instance fld_170_6 : FldOff prog 170 6 6 := ⟨fun b o w => by kernel_rfl⟩
instance fld_170_7 : FldOff prog 170 7 7 := ⟨fun b o w => by kernel_rfl⟩
instance fld_170_8 : FldOff prog 170 8 8 := ⟨fun b o w => by kernel_rfl⟩
instance fld_170_9 : FldOff prog 170 9 9 := ⟨fun b o w => by kernel_rfl⟩
instance fld_170_10 : FldOff prog 170 10 10 := ⟨fun b o w => by kernel_rfl⟩
instance aggC_171 : AggC prog 171 11 := ⟨fun w => by kernel_rfl, by kernel_rfl⟩
instance zeroC_171 : ZeroC prog 171 (.agg #[(.int .u64 0), (.int .u64 0), (.int .u32 0), (.int .u8 0), (.int .u8 0), (.int .u8 0), (.int .u8 0), .nilFunc, (.pointer none), (.int .i32 0), (.int .i32 0)]) := ⟨by kernel_rfl⟩
instance fld_171_0 : FldOff prog 171 0 0 := ⟨fun b o w => by kernel_rfl⟩
instance fld_171_1 : FldOff prog 171 1 1 := ⟨fun b o w => by kernel_rfl⟩
instance fld_171_2 : FldOff prog 171 2 2 := ⟨fun b o w => by kernel_rfl⟩
instance fld_171_3 : FldOff prog 171 3 3 := ⟨fun b o w => by kernel_rfl⟩
instance fld_171_4 : FldOff prog 171 4 4 := ⟨fun b o w => by kernel_rfl⟩
instance fld_171_5 : FldOff prog 171 5 5 := ⟨fun b o w => by kernel_rfl⟩
instance fld_171_6 : FldOff prog 171 6 6 := ⟨fun b o w => by kernel_rfl⟩
instance fld_171_7 : FldOff prog 171 7 7 := ⟨fun b o w => by kernel_rfl⟩
instance fld_171_8 : FldOff prog 171 8 8 := ⟨fun b o w => by kernel_rfl⟩
instance fld_171_9 : FldOff prog 171 9 9 := ⟨fun b o w => by kernel_rfl⟩
instance fld_171_10 : FldOff prog 171 10 10 := ⟨fun b o w => by kernel_rfl⟩
instance oneC_172 : OneC prog 172 := ⟨fun w => by kernel_rfl, by kernel_rfl⟩
instance zeroC_172 : ZeroC prog 172 (.pointer none) := ⟨by kernel_rfl⟩

end Go.Proofs.YtjeiojibnmfibaaGreatDoor
