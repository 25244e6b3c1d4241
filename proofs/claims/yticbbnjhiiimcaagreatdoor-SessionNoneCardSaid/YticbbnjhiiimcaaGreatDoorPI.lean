import Derived.Test.YticbbnjhiiimcaaGreatDoorProg
import Derived.Test.YticbbnjhiiimcaaGreatDoorVc
import Derived.KernelRfl
set_option linter.all false
set_option maxRecDepth 100000
namespace Go.Proofs.YticbbnjhiiimcaaGreatDoor
open Go Hold
noncomputable abbrev prog : Program := Tryz.prog
instance oneC_2 : OneC prog 2 := ⟨fun w => by kernel_rfl, by kernel_rfl⟩
instance zeroC_2 : ZeroC prog 2 (.int .i64 0) := ⟨by kernel_rfl⟩
instance ul_2 : Ul prog 2 (.int .i64) := ⟨by kernel_rfl⟩
instance oneC_3 : OneC prog 3 := ⟨fun w => by kernel_rfl, by kernel_rfl⟩
instance zeroC_3 : ZeroC prog 3 (.int .i64 0) := ⟨by kernel_rfl⟩
instance ul_3 : Ul prog 3 (.int .i64) := ⟨by kernel_rfl⟩
instance oneC_4 : OneC prog 4 := ⟨fun w => by kernel_rfl, by kernel_rfl⟩
instance zeroC_4 : ZeroC prog 4 (.bool false) := ⟨by kernel_rfl⟩
instance ul_4 : Ul prog 4 .bool := ⟨by kernel_rfl⟩
instance oneC_5 : OneC prog 5 := ⟨fun w => by kernel_rfl, by kernel_rfl⟩
instance zeroC_5 : ZeroC prog 5 (.int .u8 0) := ⟨by kernel_rfl⟩
instance ul_5 : Ul prog 5 (.int .u8) := ⟨by kernel_rfl⟩
instance oneC_6 : OneC prog 6 := ⟨fun w => by kernel_rfl, by kernel_rfl⟩
instance zeroC_6 : ZeroC prog 6 (.int .u8 0) := ⟨by kernel_rfl⟩
instance ul_6 : Ul prog 6 (.int .u8) := ⟨by kernel_rfl⟩
instance aggC_7 : AggC prog 7 4 := ⟨fun w => by kernel_rfl, by kernel_rfl⟩
instance zeroC_7 : ZeroC prog 7 (.agg #[(.int .i64 0), (.int .i64 0), (.bool false), (.int .u8 0)]) := ⟨by kernel_rfl⟩
instance fld_7_0 : FldOff prog 7 0 0 := ⟨fun b o w => by kernel_rfl⟩
instance fld_7_1 : FldOff prog 7 1 1 := ⟨fun b o w => by kernel_rfl⟩
instance fld_7_2 : FldOff prog 7 2 2 := ⟨fun b o w => by kernel_rfl⟩
instance fld_7_3 : FldOff prog 7 3 3 := ⟨fun b o w => by kernel_rfl⟩
instance aggC_8 : AggC prog 8 4 := ⟨fun w => by kernel_rfl, by kernel_rfl⟩
instance zeroC_8 : ZeroC prog 8 (.agg #[(.int .i64 0), (.int .i64 0), (.bool false), (.int .u8 0)]) := ⟨by kernel_rfl⟩
instance fld_8_0 : FldOff prog 8 0 0 := ⟨fun b o w => by kernel_rfl⟩
instance fld_8_1 : FldOff prog 8 1 1 := ⟨fun b o w => by kernel_rfl⟩
instance fld_8_2 : FldOff prog 8 2 2 := ⟨fun b o w => by kernel_rfl⟩
instance fld_8_3 : FldOff prog 8 3 3 := ⟨fun b o w => by kernel_rfl⟩
instance oneC_9 : OneC prog 9 := ⟨fun w => by kernel_rfl, by kernel_rfl⟩
instance zeroC_9 : ZeroC prog 9 (.string ⟨#[]⟩) := ⟨by kernel_rfl⟩
instance ul_9 : Ul prog 9 .string := ⟨by kernel_rfl⟩
instance oneC_10 : OneC prog 10 := ⟨fun w => by kernel_rfl, by kernel_rfl⟩
instance zeroC_10 : ZeroC prog 10 (.string ⟨#[]⟩) := ⟨by kernel_rfl⟩
instance ul_10 : Ul prog 10 .string := ⟨by kernel_rfl⟩
instance oneC_11 : OneC prog 11 := ⟨fun w => by kernel_rfl, by kernel_rfl⟩
instance zeroC_11 : ZeroC prog 11 (.string ⟨#[]⟩) := ⟨by kernel_rfl⟩
instance ul_11 : Ul prog 11 .string := ⟨by kernel_rfl⟩
instance oneC_12 : OneC prog 12 := ⟨fun w => by kernel_rfl, by kernel_rfl⟩
instance zeroC_12 : ZeroC prog 12 (.int .u64 0) := ⟨by kernel_rfl⟩
instance ul_12 : Ul prog 12 (.int .u64) := ⟨by kernel_rfl⟩
instance aggC_13 : AggC prog 13 2 := ⟨fun w => by kernel_rfl, by kernel_rfl⟩
instance zeroC_13 : ZeroC prog 13 (.agg #[(.string ⟨#[]⟩), (.int .u64 0)]) := ⟨by kernel_rfl⟩
instance fld_13_0 : FldOff prog 13 0 0 := ⟨fun b o w => by kernel_rfl⟩
instance fld_13_1 : FldOff prog 13 1 1 := ⟨fun b o w => by kernel_rfl⟩
instance aggC_14 : AggC prog 14 2 := ⟨fun w => by kernel_rfl, by kernel_rfl⟩
instance zeroC_14 : ZeroC prog 14 (.agg #[(.string ⟨#[]⟩), (.int .u64 0)]) := ⟨by kernel_rfl⟩
instance fld_14_0 : FldOff prog 14 0 0 := ⟨fun b o w => by kernel_rfl⟩
instance fld_14_1 : FldOff prog 14 1 1 := ⟨fun b o w => by kernel_rfl⟩
instance oneC_15 : OneC prog 15 := ⟨fun w => by kernel_rfl, by kernel_rfl⟩
instance zeroC_15 : ZeroC prog 15 (.pointer none) := ⟨by kernel_rfl⟩
instance ul_15 : Ul prog 15 (.pointer 143) := ⟨by kernel_rfl⟩
instance oneC_16 : OneC prog 16 := ⟨fun w => by kernel_rfl, by kernel_rfl⟩
instance zeroC_16 : ZeroC prog 16 (.pointer none) := ⟨by kernel_rfl⟩
instance ul_16 : Ul prog 16 (.pointer 146) := ⟨by kernel_rfl⟩
instance oneC_17 : OneC prog 17 := ⟨fun w => by kernel_rfl, by kernel_rfl⟩
instance zeroC_17 : ZeroC prog 17 (.pointer none) := ⟨by kernel_rfl⟩
instance ul_17 : Ul prog 17 (.pointer 155) := ⟨by kernel_rfl⟩
instance aggC_18 : AggC prog 18 1 := ⟨fun w => by kernel_rfl, by kernel_rfl⟩
instance zeroC_18 : ZeroC prog 18 (.agg #[(.pointer none)]) := ⟨by kernel_rfl⟩
instance fld_18_0 : FldOff prog 18 0 0 := ⟨fun b o w => by kernel_rfl⟩
instance aggC_19 : AggC prog 19 1 := ⟨fun w => by kernel_rfl, by kernel_rfl⟩
instance zeroC_19 : ZeroC prog 19 (.agg #[(.pointer none)]) := ⟨by kernel_rfl⟩
instance fld_19_0 : FldOff prog 19 0 0 := ⟨fun b o w => by kernel_rfl⟩
instance oneC_20 : OneC prog 20 := ⟨fun w => by kernel_rfl, by kernel_rfl⟩
instance zeroC_20 : ZeroC prog 20 .nilIface := ⟨by kernel_rfl⟩
instance oneC_21 : OneC prog 21 := ⟨fun w => by kernel_rfl, by kernel_rfl⟩
instance zeroC_21 : ZeroC prog 21 (.int .i32 0) := ⟨by kernel_rfl⟩
instance ul_21 : Ul prog 21 (.int .i32) := ⟨by kernel_rfl⟩
instance aggC_22 : AggC prog 22 2 := ⟨fun w => by kernel_rfl, by kernel_rfl⟩
instance zeroC_22 : ZeroC prog 22 (.agg #[(.string ⟨#[]⟩), (.string ⟨#[]⟩)]) := ⟨by kernel_rfl⟩
instance fld_22_0 : FldOff prog 22 0 0 := ⟨fun b o w => by kernel_rfl⟩
instance fld_22_1 : FldOff prog 22 1 1 := ⟨fun b o w => by kernel_rfl⟩
instance aggC_23 : AggC prog 23 2 := ⟨fun w => by kernel_rfl, by kernel_rfl⟩
instance zeroC_23 : ZeroC prog 23 (.agg #[(.string ⟨#[]⟩), (.string ⟨#[]⟩)]) := ⟨by kernel_rfl⟩
instance fld_23_0 : FldOff prog 23 0 0 := ⟨fun b o w => by kernel_rfl⟩
instance fld_23_1 : FldOff prog 23 1 1 := ⟨fun b o w => by kernel_rfl⟩
instance oneC_24 : OneC prog 24 := ⟨fun w => by kernel_rfl, by kernel_rfl⟩
instance zeroC_24 : ZeroC prog 24 (.pointer none) := ⟨by kernel_rfl⟩
instance ul_24 : Ul prog 24 (.pointer 49) := ⟨by kernel_rfl⟩
instance aggC_25 : AggC prog 25 5 := ⟨fun w => by kernel_rfl, by kernel_rfl⟩
instance zeroC_25 : ZeroC prog 25 (.agg #[(.int .i64 0), (.string ⟨#[]⟩), (.string ⟨#[]⟩), (.int .i64 0), (.int .i64 0)]) := ⟨by kernel_rfl⟩
instance fld_25_0 : FldOff prog 25 0 0 := ⟨fun b o w => by kernel_rfl⟩
instance fld_25_1 : FldOff prog 25 1 1 := ⟨fun b o w => by kernel_rfl⟩
instance fld_25_2 : FldOff prog 25 2 3 := ⟨fun b o w => by kernel_rfl⟩
instance fld_25_3 : FldOff prog 25 3 4 := ⟨fun b o w => by kernel_rfl⟩
instance aggC_26 : AggC prog 26 5 := ⟨fun w => by kernel_rfl, by kernel_rfl⟩
instance zeroC_26 : ZeroC prog 26 (.agg #[(.int .i64 0), (.string ⟨#[]⟩), (.string ⟨#[]⟩), (.int .i64 0), (.int .i64 0)]) := ⟨by kernel_rfl⟩
instance fld_26_0 : FldOff prog 26 0 0 := ⟨fun b o w => by kernel_rfl⟩
instance fld_26_1 : FldOff prog 26 1 1 := ⟨fun b o w => by kernel_rfl⟩
instance fld_26_2 : FldOff prog 26 2 3 := ⟨fun b o w => by kernel_rfl⟩
instance fld_26_3 : FldOff prog 26 3 4 := ⟨fun b o w => by kernel_rfl⟩
instance oneC_27 : OneC prog 27 := ⟨fun w => by kernel_rfl, by kernel_rfl⟩
instance zeroC_27 : ZeroC prog 27 (.int .i64 0) := ⟨by kernel_rfl⟩
instance ul_27 : Ul prog 27 (.int .i64) := ⟨by kernel_rfl⟩
instance oneC_31 : OneC prog 31 := ⟨fun w => by kernel_rfl, by kernel_rfl⟩
instance zeroC_31 : ZeroC prog 31 (.slice none 0 0) := ⟨by kernel_rfl⟩
instance sliceT_31 : SliceT prog 31 3 1 8 (.int .i64 0) := ⟨by kernel_rfl, by kernel_rfl, rfl, by decide⟩
instance ul_31 : Ul prog 31 (.slice 3) := ⟨by kernel_rfl⟩
instance oneC_34 : OneC prog 34 := ⟨fun w => by kernel_rfl, by kernel_rfl⟩
instance zeroC_34 : ZeroC prog 34 (.slice none 0 0) := ⟨by kernel_rfl⟩
instance sliceT_34 : SliceT prog 34 26 5 56 (.agg #[(.int .i64 0), (.string ⟨#[]⟩), (.string ⟨#[]⟩), (.int .i64 0), (.int .i64 0)]) := ⟨by kernel_rfl, by kernel_rfl, rfl, by decide⟩
instance ul_34 : Ul prog 34 (.slice 26) := ⟨by kernel_rfl⟩
instance oneC_40 : OneC prog 40 := ⟨fun w => by kernel_rfl, by kernel_rfl⟩
instance zeroC_40 : ZeroC prog 40 (.slice none 0 0) := ⟨by kernel_rfl⟩
instance sliceT_40 : SliceT prog 40 58 2 40 (.agg #[(.string ⟨#[]⟩), (.slice none 0 0)]) := ⟨by kernel_rfl, by kernel_rfl, rfl, by decide⟩
instance ul_40 : Ul prog 40 (.slice 58) := ⟨by kernel_rfl⟩
instance aggC_45 : AggC prog 45 1 := ⟨fun w => by kernel_rfl, by kernel_rfl⟩
instance zeroC_45 : ZeroC prog 45 (.agg #[(.int .i64 0)]) := ⟨by kernel_rfl⟩
instance fld_45_0 : FldOff prog 45 0 0 := ⟨fun b o w => by kernel_rfl⟩
instance aggC_46 : AggC prog 46 1 := ⟨fun w => by kernel_rfl, by kernel_rfl⟩
instance zeroC_46 : ZeroC prog 46 (.agg #[(.int .i64 0)]) := ⟨by kernel_rfl⟩
instance fld_46_0 : FldOff prog 46 0 0 := ⟨fun b o w => by kernel_rfl⟩
instance oneC_47 : OneC prog 47 := ⟨fun w => by kernel_rfl, by kernel_rfl⟩
instance zeroC_47 : ZeroC prog 47 (.map none) := ⟨by kernel_rfl⟩
instance ul_47 : Ul prog 47 (.map 3 26) := ⟨by kernel_rfl⟩
instance aggC_48 : AggC prog 48 3 := ⟨fun w => by kernel_rfl, by kernel_rfl⟩
instance zeroC_48 : ZeroC prog 48 (.agg #[(.int .i64 0), (.int .i64 0), (.map none)]) := ⟨by kernel_rfl⟩
instance fld_48_0 : FldOff prog 48 0 0 := ⟨fun b o w => by kernel_rfl⟩
instance fld_48_1 : FldOff prog 48 1 1 := ⟨fun b o w => by kernel_rfl⟩
instance fld_48_2 : FldOff prog 48 2 2 := ⟨fun b o w => by kernel_rfl⟩
instance aggC_49 : AggC prog 49 3 := ⟨fun w => by kernel_rfl, by kernel_rfl⟩
instance zeroC_49 : ZeroC prog 49 (.agg #[(.int .i64 0), (.int .i64 0), (.map none)]) := ⟨by kernel_rfl⟩
instance fld_49_0 : FldOff prog 49 0 0 := ⟨fun b o w => by kernel_rfl⟩
instance fld_49_1 : FldOff prog 49 1 1 := ⟨fun b o w => by kernel_rfl⟩
instance fld_49_2 : FldOff prog 49 2 2 := ⟨fun b o w => by kernel_rfl⟩
instance oneC_56 : OneC prog 56 := ⟨fun w => by kernel_rfl, by kernel_rfl⟩
instance zeroC_56 : ZeroC prog 56 (.slice none 0 0) := ⟨by kernel_rfl⟩
instance sliceT_56 : SliceT prog 56 9 1 16 (.string ⟨#[]⟩) := ⟨by kernel_rfl, by kernel_rfl, rfl, by decide⟩
instance ul_56 : Ul prog 56 (.slice 9) := ⟨by kernel_rfl⟩
instance aggC_57 : AggC prog 57 2 := ⟨fun w => by kernel_rfl, by kernel_rfl⟩
instance zeroC_57 : ZeroC prog 57 (.agg #[(.string ⟨#[]⟩), (.slice none 0 0)]) := ⟨by kernel_rfl⟩
instance fld_57_0 : FldOff prog 57 0 0 := ⟨fun b o w => by kernel_rfl⟩
instance fld_57_1 : FldOff prog 57 1 1 := ⟨fun b o w => by kernel_rfl⟩
instance aggC_58 : AggC prog 58 2 := ⟨fun w => by kernel_rfl, by kernel_rfl⟩
instance zeroC_58 : ZeroC prog 58 (.agg #[(.string ⟨#[]⟩), (.slice none 0 0)]) := ⟨by kernel_rfl⟩
instance fld_58_0 : FldOff prog 58 0 0 := ⟨fun b o w => by kernel_rfl⟩
instance fld_58_1 : FldOff prog 58 1 1 := ⟨fun b o w => by kernel_rfl⟩
instance oneC_74 : OneC prog 74 := ⟨fun w => by kernel_rfl, by kernel_rfl⟩
instance zeroC_74 : ZeroC prog 74 (.int .u64 0) := ⟨by kernel_rfl⟩
instance ul_74 : Ul prog 74 (.int .u64) := ⟨by kernel_rfl⟩
instance aggC_77 : AggC prog 77 256 := ⟨fun w => by kernel_rfl, by kernel_rfl⟩
instance zeroC_77 : ZeroC prog 77 (.agg #[(.bool false), (.bool false), (.bool false), (.bool false), (.bool false), (.bool false), (.bool false), (.bool false), (.bool false), (.bool false), (.bool false), (.bool false), (.bool false), (.bool false), (.bool false), (.bool false), (.bool false), (.bool false), (.bool false), (.bool false), (.bool false), (.bool false), (.bool false), (.bool false), (.bool false), (.bool false), (.bool false), (.bool false), (.bool false), (.bool false), (.bool false), (.bool false), (.bool false), (.bool false), (.bool false), (.bool false), (.bool false), (.bool false), (.bool false), (.bool false), (.bool false), (.bool false), (.bool false), (.bool false), (.bool false), (.bool false), (.bool false), (.bool false), (.bool false), (.bool false), (.bool false), (.bool false), (.bool false), (.bool false), (.bool false), (.bool false), (.bool false), (.bool false), (.bool false), (.bool false), (.bool false), (.bool false), (.bool false), (.bool false), (.bool false), (.bool false), (.bool false), (.bool false), (.bool false), (.bool false), (.bool false), (.bool false), (.bool false), (.bool false), (.bool false), (.bool false), (.bool false), (.bool false), (.bool false), (.bool false), (.bool false), (.bool false), (.bool false), (.bool false), (.bool false), (.bool false), (.bool false), (.bool false), (.bool false), (.bool false), (.bool false), (.bool false), (.bool false), (.bool false), (.bool false), (.bool false), (.bool false), (.bool false), (.bool false), (.bool false), (.bool false), (.bool false), (.bool false), (.bool false), (.bool false), (.bool false), (.bool false), (.bool false), (.bool false), (.bool false), (.bool false), (.bool false), (.bool false), (.bool false), (.bool false), (.bool false), (.bool false), (.bool false), (.bool false), (.bool false), (.bool false), (.bool false), (.bool false), (.bool false), (.bool false), (.bool false), (.bool false), (.bool false), (.bool false), (.bool false), (.bool false), (.bool false), (.bool false), (.bool false), (.bool false), (.bool false), (.bool false), (.bool false), (.bool false), (.bool false), (.bool false), (.bool false), (.bool false), (.bool false), (.bool false), (.bool false), (.bool false), (.bool false), (.bool false), (.bool false), (.bool false), (.bool false), (.bool false), (.bool false), (.bool false), (.bool false), (.bool false), (.bool false), (.bool false), (.bool false), (.bool false), (.bool false), (.bool false), (.bool false), (.bool false), (.bool false), (.bool false), (.bool false), (.bool false), (.bool false), (.bool false), (.bool false), (.bool false), (.bool false), (.bool false), (.bool false), (.bool false), (.bool false), (.bool false), (.bool false), (.bool false), (.bool false), (.bool false), (.bool false), (.bool false), (.bool false), (.bool false), (.bool false), (.bool false), (.bool false), (.bool false), (.bool false), (.bool false), (.bool false), (.bool false), (.bool false), (.bool false), (.bool false), (.bool false), (.bool false), (.bool false), (.bool false), (.bool false), (.bool false), (.bool false), (.bool false), (.bool false), (.bool false), (.bool false), (.bool false), (.bool false), (.bool false), (.bool false), (.bool false), (.bool false), (.bool false), (.bool false), (.bool false), (.bool false), (.bool false), (.bool false), (.bool false), (.bool false), (.bool false), (.bool false), (.bool false), (.bool false), (.bool false), (.bool false), (.bool false), (.bool false), (.bool false), (.bool false), (.bool false), (.bool false), (.bool false), (.bool false), (.bool false), (.bool false), (.bool false), (.bool false), (.bool false), (.bool false), (.bool false), (.bool false), (.bool false), (.bool false), (.bool false), (.bool false), (.bool false), (.bool false), (.bool false), (.bool false), (.bool false), (.bool false), (.bool false)]) := ⟨by kernel_rfl⟩
instance ul_77 : Ul prog 77 (.array 256 4) := ⟨by kernel_rfl⟩
instance aggC_78 : AggC prog 78 256 := ⟨fun w => by kernel_rfl, by kernel_rfl⟩
instance zeroC_78 : ZeroC prog 78 (.agg #[(.bool false), (.bool false), (.bool false), (.bool false), (.bool false), (.bool false), (.bool false), (.bool false), (.bool false), (.bool false), (.bool false), (.bool false), (.bool false), (.bool false), (.bool false), (.bool false), (.bool false), (.bool false), (.bool false), (.bool false), (.bool false), (.bool false), (.bool false), (.bool false), (.bool false), (.bool false), (.bool false), (.bool false), (.bool false), (.bool false), (.bool false), (.bool false), (.bool false), (.bool false), (.bool false), (.bool false), (.bool false), (.bool false), (.bool false), (.bool false), (.bool false), (.bool false), (.bool false), (.bool false), (.bool false), (.bool false), (.bool false), (.bool false), (.bool false), (.bool false), (.bool false), (.bool false), (.bool false), (.bool false), (.bool false), (.bool false), (.bool false), (.bool false), (.bool false), (.bool false), (.bool false), (.bool false), (.bool false), (.bool false), (.bool false), (.bool false), (.bool false), (.bool false), (.bool false), (.bool false), (.bool false), (.bool false), (.bool false), (.bool false), (.bool false), (.bool false), (.bool false), (.bool false), (.bool false), (.bool false), (.bool false), (.bool false), (.bool false), (.bool false), (.bool false), (.bool false), (.bool false), (.bool false), (.bool false), (.bool false), (.bool false), (.bool false), (.bool false), (.bool false), (.bool false), (.bool false), (.bool false), (.bool false), (.bool false), (.bool false), (.bool false), (.bool false), (.bool false), (.bool false), (.bool false), (.bool false), (.bool false), (.bool false), (.bool false), (.bool false), (.bool false), (.bool false), (.bool false), (.bool false), (.bool false), (.bool false), (.bool false), (.bool false), (.bool false), (.bool false), (.bool false), (.bool false), (.bool false), (.bool false), (.bool false), (.bool false), (.bool false), (.bool false), (.bool false), (.bool false), (.bool false), (.bool false), (.bool false), (.bool false), (.bool false), (.bool false), (.bool false), (.bool false), (.bool false), (.bool false), (.bool false), (.bool false), (.bool false), (.bool false), (.bool false), (.bool false), (.bool false), (.bool false), (.bool false), (.bool false), (.bool false), (.bool false), (.bool false), (.bool false), (.bool false), (.bool false), (.bool false), (.bool false), (.bool false), (.bool false), (.bool false), (.bool false), (.bool false), (.bool false), (.bool false), (.bool false), (.bool false), (.bool false), (.bool false), (.bool false), (.bool false), (.bool false), (.bool false), (.bool false), (.bool false), (.bool false), (.bool false), (.bool false), (.bool false), (.bool false), (.bool false), (.bool false), (.bool false), (.bool false), (.bool false), (.bool false), (.bool false), (.bool false), (.bool false), (.bool false), (.bool false), (.bool false), (.bool false), (.bool false), (.bool false), (.bool false), (.bool false), (.bool false), (.bool false), (.bool false), (.bool false), (.bool false), (.bool false), (.bool false), (.bool false), (.bool false), (.bool false), (.bool false), (.bool false), (.bool false), (.bool false), (.bool false), (.bool false), (.bool false), (.bool false), (.bool false), (.bool false), (.bool false), (.bool false), (.bool false), (.bool false), (.bool false), (.bool false), (.bool false), (.bool false), (.bool false), (.bool false), (.bool false), (.bool false), (.bool false), (.bool false), (.bool false), (.bool false), (.bool false), (.bool false), (.bool false), (.bool false), (.bool false), (.bool false), (.bool false), (.bool false), (.bool false), (.bool false), (.bool false), (.bool false), (.bool false), (.bool false), (.bool false), (.bool false), (.bool false), (.bool false), (.bool false), (.bool false), (.bool false), (.bool false), (.bool false)]) := ⟨by kernel_rfl⟩
instance ul_78 : Ul prog 78 (.array 256 4) := ⟨by kernel_rfl⟩
instance oneC_82 : OneC prog 82 := ⟨fun w => by kernel_rfl, by kernel_rfl⟩
instance zeroC_82 : ZeroC prog 82 (.pointer none) := ⟨by kernel_rfl⟩
instance ul_82 : Ul prog 82 (.pointer 78) := ⟨by kernel_rfl⟩
instance oneC_87 : OneC prog 87 := ⟨fun w => by kernel_rfl, by kernel_rfl⟩
instance zeroC_87 : ZeroC prog 87 (.int .i64 0) := ⟨by kernel_rfl⟩
instance ul_87 : Ul prog 87 (.int .i64) := ⟨by kernel_rfl⟩
instance oneC_95 : OneC prog 95 := ⟨fun w => by kernel_rfl, by kernel_rfl⟩
instance zeroC_95 : ZeroC prog 95 (.int .u32 0) := ⟨by kernel_rfl⟩
instance ul_95 : Ul prog 95 (.int .u32) := ⟨by kernel_rfl⟩
instance oneC_97 : OneC prog 97 := ⟨fun w => by kernel_rfl, by kernel_rfl⟩
instance zeroC_97 : ZeroC prog 97 (.int .u64 0) := ⟨by kernel_rfl⟩
instance ul_97 : Ul prog 97 (.int .u64) := ⟨by kernel_rfl⟩
instance oneC_104 : OneC prog 104 := ⟨fun w => by kernel_rfl, by kernel_rfl⟩
instance zeroC_104 : ZeroC prog 104 (.int .u64 0) := ⟨by kernel_rfl⟩
instance ul_104 : Ul prog 104 (.int .u64) := ⟨by kernel_rfl⟩
instance oneC_108 : OneC prog 108 := ⟨fun w => by kernel_rfl, by kernel_rfl⟩
instance zeroC_108 : ZeroC prog 108 (.pointer none) := ⟨by kernel_rfl⟩
instance ul_108 : Ul prog 108 (.pointer 3) := ⟨by kernel_rfl⟩
instance aggC_118 : AggC prog 118 24 := ⟨fun w => by kernel_rfl, by kernel_rfl⟩
instance zeroC_118 : ZeroC prog 118 (.agg #[(.int .u8 0), (.int .u8 0), (.int .u8 0), (.int .u8 0), (.int .u8 0), (.int .u8 0), (.int .u8 0), (.int .u8 0), (.int .u8 0), (.int .u8 0), (.int .u8 0), (.int .u8 0), (.int .u8 0), (.int .u8 0), (.int .u8 0), (.int .u8 0), (.int .u8 0), (.int .u8 0), (.int .u8 0), (.int .u8 0), (.int .u8 0), (.int .u8 0), (.int .u8 0), (.int .u8 0)]) := ⟨by kernel_rfl⟩
instance ul_118 : Ul prog 118 (.array 24 5) := ⟨by kernel_rfl⟩
instance oneC_120 : OneC prog 120 := ⟨fun w => by kernel_rfl, by kernel_rfl⟩
instance zeroC_120 : ZeroC prog 120 (.slice none 0 0) := ⟨by kernel_rfl⟩
instance sliceT_120 : SliceT prog 120 5 1 1 (.int .u8 0) := ⟨by kernel_rfl, by kernel_rfl, rfl, by decide⟩
instance ul_120 : Ul prog 120 (.slice 5) := ⟨by kernel_rfl⟩
instance oneC_123 : OneC prog 123 := ⟨fun w => by kernel_rfl, by kernel_rfl⟩
instance zeroC_123 : ZeroC prog 123 (.pointer none) := ⟨by kernel_rfl⟩
instance ul_123 : Ul prog 123 (.pointer 104) := ⟨by kernel_rfl⟩
instance aggC_126 : AggC prog 126 256 := ⟨fun w => by kernel_rfl, by kernel_rfl⟩
instance zeroC_126 : ZeroC prog 126 (.agg #[(.int .u8 0), (.int .u8 0), (.int .u8 0), (.int .u8 0), (.int .u8 0), (.int .u8 0), (.int .u8 0), (.int .u8 0), (.int .u8 0), (.int .u8 0), (.int .u8 0), (.int .u8 0), (.int .u8 0), (.int .u8 0), (.int .u8 0), (.int .u8 0), (.int .u8 0), (.int .u8 0), (.int .u8 0), (.int .u8 0), (.int .u8 0), (.int .u8 0), (.int .u8 0), (.int .u8 0), (.int .u8 0), (.int .u8 0), (.int .u8 0), (.int .u8 0), (.int .u8 0), (.int .u8 0), (.int .u8 0), (.int .u8 0), (.int .u8 0), (.int .u8 0), (.int .u8 0), (.int .u8 0), (.int .u8 0), (.int .u8 0), (.int .u8 0), (.int .u8 0), (.int .u8 0), (.int .u8 0), (.int .u8 0), (.int .u8 0), (.int .u8 0), (.int .u8 0), (.int .u8 0), (.int .u8 0), (.int .u8 0), (.int .u8 0), (.int .u8 0), (.int .u8 0), (.int .u8 0), (.int .u8 0), (.int .u8 0), (.int .u8 0), (.int .u8 0), (.int .u8 0), (.int .u8 0), (.int .u8 0), (.int .u8 0), (.int .u8 0), (.int .u8 0), (.int .u8 0), (.int .u8 0), (.int .u8 0), (.int .u8 0), (.int .u8 0), (.int .u8 0), (.int .u8 0), (.int .u8 0), (.int .u8 0), (.int .u8 0), (.int .u8 0), (.int .u8 0), (.int .u8 0), (.int .u8 0), (.int .u8 0), (.int .u8 0), (.int .u8 0), (.int .u8 0), (.int .u8 0), (.int .u8 0), (.int .u8 0), (.int .u8 0), (.int .u8 0), (.int .u8 0), (.int .u8 0), (.int .u8 0), (.int .u8 0), (.int .u8 0), (.int .u8 0), (.int .u8 0), (.int .u8 0), (.int .u8 0), (.int .u8 0), (.int .u8 0), (.int .u8 0), (.int .u8 0), (.int .u8 0), (.int .u8 0), (.int .u8 0), (.int .u8 0), (.int .u8 0), (.int .u8 0), (.int .u8 0), (.int .u8 0), (.int .u8 0), (.int .u8 0), (.int .u8 0), (.int .u8 0), (.int .u8 0), (.int .u8 0), (.int .u8 0), (.int .u8 0), (.int .u8 0), (.int .u8 0), (.int .u8 0), (.int .u8 0), (.int .u8 0), (.int .u8 0), (.int .u8 0), (.int .u8 0), (.int .u8 0), (.int .u8 0), (.int .u8 0), (.int .u8 0), (.int .u8 0), (.int .u8 0), (.int .u8 0), (.int .u8 0), (.int .u8 0), (.int .u8 0), (.int .u8 0), (.int .u8 0), (.int .u8 0), (.int .u8 0), (.int .u8 0), (.int .u8 0), (.int .u8 0), (.int .u8 0), (.int .u8 0), (.int .u8 0), (.int .u8 0), (.int .u8 0), (.int .u8 0), (.int .u8 0), (.int .u8 0), (.int .u8 0), (.int .u8 0), (.int .u8 0), (.int .u8 0), (.int .u8 0), (.int .u8 0), (.int .u8 0), (.int .u8 0), (.int .u8 0), (.int .u8 0), (.int .u8 0), (.int .u8 0), (.int .u8 0), (.int .u8 0), (.int .u8 0), (.int .u8 0), (.int .u8 0), (.int .u8 0), (.int .u8 0), (.int .u8 0), (.int .u8 0), (.int .u8 0), (.int .u8 0), (.int .u8 0), (.int .u8 0), (.int .u8 0), (.int .u8 0), (.int .u8 0), (.int .u8 0), (.int .u8 0), (.int .u8 0), (.int .u8 0), (.int .u8 0), (.int .u8 0), (.int .u8 0), (.int .u8 0), (.int .u8 0), (.int .u8 0), (.int .u8 0), (.int .u8 0), (.int .u8 0), (.int .u8 0), (.int .u8 0), (.int .u8 0), (.int .u8 0), (.int .u8 0), (.int .u8 0), (.int .u8 0), (.int .u8 0), (.int .u8 0), (.int .u8 0), (.int .u8 0), (.int .u8 0), (.int .u8 0), (.int .u8 0), (.int .u8 0), (.int .u8 0), (.int .u8 0), (.int .u8 0), (.int .u8 0), (.int .u8 0), (.int .u8 0), (.int .u8 0), (.int .u8 0), (.int .u8 0), (.int .u8 0), (.int .u8 0), (.int .u8 0), (.int .u8 0), (.int .u8 0), (.int .u8 0), (.int .u8 0), (.int .u8 0), (.int .u8 0), (.int .u8 0), (.int .u8 0), (.int .u8 0), (.int .u8 0), (.int .u8 0), (.int .u8 0), (.int .u8 0), (.int .u8 0), (.int .u8 0), (.int .u8 0), (.int .u8 0), (.int .u8 0), (.int .u8 0), (.int .u8 0), (.int .u8 0), (.int .u8 0), (.int .u8 0), (.int .u8 0), (.int .u8 0), (.int .u8 0), (.int .u8 0), (.int .u8 0), (.int .u8 0), (.int .u8 0), (.int .u8 0), (.int .u8 0), (.int .u8 0), (.int .u8 0), (.int .u8 0), (.int .u8 0), (.int .u8 0), (.int .u8 0), (.int .u8 0), (.int .u8 0)]) := ⟨by kernel_rfl⟩
instance ul_126 : Ul prog 126 (.array 256 5) := ⟨by kernel_rfl⟩
instance aggC_127 : AggC prog 127 2 := ⟨fun w => by kernel_rfl, by kernel_rfl⟩
instance zeroC_127 : ZeroC prog 127 (.agg #[(.int .u8 0), (.int .u8 0)]) := ⟨by kernel_rfl⟩
instance fld_127_0 : FldOff prog 127 0 0 := ⟨fun b o w => by kernel_rfl⟩
instance fld_127_1 : FldOff prog 127 1 1 := ⟨fun b o w => by kernel_rfl⟩
instance aggC_128 : AggC prog 128 2 := ⟨fun w => by kernel_rfl, by kernel_rfl⟩
instance zeroC_128 : ZeroC prog 128 (.agg #[(.int .u8 0), (.int .u8 0)]) := ⟨by kernel_rfl⟩
instance fld_128_0 : FldOff prog 128 0 0 := ⟨fun b o w => by kernel_rfl⟩
instance fld_128_1 : FldOff prog 128 1 1 := ⟨fun b o w => by kernel_rfl⟩
instance aggC_129 : AggC prog 129 32 := ⟨fun w => by kernel_rfl, by kernel_rfl⟩
instance zeroC_129 : ZeroC prog 129 (.agg #[(.int .u8 0), (.int .u8 0), (.int .u8 0), (.int .u8 0), (.int .u8 0), (.int .u8 0), (.int .u8 0), (.int .u8 0), (.int .u8 0), (.int .u8 0), (.int .u8 0), (.int .u8 0), (.int .u8 0), (.int .u8 0), (.int .u8 0), (.int .u8 0), (.int .u8 0), (.int .u8 0), (.int .u8 0), (.int .u8 0), (.int .u8 0), (.int .u8 0), (.int .u8 0), (.int .u8 0), (.int .u8 0), (.int .u8 0), (.int .u8 0), (.int .u8 0), (.int .u8 0), (.int .u8 0), (.int .u8 0), (.int .u8 0)]) := ⟨by kernel_rfl⟩
instance ul_129 : Ul prog 129 (.array 16 128) := ⟨by kernel_rfl⟩
instance aggC_136 : AggC prog 136 20 := ⟨fun w => by kernel_rfl, by kernel_rfl⟩
instance zeroC_136 : ZeroC prog 136 (.agg #[(.int .u64 0), (.int .u64 0), (.int .u64 0), (.int .u64 0), (.int .u64 0), (.int .u64 0), (.int .u64 0), (.int .u64 0), (.int .u64 0), (.int .u64 0), (.int .u64 0), (.int .u64 0), (.int .u64 0), (.int .u64 0), (.int .u64 0), (.int .u64 0), (.int .u64 0), (.int .u64 0), (.int .u64 0), (.int .u64 0)]) := ⟨by kernel_rfl⟩
instance ul_136 : Ul prog 136 (.array 20 97) := ⟨by kernel_rfl⟩
instance aggC_137 : AggC prog 137 65 := ⟨fun w => by kernel_rfl, by kernel_rfl⟩
instance zeroC_137 : ZeroC prog 137 (.agg #[(.int .u8 0), (.int .u8 0), (.int .u8 0), (.int .u8 0), (.int .u8 0), (.int .u8 0), (.int .u8 0), (.int .u8 0), (.int .u8 0), (.int .u8 0), (.int .u8 0), (.int .u8 0), (.int .u8 0), (.int .u8 0), (.int .u8 0), (.int .u8 0), (.int .u8 0), (.int .u8 0), (.int .u8 0), (.int .u8 0), (.int .u8 0), (.int .u8 0), (.int .u8 0), (.int .u8 0), (.int .u8 0), (.int .u8 0), (.int .u8 0), (.int .u8 0), (.int .u8 0), (.int .u8 0), (.int .u8 0), (.int .u8 0), (.int .u8 0), (.int .u8 0), (.int .u8 0), (.int .u8 0), (.int .u8 0), (.int .u8 0), (.int .u8 0), (.int .u8 0), (.int .u8 0), (.int .u8 0), (.int .u8 0), (.int .u8 0), (.int .u8 0), (.int .u8 0), (.int .u8 0), (.int .u8 0), (.int .u8 0), (.int .u8 0), (.int .u8 0), (.int .u8 0), (.int .u8 0), (.int .u8 0), (.int .u8 0), (.int .u8 0), (.int .u8 0), (.int .u8 0), (.int .u8 0), (.int .u8 0), (.int .u8 0), (.int .u8 0), (.int .u8 0), (.int .u8 0), (.int .u8 0)]) := ⟨by kernel_rfl⟩
instance ul_137 : Ul prog 137 (.array 65 5) := ⟨by kernel_rfl⟩
instance aggC_139 : AggC prog 139 32 := ⟨fun w => by kernel_rfl, by kernel_rfl⟩
instance zeroC_139 : ZeroC prog 139 (.agg #[(.int .u8 0), (.int .u8 0), (.int .u8 0), (.int .u8 0), (.int .u8 0), (.int .u8 0), (.int .u8 0), (.int .u8 0), (.int .u8 0), (.int .u8 0), (.int .u8 0), (.int .u8 0), (.int .u8 0), (.int .u8 0), (.int .u8 0), (.int .u8 0), (.int .u8 0), (.int .u8 0), (.int .u8 0), (.int .u8 0), (.int .u8 0), (.int .u8 0), (.int .u8 0), (.int .u8 0), (.int .u8 0), (.int .u8 0), (.int .u8 0), (.int .u8 0), (.int .u8 0), (.int .u8 0), (.int .u8 0), (.int .u8 0)]) := ⟨by kernel_rfl⟩
instance ul_139 : Ul prog 139 (.array 32 5) := ⟨by kernel_rfl⟩
instance aggC_140 : AggC prog 140 64 := ⟨fun w => by kernel_rfl, by kernel_rfl⟩
instance zeroC_140 : ZeroC prog 140 (.agg #[(.int .u8 0), (.int .u8 0), (.int .u8 0), (.int .u8 0), (.int .u8 0), (.int .u8 0), (.int .u8 0), (.int .u8 0), (.int .u8 0), (.int .u8 0), (.int .u8 0), (.int .u8 0), (.int .u8 0), (.int .u8 0), (.int .u8 0), (.int .u8 0), (.int .u8 0), (.int .u8 0), (.int .u8 0), (.int .u8 0), (.int .u8 0), (.int .u8 0), (.int .u8 0), (.int .u8 0), (.int .u8 0), (.int .u8 0), (.int .u8 0), (.int .u8 0), (.int .u8 0), (.int .u8 0), (.int .u8 0), (.int .u8 0), (.int .u8 0), (.int .u8 0), (.int .u8 0), (.int .u8 0), (.int .u8 0), (.int .u8 0), (.int .u8 0), (.int .u8 0), (.int .u8 0), (.int .u8 0), (.int .u8 0), (.int .u8 0), (.int .u8 0), (.int .u8 0), (.int .u8 0), (.int .u8 0), (.int .u8 0), (.int .u8 0), (.int .u8 0), (.int .u8 0), (.int .u8 0), (.int .u8 0), (.int .u8 0), (.int .u8 0), (.int .u8 0), (.int .u8 0), (.int .u8 0), (.int .u8 0), (.int .u8 0), (.int .u8 0), (.int .u8 0), (.int .u8 0)]) := ⟨by kernel_rfl⟩
instance ul_140 : Ul prog 140 (.array 64 5) := ⟨by kernel_rfl⟩
instance aggC_142 : AggC prog 142 4 := ⟨fun w => by kernel_rfl, by kernel_rfl⟩
instance zeroC_142 : ZeroC prog 142 (.agg #[(.pointer none), (.pointer none), (.pointer none), (.string ⟨#[]⟩)]) := ⟨by kernel_rfl⟩
instance fld_142_0 : FldOff prog 142 0 0 := ⟨fun b o w => by kernel_rfl⟩
instance fld_142_1 : FldOff prog 142 1 1 := ⟨fun b o w => by kernel_rfl⟩
instance fld_142_2 : FldOff prog 142 2 2 := ⟨fun b o w => by kernel_rfl⟩
instance fld_142_3 : FldOff prog 142 3 3 := ⟨fun b o w => by kernel_rfl⟩
instance aggC_143 : AggC prog 143 4 := ⟨fun w => by kernel_rfl, by kernel_rfl⟩
instance zeroC_143 : ZeroC prog 143 (.agg #[(.pointer none), (.pointer none), (.pointer none), (.string ⟨#[]⟩)]) := ⟨by kernel_rfl⟩
instance fld_143_0 : FldOff prog 143 0 0 := ⟨fun b o w => by kernel_rfl⟩
instance fld_143_1 : FldOff prog 143 1 1 := ⟨fun b o w => by kernel_rfl⟩
instance fld_143_2 : FldOff prog 143 2 2 := ⟨fun b o w => by kernel_rfl⟩
instance fld_143_3 : FldOff prog 143 3 3 := ⟨fun b o w => by kernel_rfl⟩
instance aggC_144 : AggC prog 144 0 := ⟨fun w => by kernel_rfl, by kernel_rfl⟩
instance zeroC_144 : ZeroC prog 144 (.agg #[]) := ⟨by kernel_rfl⟩
instance ul_144 : Ul prog 144 (.array 0 16) := ⟨by kernel_rfl⟩
instance aggC_145 : AggC prog 145 0 := ⟨fun w => by kernel_rfl, by kernel_rfl⟩
instance zeroC_145 : ZeroC prog 145 (.agg #[]) := ⟨by kernel_rfl⟩
instance aggC_146 : AggC prog 146 0 := ⟨fun w => by kernel_rfl, by kernel_rfl⟩
instance zeroC_146 : ZeroC prog 146 (.agg #[]) := ⟨by kernel_rfl⟩
instance oneC_148 : OneC prog 148 := ⟨fun w => by kernel_rfl, by kernel_rfl⟩
instance zeroC_148 : ZeroC prog 148 (.int .u8 0) := ⟨by kernel_rfl⟩
instance ul_148 : Ul prog 148 (.int .u8) := ⟨by kernel_rfl⟩
instance oneC_149 : OneC prog 149 := ⟨fun w => by kernel_rfl, by kernel_rfl⟩
instance zeroC_149 : ZeroC prog 149 (.int .u8 0) := ⟨by kernel_rfl⟩
instance ul_149 : Ul prog 149 (.int .u8) := ⟨by kernel_rfl⟩
instance oneC_151 : OneC prog 151 := ⟨fun w => by kernel_rfl, by kernel_rfl⟩
instance zeroC_151 : ZeroC prog 151 (.pointer none) := ⟨by kernel_rfl⟩
instance ul_151 : Ul prog 151 (.pointer 5) := ⟨by kernel_rfl⟩
instance oneC_152 : OneC prog 152 := ⟨fun w => by kernel_rfl, by kernel_rfl⟩
instance zeroC_152 : ZeroC prog 152 (.int .i32 0) := ⟨by kernel_rfl⟩
instance ul_152 : Ul prog 152 (.int .i32) := ⟨by kernel_rfl⟩
instance oneC_153 : OneC prog 153 := ⟨fun w => by kernel_rfl, by kernel_rfl⟩
instance zeroC_153 : ZeroC prog 153 (.int .i32 0) := ⟨by kernel_rfl⟩
instance ul_153 : Ul prog 153 (.int .i32) := ⟨by kernel_rfl⟩
instance aggC_154 : AggC prog 154 11 := ⟨fun w => by kernel_rfl, by kernel_rfl⟩
instance zeroC_154 : ZeroC prog 154 (.agg #[(.int .u64 0), (.int .u64 0), (.int .u32 0), (.int .u8 0), (.int .u8 0), (.int .u8 0), (.int .u8 0), .nilFunc, (.pointer none), (.int .i32 0), (.int .i32 0)]) := ⟨by kernel_rfl⟩
instance fld_154_0 : FldOff prog 154 0 0 := ⟨fun b o w => by kernel_rfl⟩
instance fld_154_1 : FldOff prog 154 1 1 := ⟨fun b o w => by kernel_rfl⟩
instance fld_154_2 : FldOff prog 154 2 2 := ⟨fun b o w => by kernel_rfl⟩
instance fld_154_3 : FldOff prog 154 3 3 := ⟨fun b o w => by kernel_rfl⟩
instance fld_154_4 : FldOff prog 154 4 4 := ⟨fun b o w => by kernel_rfl⟩
instance fld_154_5 : FldOff prog 154 5 5 := ⟨fun b o w => by kernel_rfl⟩
instance fld_154_6 : FldOff prog 154 6 6 := ⟨fun b o w => by kernel_rfl⟩
instance fld_154_7 : FldOff prog 154 7 7 := ⟨fun b o w => by kernel_rfl⟩
instance fld_154_8 : FldOff prog 154 8 8 := ⟨fun b o w => by kernel_rfl⟩
instance fld_154_9 : FldOff prog 154 9 9 := ⟨fun b o w => by kernel_rfl⟩
instance fld_154_10 : FldOff prog 154 10 10 := ⟨fun b o w => by kernel_rfl⟩
instance aggC_155 : AggC prog 155 11 := ⟨fun w => by kernel_rfl, by kernel_rfl⟩
instance zeroC_155 : ZeroC prog 155 (.agg #[(.int .u64 0), (.int .u64 0), (.int .u32 0), (.int .u8 0), (.int .u8 0), (.int .u8 0), (.int .u8 0), .nilFunc, (.pointer none), (.int .i32 0), (.int .i32 0)]) := ⟨by kernel_rfl⟩
instance fld_155_0 : FldOff prog 155 0 0 := ⟨fun b o w => by kernel_rfl⟩
instance fld_155_1 : FldOff prog 155 1 1 := ⟨fun b o w => by kernel_rfl⟩
instance fld_155_2 : FldOff prog 155 2 2 := ⟨fun b o w => by kernel_rfl⟩
instance fld_155_3 : FldOff prog 155 3 3 := ⟨fun b o w => by kernel_rfl⟩
instance fld_155_4 : FldOff prog 155 4 4 := ⟨fun b o w => by kernel_rfl⟩
instance fld_155_5 : FldOff prog 155 5 5 := ⟨fun b o w => by kernel_rfl⟩
instance fld_155_6 : FldOff prog 155 6 6 := ⟨fun b o w => by kernel_rfl⟩
instance fld_155_7 : FldOff prog 155 7 7 := ⟨fun b o w => by kernel_rfl⟩
instance fld_155_8 : FldOff prog 155 8 8 := ⟨fun b o w => by kernel_rfl⟩
instance fld_155_9 : FldOff prog 155 9 9 := ⟨fun b o w => by kernel_rfl⟩
instance fld_155_10 : FldOff prog 155 10 10 := ⟨fun b o w => by kernel_rfl⟩
instance oneC_156 : OneC prog 156 := ⟨fun w => by kernel_rfl, by kernel_rfl⟩
instance zeroC_156 : ZeroC prog 156 (.pointer none) := ⟨by kernel_rfl⟩

end Go.Proofs.YticbbnjhiiimcaaGreatDoor
