import Derived.Test.YtnkmgkilfkgfhaaDoorProg
import Derived.Test.YtnkmgkilfkgfhaaDoorVc
import Derived.KernelRfl
set_option linter.all false
set_option maxRecDepth 100000
namespace Go.Proofs.YtnkmgkilfkgfhaaDoor
open Go Hold
noncomputable abbrev prog : Program := Tryd.prog
instance oneC_2 : OneC prog 2 := ⟨fun w => by kernel_rfl, by kernel_rfl⟩
instance zeroC_2 : ZeroC prog 2 (.int .i64 0) := ⟨by kernel_rfl⟩
instance ul_2 : Ul prog 2 (.int .i64) := ⟨by kernel_rfl⟩
instance oneC_3 : OneC prog 3 := ⟨fun w => by kernel_rfl, by kernel_rfl⟩
instance zeroC_3 : ZeroC prog 3 (.int .i64 0) := ⟨by kernel_rfl⟩
instance ul_3 : Ul prog 3 (.int .i64) := ⟨by kernel_rfl⟩
instance oneC_4 : OneC prog 4 := ⟨fun w => by kernel_rfl, by kernel_rfl⟩
instance zeroC_4 : ZeroC prog 4 (.bool false) := ⟨by kernel_rfl⟩
instance ul_4 : Ul prog 4 .bool := ⟨by kernel_rfl⟩
instance oneC_5 : OneC prog 5 := ⟨fun w => by kernel_rfl, by kernel_rfl⟩
instance zeroC_5 : ZeroC prog 5 (.int .u8 0) := ⟨by kernel_rfl⟩
instance ul_5 : Ul prog 5 (.int .u8) := ⟨by kernel_rfl⟩
instance oneC_6 : OneC prog 6 := ⟨fun w => by kernel_rfl, by kernel_rfl⟩
instance zeroC_6 : ZeroC prog 6 (.int .u8 0) := ⟨by kernel_rfl⟩
instance ul_6 : Ul prog 6 (.int .u8) := ⟨by kernel_rfl⟩
instance aggC_7 : AggC prog 7 4 := ⟨fun w => by kernel_rfl, by kernel_rfl⟩
instance zeroC_7 : ZeroC prog 7 (.agg #[(.int .i64 0), (.int .i64 0), (.bool false), (.int .u8 0)]) := ⟨by kernel_rfl⟩
instance fld_7_0 : FldOff prog 7 0 0 := ⟨fun b o w => by kernel_rfl⟩
instance fld_7_1 : FldOff prog 7 1 1 := ⟨fun b o w => by kernel_rfl⟩
instance fld_7_2 : FldOff prog 7 2 2 := ⟨fun b o w => by kernel_rfl⟩
instance fld_7_3 : FldOff prog 7 3 3 := ⟨fun b o w => by kernel_rfl⟩
instance aggC_8 : AggC prog 8 4 := ⟨fun w => by kernel_rfl, by kernel_rfl⟩
instance zeroC_8 : ZeroC prog 8 (.agg #[(.int .i64 0), (.int .i64 0), (.bool false), (.int .u8 0)]) := ⟨by kernel_rfl⟩
instance fld_8_0 : FldOff prog 8 0 0 := ⟨fun b o w => by kernel_rfl⟩
instance fld_8_1 : FldOff prog 8 1 1 := ⟨fun b o w => by kernel_rfl⟩
instance fld_8_2 : FldOff prog 8 2 2 := ⟨fun b o w => by kernel_rfl⟩
instance fld_8_3 : FldOff prog 8 3 3 := ⟨fun b o w => by kernel_rfl⟩
instance oneC_9 : OneC prog 9 := ⟨fun w => by kernel_rfl, by kernel_rfl⟩
instance zeroC_9 : ZeroC prog 9 (.string ⟨#[]⟩) := ⟨by kernel_rfl⟩
instance ul_9 : Ul prog 9 .string := ⟨by kernel_rfl⟩
instance oneC_10 : OneC prog 10 := ⟨fun w => by kernel_rfl, by kernel_rfl⟩
instance zeroC_10 : ZeroC prog 10 (.string ⟨#[]⟩) := ⟨by kernel_rfl⟩
instance ul_10 : Ul prog 10 .string := ⟨by kernel_rfl⟩
instance oneC_11 : OneC prog 11 := ⟨fun w => by kernel_rfl, by kernel_rfl⟩
instance zeroC_11 : ZeroC prog 11 (.string ⟨#[]⟩) := ⟨by kernel_rfl⟩
instance ul_11 : Ul prog 11 .string := ⟨by kernel_rfl⟩
instance oneC_12 : OneC prog 12 := ⟨fun w => by kernel_rfl, by kernel_rfl⟩
instance zeroC_12 : ZeroC prog 12 (.int .u64 0) := ⟨by kernel_rfl⟩
instance ul_12 : Ul prog 12 (.int .u64) := ⟨by kernel_rfl⟩
instance aggC_13 : AggC prog 13 2 := ⟨fun w => by kernel_rfl, by kernel_rfl⟩
instance zeroC_13 : ZeroC prog 13 (.agg #[(.string ⟨#[]⟩), (.int .u64 0)]) := ⟨by kernel_rfl⟩
instance fld_13_0 : FldOff prog 13 0 0 := ⟨fun b o w => by kernel_rfl⟩
instance fld_13_1 : FldOff prog 13 1 1 := ⟨fun b o w => by kernel_rfl⟩
instance aggC_14 : AggC prog 14 2 := ⟨fun w => by kernel_rfl, by kernel_rfl⟩
instance zeroC_14 : ZeroC prog 14 (.agg #[(.string ⟨#[]⟩), (.int .u64 0)]) := ⟨by kernel_rfl⟩
instance fld_14_0 : FldOff prog 14 0 0 := ⟨fun b o w => by kernel_rfl⟩
instance fld_14_1 : FldOff prog 14 1 1 := ⟨fun b o w => by kernel_rfl⟩
instance oneC_15 : OneC prog 15 := ⟨fun w => by kernel_rfl, by kernel_rfl⟩
instance zeroC_15 : ZeroC prog 15 (.pointer none) := ⟨by kernel_rfl⟩
instance ul_15 : Ul prog 15 (.pointer 121) := ⟨by kernel_rfl⟩
instance oneC_16 : OneC prog 16 := ⟨fun w => by kernel_rfl, by kernel_rfl⟩
instance zeroC_16 : ZeroC prog 16 (.pointer none) := ⟨by kernel_rfl⟩
instance ul_16 : Ul prog 16 (.pointer 124) := ⟨by kernel_rfl⟩
instance oneC_17 : OneC prog 17 := ⟨fun w => by kernel_rfl, by kernel_rfl⟩
instance zeroC_17 : ZeroC prog 17 (.pointer none) := ⟨by kernel_rfl⟩
instance ul_17 : Ul prog 17 (.pointer 132) := ⟨by kernel_rfl⟩
instance aggC_18 : AggC prog 18 1 := ⟨fun w => by kernel_rfl, by kernel_rfl⟩
instance zeroC_18 : ZeroC prog 18 (.agg #[(.pointer none)]) := ⟨by kernel_rfl⟩
instance fld_18_0 : FldOff prog 18 0 0 := ⟨fun b o w => by kernel_rfl⟩
instance aggC_19 : AggC prog 19 1 := ⟨fun w => by kernel_rfl, by kernel_rfl⟩
instance zeroC_19 : ZeroC prog 19 (.agg #[(.pointer none)]) := ⟨by kernel_rfl⟩
instance fld_19_0 : FldOff prog 19 0 0 := ⟨fun b o w => by kernel_rfl⟩
instance oneC_20 : OneC prog 20 := ⟨fun w => by kernel_rfl, by kernel_rfl⟩
instance zeroC_20 : ZeroC prog 20 .nilIface := ⟨by kernel_rfl⟩
instance oneC_21 : OneC prog 21 := ⟨fun w => by kernel_rfl, by kernel_rfl⟩
instance zeroC_21 : ZeroC prog 21 (.int .i32 0) := ⟨by kernel_rfl⟩
instance ul_21 : Ul prog 21 (.int .i32) := ⟨by kernel_rfl⟩
instance oneC_22 : OneC prog 22 := ⟨fun w => by kernel_rfl, by kernel_rfl⟩
instance zeroC_22 : ZeroC prog 22 (.slice none 0 0) := ⟨by kernel_rfl⟩
instance sliceT_22 : SliceT prog 22 9 1 16 (.string ⟨#[]⟩) := ⟨by kernel_rfl, by kernel_rfl, rfl, by decide⟩
instance ul_22 : Ul prog 22 (.slice 9) := ⟨by kernel_rfl⟩
instance oneC_23 : OneC prog 23 := ⟨fun w => by kernel_rfl, by kernel_rfl⟩
instance zeroC_23 : ZeroC prog 23 (.slice none 0 0) := ⟨by kernel_rfl⟩
instance sliceT_23 : SliceT prog 23 5 1 1 (.int .u8 0) := ⟨by kernel_rfl, by kernel_rfl, rfl, by decide⟩
instance ul_23 : Ul prog 23 (.slice 5) := ⟨by kernel_rfl⟩
instance oneC_24 : OneC prog 24 := ⟨fun w => by kernel_rfl, by kernel_rfl⟩
instance zeroC_24 : ZeroC prog 24 (.int .i64 0) := ⟨by kernel_rfl⟩
instance ul_24 : Ul prog 24 (.int .i64) := ⟨by kernel_rfl⟩
instance oneC_49 : OneC prog 49 := ⟨fun w => by kernel_rfl, by kernel_rfl⟩
instance zeroC_49 : ZeroC prog 49 (.int .u64 0) := ⟨by kernel_rfl⟩
instance ul_49 : Ul prog 49 (.int .u64) := ⟨by kernel_rfl⟩
instance oneC_50 : OneC prog 50 := ⟨fun w => by kernel_rfl, by kernel_rfl⟩
instance zeroC_50 : ZeroC prog 50 .nilIface := ⟨by kernel_rfl⟩
instance oneC_51 : OneC prog 51 := ⟨fun w => by kernel_rfl, by kernel_rfl⟩
instance zeroC_51 : ZeroC prog 51 .nilIface := ⟨by kernel_rfl⟩
instance aggC_58 : AggC prog 58 256 := ⟨fun w => by kernel_rfl, by kernel_rfl⟩
instance zeroC_58 : ZeroC prog 58 (.agg #[(.bool false), (.bool false), (.bool false), (.bool false), (.bool false), (.bool false), (.bool false), (.bool false), (.bool false), (.bool false), (.bool false), (.bool false), (.bool false), (.bool false), (.bool false), (.bool false), (.bool false), (.bool false), (.bool false), (.bool false), (.bool false), (.bool false), (.bool false), (.bool false), (.bool false), (.bool false), (.bool false), (.bool false), (.bool false), (.bool false), (.bool false), (.bool false), (.bool false), (.bool false), (.bool false), (.bool false), (.bool false), (.bool false), (.bool false), (.bool false), (.bool false), (.bool false), (.bool false), (.bool false), (.bool false), (.bool false), (.bool false), (.bool false), (.bool false), (.bool false), (.bool false), (.bool false), (.bool false), (.bool false), (.bool false), (.bool false), (.bool false), (.bool false), (.bool false), (.bool false), (.bool false), (.bool false), (.bool false), (.bool false), (.bool false), (.bool false), (.bool false), (.bool false), (.bool false), (.bool false), (.bool false), (.bool false), (.bool false), (.bool false), (.bool false), (.bool false), (.bool false), (.bool false), (.bool false), (.bool false), (.bool false), (.bool false), (.bool false), (.bool false), (.bool false), (.bool false), (.bool false), (.bool false), (.bool false), (.bool false), (.bool false), (.bool false), (.bool false), (.bool false), (.bool false), (.bool false), (.bool false), (.bool false), (.bool false), (.bool false), (.bool false), (.bool false), (.bool false), (.bool false), (.bool false), (.bool false), (.bool false), (.bool false), (.bool false), (.bool false), (.bool false), (.bool false), (.bool false), (.bool false), (.bool false), (.bool false), (.bool false), (.bool false), (.bool false), (.bool false), (.bool false), (.bool false), (.bool false), (.bool false), (.bool false), (.bool false), (.bool false), (.bool false), (.bool false), (.bool false), (.bool false), (.bool false), (.bool false), (.bool false), (.bool false), (.bool false), (.bool false), (.bool false), (.bool false), (.bool false), (.bool false), (.bool false), (.bool false), (.bool false), (.bool false), (.bool false), (.bool false), (.bool false), (.bool false), (.bool false), (.bool false), (.bool false), (.bool false), (.bool false), (.bool false), (.bool false), (.bool false), (.bool false), (.bool false), (.bool false), (.bool false), (.bool false), (.bool false), (.bool false), (.bool false), (.bool false), (.bool false), (.bool false), (.bool false), (.bool false), (.bool false), (.bool false), (.bool false), (.bool false), (.bool false), (.bool false), (.bool false), (.bool false), (.bool false), (.bool false), (.bool false), (.bool false), (.bool false), (.bool false), (.bool false), (.bool false), (.bool false), (.bool false), (.bool false), (.bool false), (.bool false), (.bool false), (.bool false), (.bool false), (.bool false), (.bool false), (.bool false), (.bool false), (.bool false), (.bool false), (.bool false), (.bool false), (.bool false), (.bool false), (.bool false), (.bool false), (.bool false), (.bool false), (.bool false), (.bool false), (.bool false), (.bool false), (.bool false), (.bool false), (.bool false), (.bool false), (.bool false), (.bool false), (.bool false), (.bool false), (.bool false), (.bool false), (.bool false), (.bool false), (.bool false), (.bool false), (.bool false), (.bool false), (.bool false), (.bool false), (.bool false), (.bool false), (.bool false), (.bool false), (.bool false), (.bool false), (.bool false), (.bool false), (.bool false), (.bool false), (.bool false), (.bool false), (.bool false), (.bool false), (.bool false), (.bool false), (.bool false), (.bool false), (.bool false), (.bool false), (.bool false), (.bool false), (.bool false), (.bool false), (.bool false), (.bool false)]) := ⟨by kernel_rfl⟩
instance ul_58 : Ul prog 58 (.array 256 4) := ⟨by kernel_rfl⟩
instance aggC_59 : AggC prog 59 256 := ⟨fun w => by kernel_rfl, by kernel_rfl⟩
instance zeroC_59 : ZeroC prog 59 (.agg #[(.bool false), (.bool false), (.bool false), (.bool false), (.bool false), (.bool false), (.bool false), (.bool false), (.bool false), (.bool false), (.bool false), (.bool false), (.bool false), (.bool false), (.bool false), (.bool false), (.bool false), (.bool false), (.bool false), (.bool false), (.bool false), (.bool false), (.bool false), (.bool false), (.bool false), (.bool false), (.bool false), (.bool false), (.bool false), (.bool false), (.bool false), (.bool false), (.bool false), (.bool false), (.bool false), (.bool false), (.bool false), (.bool false), (.bool false), (.bool false), (.bool false), (.bool false), (.bool false), (.bool false), (.bool false), (.bool false), (.bool false), (.bool false), (.bool false), (.bool false), (.bool false), (.bool false), (.bool false), (.bool false), (.bool false), (.bool false), (.bool false), (.bool false), (.bool false), (.bool false), (.bool false), (.bool false), (.bool false), (.bool false), (.bool false), (.bool false), (.bool false), (.bool false), (.bool false), (.bool false), (.bool false), (.bool false), (.bool false), (.bool false), (.bool false), (.bool false), (.bool false), (.bool false), (.bool false), (.bool false), (.bool false), (.bool false), (.bool false), (.bool false), (.bool false), (.bool false), (.bool false), (.bool false), (.bool false), (.bool false), (.bool false), (.bool false), (.bool false), (.bool false), (.bool false), (.bool false), (.bool false), (.bool false), (.bool false), (.bool false), (.bool false), (.bool false), (.bool false), (.bool false), (.bool false), (.bool false), (.bool false), (.bool false), (.bool false), (.bool false), (.bool false), (.bool false), (.bool false), (.bool false), (.bool false), (.bool false), (.bool false), (.bool false), (.bool false), (.bool false), (.bool false), (.bool false), (.bool false), (.bool false), (.bool false), (.bool false), (.bool false), (.bool false), (.bool false), (.bool false), (.bool false), (.bool false), (.bool false), (.bool false), (.bool false), (.bool false), (.bool false), (.bool false), (.bool false), (.bool false), (.bool false), (.bool false), (.bool false), (.bool false), (.bool false), (.bool false), (.bool false), (.bool false), (.bool false), (.bool false), (.bool false), (.bool false), (.bool false), (.bool false), (.bool false), (.bool false), (.bool false), (.bool false), (.bool false), (.bool false), (.bool false), (.bool false), (.bool false), (.bool false), (.bool false), (.bool false), (.bool false), (.bool false), (.bool false), (.bool false), (.bool false), (.bool false), (.bool false), (.bool false), (.bool false), (.bool false), (.bool false), (.bool false), (.bool false), (.bool false), (.bool false), (.bool false), (.bool false), (.bool false), (.bool false), (.bool false), (.bool false), (.bool false), (.bool false), (.bool false), (.bool false), (.bool false), (.bool false), (.bool false), (.bool false), (.bool false), (.bool false), (.bool false), (.bool false), (.bool false), (.bool false), (.bool false), (.bool false), (.bool false), (.bool false), (.bool false), (.bool false), (.bool false), (.bool false), (.bool false), (.bool false), (.bool false), (.bool false), (.bool false), (.bool false), (.bool false), (.bool false), (.bool false), (.bool false), (.bool false), (.bool false), (.bool false), (.bool false), (.bool false), (.bool false), (.bool false), (.bool false), (.bool false), (.bool false), (.bool false), (.bool false), (.bool false), (.bool false), (.bool false), (.bool false), (.bool false), (.bool false), (.bool false), (.bool false), (.bool false), (.bool false), (.bool false), (.bool false), (.bool false), (.bool false), (.bool false), (.bool false), (.bool false), (.bool false), (.bool false), (.bool false), (.bool false), (.bool false), (.bool false), (.bool false), (.bool false)]) := ⟨by kernel_rfl⟩
instance ul_59 : Ul prog 59 (.array 256 4) := ⟨by kernel_rfl⟩
instance oneC_63 : OneC prog 63 := ⟨fun w => by kernel_rfl, by kernel_rfl⟩
instance zeroC_63 : ZeroC prog 63 (.pointer none) := ⟨by kernel_rfl⟩
instance ul_63 : Ul prog 63 (.pointer 59) := ⟨by kernel_rfl⟩
instance oneC_66 : OneC prog 66 := ⟨fun w => by kernel_rfl, by kernel_rfl⟩
instance zeroC_66 : ZeroC prog 66 (.pointer none) := ⟨by kernel_rfl⟩
instance ul_66 : Ul prog 66 (.pointer 68) := ⟨by kernel_rfl⟩
instance aggC_67 : AggC prog 67 2 := ⟨fun w => by kernel_rfl, by kernel_rfl⟩
instance zeroC_67 : ZeroC prog 67 (.agg #[(.pointer none), (.slice none 0 0)]) := ⟨by kernel_rfl⟩
instance fld_67_0 : FldOff prog 67 0 0 := ⟨fun b o w => by kernel_rfl⟩
instance fld_67_1 : FldOff prog 67 1 1 := ⟨fun b o w => by kernel_rfl⟩
instance aggC_68 : AggC prog 68 2 := ⟨fun w => by kernel_rfl, by kernel_rfl⟩
instance zeroC_68 : ZeroC prog 68 (.agg #[(.pointer none), (.slice none 0 0)]) := ⟨by kernel_rfl⟩
instance fld_68_0 : FldOff prog 68 0 0 := ⟨fun b o w => by kernel_rfl⟩
instance fld_68_1 : FldOff prog 68 1 1 := ⟨fun b o w => by kernel_rfl⟩
instance aggC_76 : AggC prog 76 24 := ⟨fun w => by kernel_rfl, by kernel_rfl⟩
instance zeroC_76 : ZeroC prog 76 (.agg #[(.int .u8 0), (.int .u8 0), (.int .u8 0), (.int .u8 0), (.int .u8 0), (.int .u8 0), (.int .u8 0), (.int .u8 0), (.int .u8 0), (.int .u8 0), (.int .u8 0), (.int .u8 0), (.int .u8 0), (.int .u8 0), (.int .u8 0), (.int .u8 0), (.int .u8 0), (.int .u8 0), (.int .u8 0), (.int .u8 0), (.int .u8 0), (.int .u8 0), (.int .u8 0), (.int .u8 0)]) := ⟨by kernel_rfl⟩
instance ul_76 : Ul prog 76 (.array 24 5) := ⟨by kernel_rfl⟩
instance oneC_83 : OneC prog 83 := ⟨fun w => by kernel_rfl, by kernel_rfl⟩
instance zeroC_83 : ZeroC prog 83 (.int .i64 0) := ⟨by kernel_rfl⟩
instance ul_83 : Ul prog 83 (.int .i64) := ⟨by kernel_rfl⟩
instance oneC_85 : OneC prog 85 := ⟨fun w => by kernel_rfl, by kernel_rfl⟩
instance zeroC_85 : ZeroC prog 85 (.int .u64 0) := ⟨by kernel_rfl⟩
instance ul_85 : Ul prog 85 (.int .u64) := ⟨by kernel_rfl⟩
instance oneC_87 : OneC prog 87 := ⟨fun w => by kernel_rfl, by kernel_rfl⟩
instance zeroC_87 : ZeroC prog 87 (.pointer none) := ⟨by kernel_rfl⟩
instance ul_87 : Ul prog 87 (.pointer 102) := ⟨by kernel_rfl⟩
instance oneC_92 : OneC prog 92 := ⟨fun w => by kernel_rfl, by kernel_rfl⟩
instance zeroC_92 : ZeroC prog 92 (.pointer none) := ⟨by kernel_rfl⟩
instance ul_92 : Ul prog 92 (.pointer 5) := ⟨by kernel_rfl⟩
instance aggC_95 : AggC prog 95 20 := ⟨fun w => by kernel_rfl, by kernel_rfl⟩
instance zeroC_95 : ZeroC prog 95 (.agg #[(.int .u64 0), (.int .u64 0), (.int .u64 0), (.int .u64 0), (.int .u64 0), (.int .u64 0), (.int .u64 0), (.int .u64 0), (.int .u64 0), (.int .u64 0), (.int .u64 0), (.int .u64 0), (.int .u64 0), (.int .u64 0), (.int .u64 0), (.int .u64 0), (.int .u64 0), (.int .u64 0), (.int .u64 0), (.int .u64 0)]) := ⟨by kernel_rfl⟩
instance ul_95 : Ul prog 95 (.array 20 49) := ⟨by kernel_rfl⟩
instance oneC_96 : OneC prog 96 := ⟨fun w => by kernel_rfl, by kernel_rfl⟩
instance zeroC_96 : ZeroC prog 96 (.int .u32 0) := ⟨by kernel_rfl⟩
instance ul_96 : Ul prog 96 (.int .u32) := ⟨by kernel_rfl⟩
instance aggC_97 : AggC prog 97 65 := ⟨fun w => by kernel_rfl, by kernel_rfl⟩
instance zeroC_97 : ZeroC prog 97 (.agg #[(.int .u8 0), (.int .u8 0), (.int .u8 0), (.int .u8 0), (.int .u8 0), (.int .u8 0), (.int .u8 0), (.int .u8 0), (.int .u8 0), (.int .u8 0), (.int .u8 0), (.int .u8 0), (.int .u8 0), (.int .u8 0), (.int .u8 0), (.int .u8 0), (.int .u8 0), (.int .u8 0), (.int .u8 0), (.int .u8 0), (.int .u8 0), (.int .u8 0), (.int .u8 0), (.int .u8 0), (.int .u8 0), (.int .u8 0), (.int .u8 0), (.int .u8 0), (.int .u8 0), (.int .u8 0), (.int .u8 0), (.int .u8 0), (.int .u8 0), (.int .u8 0), (.int .u8 0), (.int .u8 0), (.int .u8 0), (.int .u8 0), (.int .u8 0), (.int .u8 0), (.int .u8 0), (.int .u8 0), (.int .u8 0), (.int .u8 0), (.int .u8 0), (.int .u8 0), (.int .u8 0), (.int .u8 0), (.int .u8 0), (.int .u8 0), (.int .u8 0), (.int .u8 0), (.int .u8 0), (.int .u8 0), (.int .u8 0), (.int .u8 0), (.int .u8 0), (.int .u8 0), (.int .u8 0), (.int .u8 0), (.int .u8 0), (.int .u8 0), (.int .u8 0), (.int .u8 0), (.int .u8 0)]) := ⟨by kernel_rfl⟩
instance ul_97 : Ul prog 97 (.array 65 5) := ⟨by kernel_rfl⟩
instance aggC_101 : AggC prog 101 3 := ⟨fun w => by kernel_rfl, by kernel_rfl⟩
instance zeroC_101 : ZeroC prog 101 (.agg #[(.string ⟨#[]⟩), (.string ⟨#[]⟩), .nilIface]) := ⟨by kernel_rfl⟩
instance fld_101_0 : FldOff prog 101 0 0 := ⟨fun b o w => by kernel_rfl⟩
instance fld_101_1 : FldOff prog 101 1 1 := ⟨fun b o w => by kernel_rfl⟩
instance fld_101_2 : FldOff prog 101 2 2 := ⟨fun b o w => by kernel_rfl⟩
instance aggC_102 : AggC prog 102 3 := ⟨fun w => by kernel_rfl, by kernel_rfl⟩
instance zeroC_102 : ZeroC prog 102 (.agg #[(.string ⟨#[]⟩), (.string ⟨#[]⟩), .nilIface]) := ⟨by kernel_rfl⟩
instance fld_102_0 : FldOff prog 102 0 0 := ⟨fun b o w => by kernel_rfl⟩
instance fld_102_1 : FldOff prog 102 1 1 := ⟨fun b o w => by kernel_rfl⟩
instance fld_102_2 : FldOff prog 102 2 2 := ⟨fun b o w => by kernel_rfl⟩
instance oneC_104 : OneC prog 104 := ⟨fun w => by kernel_rfl, by kernel_rfl⟩
instance zeroC_104 : ZeroC prog 104 (.pointer none) := ⟨by kernel_rfl⟩
instance aggC_107 : AggC prog 107 256 := ⟨fun w => by kernel_rfl, by kernel_rfl⟩
instance zeroC_107 : ZeroC prog 107 (.agg #[(.int .u8 0), (.int .u8 0), (.int .u8 0), (.int .u8 0), (.int .u8 0), (.int .u8 0), (.int .u8 0), (.int .u8 0), (.int .u8 0), (.int .u8 0), (.int .u8 0), (.int .u8 0), (.int .u8 0), (.int .u8 0), (.int .u8 0), (.int .u8 0), (.int .u8 0), (.int .u8 0), (.int .u8 0), (.int .u8 0), (.int .u8 0), (.int .u8 0), (.int .u8 0), (.int .u8 0), (.int .u8 0), (.int .u8 0), (.int .u8 0), (.int .u8 0), (.int .u8 0), (.int .u8 0), (.int .u8 0), (.int .u8 0), (.int .u8 0), (.int .u8 0), (.int .u8 0), (.int .u8 0), (.int .u8 0), (.int .u8 0), (.int .u8 0), (.int .u8 0), (.int .u8 0), (.int .u8 0), (.int .u8 0), (.int .u8 0), (.int .u8 0), (.int .u8 0), (.int .u8 0), (.int .u8 0), (.int .u8 0), (.int .u8 0), (.int .u8 0), (.int .u8 0), (.int .u8 0), (.int .u8 0), (.int .u8 0), (.int .u8 0), (.int .u8 0), (.int .u8 0), (.int .u8 0), (.int .u8 0), (.int .u8 0), (.int .u8 0), (.int .u8 0), (.int .u8 0), (.int .u8 0), (.int .u8 0), (.int .u8 0), (.int .u8 0), (.int .u8 0), (.int .u8 0), (.int .u8 0), (.int .u8 0), (.int .u8 0), (.int .u8 0), (.int .u8 0), (.int .u8 0), (.int .u8 0), (.int .u8 0), (.int .u8 0), (.int .u8 0), (.int .u8 0), (.int .u8 0), (.int .u8 0), (.int .u8 0), (.int .u8 0), (.int .u8 0), (.int .u8 0), (.int .u8 0), (.int .u8 0), (.int .u8 0), (.int .u8 0), (.int .u8 0), (.int .u8 0), (.int .u8 0), (.int .u8 0), (.int .u8 0), (.int .u8 0), (.int .u8 0), (.int .u8 0), (.int .u8 0), (.int .u8 0), (.int .u8 0), (.int .u8 0), (.int .u8 0), (.int .u8 0), (.int .u8 0), (.int .u8 0), (.int .u8 0), (.int .u8 0), (.int .u8 0), (.int .u8 0), (.int .u8 0), (.int .u8 0), (.int .u8 0), (.int .u8 0), (.int .u8 0), (.int .u8 0), (.int .u8 0), (.int .u8 0), (.int .u8 0), (.int .u8 0), (.int .u8 0), (.int .u8 0), (.int .u8 0), (.int .u8 0), (.int .u8 0), (.int .u8 0), (.int .u8 0), (.int .u8 0), (.int .u8 0), (.int .u8 0), (.int .u8 0), (.int .u8 0), (.int .u8 0), (.int .u8 0), (.int .u8 0), (.int .u8 0), (.int .u8 0), (.int .u8 0), (.int .u8 0), (.int .u8 0), (.int .u8 0), (.int .u8 0), (.int .u8 0), (.int .u8 0), (.int .u8 0), (.int .u8 0), (.int .u8 0), (.int .u8 0), (.int .u8 0), (.int .u8 0), (.int .u8 0), (.int .u8 0), (.int .u8 0), (.int .u8 0), (.int .u8 0), (.int .u8 0), (.int .u8 0), (.int .u8 0), (.int .u8 0), (.int .u8 0), (.int .u8 0), (.int .u8 0), (.int .u8 0), (.int .u8 0), (.int .u8 0), (.int .u8 0), (.int .u8 0), (.int .u8 0), (.int .u8 0), (.int .u8 0), (.int .u8 0), (.int .u8 0), (.int .u8 0), (.int .u8 0), (.int .u8 0), (.int .u8 0), (.int .u8 0), (.int .u8 0), (.int .u8 0), (.int .u8 0), (.int .u8 0), (.int .u8 0), (.int .u8 0), (.int .u8 0), (.int .u8 0), (.int .u8 0), (.int .u8 0), (.int .u8 0), (.int .u8 0), (.int .u8 0), (.int .u8 0), (.int .u8 0), (.int .u8 0), (.int .u8 0), (.int .u8 0), (.int .u8 0), (.int .u8 0), (.int .u8 0), (.int .u8 0), (.int .u8 0), (.int .u8 0), (.int .u8 0), (.int .u8 0), (.int .u8 0), (.int .u8 0), (.int .u8 0), (.int .u8 0), (.int .u8 0), (.int .u8 0), (.int .u8 0), (.int .u8 0), (.int .u8 0), (.int .u8 0), (.int .u8 0), (.int .u8 0), (.int .u8 0), (.int .u8 0), (.int .u8 0), (.int .u8 0), (.int .u8 0), (.int .u8 0), (.int .u8 0), (.int .u8 0), (.int .u8 0), (.int .u8 0), (.int .u8 0), (.int .u8 0), (.int .u8 0), (.int .u8 0), (.int .u8 0), (.int .u8 0), (.int .u8 0), (.int .u8 0), (.int .u8 0), (.int .u8 0), (.int .u8 0), (.int .u8 0), (.int .u8 0), (.int .u8 0), (.int .u8 0), (.int .u8 0), (.int .u8 0), (.int .u8 0), (.int .u8 0), (.int .u8 0), (.int .u8 0), (.int .u8 0), (.int .u8 0), (.int .u8 0), (.int .u8 0), (.int .u8 0), (.int .u8 0), (.int .u8 0), (.int .u8 0), (.int .u8 0)]) := ⟨by kernel_rfl⟩
instance ul_107 : Ul prog 107 (.array 256 5) := ⟨by kernel_rfl⟩
instance aggC_108 : AggC prog 108 2 := ⟨fun w => by kernel_rfl, by kernel_rfl⟩
instance zeroC_108 : ZeroC prog 108 (.agg #[(.int .u8 0), (.int .u8 0)]) := ⟨by kernel_rfl⟩
instance fld_108_0 : FldOff prog 108 0 0 := ⟨fun b o w => by kernel_rfl⟩
instance fld_108_1 : FldOff prog 108 1 1 := ⟨fun b o w => by kernel_rfl⟩
instance aggC_109 : AggC prog 109 2 := ⟨fun w => by kernel_rfl, by kernel_rfl⟩
instance zeroC_109 : ZeroC prog 109 (.agg #[(.int .u8 0), (.int .u8 0)]) := ⟨by kernel_rfl⟩
instance fld_109_0 : FldOff prog 109 0 0 := ⟨fun b o w => by kernel_rfl⟩
instance fld_109_1 : FldOff prog 109 1 1 := ⟨fun b o w => by kernel_rfl⟩
instance aggC_110 : AggC prog 110 32 := ⟨fun w => by kernel_rfl, by kernel_rfl⟩
instance zeroC_110 : ZeroC prog 110 (.agg #[(.int .u8 0), (.int .u8 0), (.int .u8 0), (.int .u8 0), (.int .u8 0), (.int .u8 0), (.int .u8 0), (.int .u8 0), (.int .u8 0), (.int .u8 0), (.int .u8 0), (.int .u8 0), (.int .u8 0), (.int .u8 0), (.int .u8 0), (.int .u8 0), (.int .u8 0), (.int .u8 0), (.int .u8 0), (.int .u8 0), (.int .u8 0), (.int .u8 0), (.int .u8 0), (.int .u8 0), (.int .u8 0), (.int .u8 0), (.int .u8 0), (.int .u8 0), (.int .u8 0), (.int .u8 0), (.int .u8 0), (.int .u8 0)]) := ⟨by kernel_rfl⟩
instance ul_110 : Ul prog 110 (.array 16 109) := ⟨by kernel_rfl⟩
instance oneC_113 : OneC prog 113 := ⟨fun w => by kernel_rfl, by kernel_rfl⟩
instance zeroC_113 : ZeroC prog 113 (.pointer none) := ⟨by kernel_rfl⟩
instance ul_113 : Ul prog 113 (.pointer 115) := ⟨by kernel_rfl⟩
instance aggC_114 : AggC prog 114 1 := ⟨fun w => by kernel_rfl, by kernel_rfl⟩
instance zeroC_114 : ZeroC prog 114 (.agg #[(.string ⟨#[]⟩)]) := ⟨by kernel_rfl⟩
instance fld_114_0 : FldOff prog 114 0 0 := ⟨fun b o w => by kernel_rfl⟩
instance aggC_115 : AggC prog 115 1 := ⟨fun w => by kernel_rfl, by kernel_rfl⟩
instance zeroC_115 : ZeroC prog 115 (.agg #[(.string ⟨#[]⟩)]) := ⟨by kernel_rfl⟩
instance fld_115_0 : FldOff prog 115 0 0 := ⟨fun b o w => by kernel_rfl⟩
instance aggC_118 : AggC prog 118 32 := ⟨fun w => by kernel_rfl, by kernel_rfl⟩
instance zeroC_118 : ZeroC prog 118 (.agg #[(.int .u8 0), (.int .u8 0), (.int .u8 0), (.int .u8 0), (.int .u8 0), (.int .u8 0), (.int .u8 0), (.int .u8 0), (.int .u8 0), (.int .u8 0), (.int .u8 0), (.int .u8 0), (.int .u8 0), (.int .u8 0), (.int .u8 0), (.int .u8 0), (.int .u8 0), (.int .u8 0), (.int .u8 0), (.int .u8 0), (.int .u8 0), (.int .u8 0), (.int .u8 0), (.int .u8 0), (.int .u8 0), (.int .u8 0), (.int .u8 0), (.int .u8 0), (.int .u8 0), (.int .u8 0), (.int .u8 0), (.int .u8 0)]) := ⟨by kernel_rfl⟩
instance ul_118 : Ul prog 118 (.array 32 5) := ⟨by kernel_rfl⟩
instance aggC_119 : AggC prog 119 64 := ⟨fun w => by kernel_rfl, by kernel_rfl⟩
instance zeroC_119 : ZeroC prog 119 (.agg #[(.int .u8 0), (.int .u8 0), (.int .u8 0), (.int .u8 0), (.int .u8 0), (.int .u8 0), (.int .u8 0), (.int .u8 0), (.int .u8 0), (.int .u8 0), (.int .u8 0), (.int .u8 0), (.int .u8 0), (.int .u8 0), (.int .u8 0), (.int .u8 0), (.int .u8 0), (.int .u8 0), (.int .u8 0), (.int .u8 0), (.int .u8 0), (.int .u8 0), (.int .u8 0), (.int .u8 0), (.int .u8 0), (.int .u8 0), (.int .u8 0), (.int .u8 0), (.int .u8 0), (.int .u8 0), (.int .u8 0), (.int .u8 0), (.int .u8 0), (.int .u8 0), (.int .u8 0), (.int .u8 0), (.int .u8 0), (.int .u8 0), (.int .u8 0), (.int .u8 0), (.int .u8 0), (.int .u8 0), (.int .u8 0), (.int .u8 0), (.int .u8 0), (.int .u8 0), (.int .u8 0), (.int .u8 0), (.int .u8 0), (.int .u8 0), (.int .u8 0), (.int .u8 0), (.int .u8 0), (.int .u8 0), (.int .u8 0), (.int .u8 0), (.int .u8 0), (.int .u8 0), (.int .u8 0), (.int .u8 0), (.int .u8 0), (.int .u8 0), (.int .u8 0), (.int .u8 0)]) := ⟨by kernel_rfl⟩
instance ul_119 : Ul prog 119 (.array 64 5) := ⟨by kernel_rfl⟩
instance aggC_120 : AggC prog 120 4 := ⟨fun w => by kernel_rfl, by kernel_rfl⟩
instance zeroC_120 : ZeroC prog 120 (.agg #[(.pointer none), (.pointer none), (.pointer none), (.string ⟨#[]⟩)]) := ⟨by kernel_rfl⟩
instance fld_120_0 : FldOff prog 120 0 0 := ⟨fun b o w => by kernel_rfl⟩
instance fld_120_1 : FldOff prog 120 1 1 := ⟨fun b o w => by kernel_rfl⟩
instance fld_120_2 : FldOff prog 120 2 2 := ⟨fun b o w => by kernel_rfl⟩
instance fld_120_3 : FldOff prog 120 3 3 := ⟨fun b o w => by kernel_rfl⟩
instance aggC_121 : AggC prog 121 4 := ⟨fun w => by kernel_rfl, by kernel_rfl⟩
instance zeroC_121 : ZeroC prog 121 (.agg #[(.pointer none), (.pointer none), (.pointer none), (.string ⟨#[]⟩)]) := ⟨by kernel_rfl⟩
instance fld_121_0 : FldOff prog 121 0 0 := ⟨fun b o w => by kernel_rfl⟩
instance fld_121_1 : FldOff prog 121 1 1 := ⟨fun b o w => by kernel_rfl⟩
instance fld_121_2 : FldOff prog 121 2 2 := ⟨fun b o w => by kernel_rfl⟩
instance fld_121_3 : FldOff prog 121 3 3 := ⟨fun b o w => by kernel_rfl⟩
instance aggC_122 : AggC prog 122 0 := ⟨fun w => by kernel_rfl, by kernel_rfl⟩
instance zeroC_122 : ZeroC prog 122 (.agg #[]) := ⟨by kernel_rfl⟩
instance ul_122 : Ul prog 122 (.array 0 16) := ⟨by kernel_rfl⟩
instance aggC_123 : AggC prog 123 0 := ⟨fun w => by kernel_rfl, by kernel_rfl⟩
instance zeroC_123 : ZeroC prog 123 (.agg #[]) := ⟨by kernel_rfl⟩
instance aggC_124 : AggC prog 124 0 := ⟨fun w => by kernel_rfl, by kernel_rfl⟩
instance zeroC_124 : ZeroC prog 124 (.agg #[]) := ⟨by kernel_rfl⟩
instance oneC_126 : OneC prog 126 := ⟨fun w => by kernel_rfl, by kernel_rfl⟩
instance zeroC_126 : ZeroC prog 126 (.int .u8 0) := ⟨by kernel_rfl⟩
instance ul_126 : Ul prog 126 (.int .u8) := ⟨by kernel_rfl⟩
instance oneC_127 : OneC prog 127 := ⟨fun w => by kernel_rfl, by kernel_rfl⟩
instance zeroC_127 : ZeroC prog 127 (.int .u8 0) := ⟨by kernel_rfl⟩
instance ul_127 : Ul prog 127 (.int .u8) := ⟨by kernel_rfl⟩
instance oneC_129 : OneC prog 129 := ⟨fun w => by kernel_rfl, by kernel_rfl⟩
instance zeroC_129 : ZeroC prog 129 (.int .i32 0) := ⟨by kernel_rfl⟩
instance ul_129 : Ul prog 129 (.int .i32) := ⟨by kernel_rfl⟩
instance oneC_130 : OneC prog 130 := ⟨fun w => by kernel_rfl, by kernel_rfl⟩
instance zeroC_130 : ZeroC prog 130 (.int .i32 0) := ⟨by kernel_rfl⟩
instance ul_130 : Ul prog 130 (.int .i32) := ⟨by kernel_rfl⟩
instance aggC_131 : AggC prog 131 11 := ⟨fun w => by kernel_rfl, by kernel_rfl⟩
instance zeroC_131 : ZeroC prog 131 (.agg #[(.int .u64 0), (.int .u64 0), (.int .u32 0), (.int .u8 0), (.int .u8 0), (.int .u8 0), (.int .u8 0), .nilFunc, (.pointer none), (.int .i32 0), (.int .i32 0)]) := ⟨by kernel_rfl⟩
instance fld_131_0 : FldOff prog 131 0 0 := ⟨fun b o w => by kernel_rfl⟩
instance fld_131_1 : FldOff prog 131 1 1 := ⟨fun b o w => by kernel_rfl⟩
instance fld_131_2 : FldOff prog 131 2 2 := ⟨fun b o w => by kernel_rfl⟩
instance fld_131_3 : FldOff prog 131 3 3 := ⟨fun b o w => by kernel_rfl⟩
instance fld_131_4 : FldOff prog 131 4 4 := ⟨fun b o w => by kernel_rfl⟩
instance fld_131_5 : FldOff prog 131 5 5 := ⟨fun b o w => by kernel_rfl⟩
instance fld_131_6 : FldOff prog 131 6 6 := ⟨fun b o w => by kernel_rfl⟩
instance fld_131_7 : FldOff prog 131 7 7 := ⟨fun b o w => by kernel_rfl⟩
instance fld_131_8 : FldOff prog 131 8 8 := ⟨fun b o w => by kernel_rfl⟩
instance fld_131_9 : FldOff prog 131 9 9 := ⟨fun b o w => by kernel_rfl⟩
instance fld_131_10 : FldOff prog 131 10 10 := ⟨fun b o w => by kernel_rfl⟩
instance aggC_132 : AggC prog 132 11 := ⟨fun w => by kernel_rfl, by kernel_rfl⟩
instance zeroC_132 : ZeroC prog 132 (.agg #[(.int .u64 0), (.int .u64 0), (.int .u32 0), (.int .u8 0), (.int .u8 0), (.int .u8 0), (.int .u8 0), .nilFunc, (.pointer none), (.int .i32 0), (.int .i32 0)]) := ⟨by kernel_rfl⟩
instance fld_132_0 : FldOff prog 132 0 0 := ⟨fun b o w => by kernel_rfl⟩
instance fld_132_1 : FldOff prog 132 1 1 := ⟨fun b o w => by kernel_rfl⟩
instance fld_132_2 : FldOff prog 132 2 2 := ⟨fun b o w => by kernel_rfl⟩
instance fld_132_3 : FldOff prog 132 3 3 := ⟨fun b o w => by kernel_rfl⟩
instance fld_132_4 : FldOff prog 132 4 4 := ⟨fun b o w => by kernel_rfl⟩
instance fld_132_5 : FldOff prog 132 5 5 := ⟨fun b o w => by kernel_rfl⟩
instance fld_132_6 : FldOff prog 132 6 6 := ⟨fun b o w => by kernel_rfl⟩
instance fld_132_7 : FldOff prog 132 7 7 := ⟨fun b o w => by kernel_rfl⟩
instance fld_132_8 : FldOff prog 132 8 8 := ⟨fun b o w => by kernel_rfl⟩
instance fld_132_9 : FldOff prog 132 9 9 := ⟨fun b o w => by kernel_rfl⟩
instance fld_132_10 : FldOff prog 132 10 10 := ⟨fun b o w => by kernel_rfl⟩

end Go.Proofs.YtnkmgkilfkgfhaaDoor
