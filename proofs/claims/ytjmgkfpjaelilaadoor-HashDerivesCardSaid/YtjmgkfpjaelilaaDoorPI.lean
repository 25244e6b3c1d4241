import Derived.Test.YtjmgkfpjaelilaaDoorProg
import Derived.Test.YtjmgkfpjaelilaaDoorVc
import Derived.KernelRfl
set_option linter.all false
set_option maxRecDepth 100000
namespace Go.Proofs.YtjmgkfpjaelilaaDoor
open Go Hold
noncomputable abbrev prog : Program := Tryd.prog
instance oneC_2 : OneC prog 2 := ⟨fun w => by kernel_rfl, by kernel_rfl⟩
instance zeroC_2 : ZeroC prog 2 (.int .i64 0) := ⟨by kernel_rfl⟩
instance ul_2 : Ul prog 2 (.int .i64) := ⟨by kernel_rfl⟩
instance oneC_3 : OneC prog 3 := ⟨fun w => by kernel_rfl, by kernel_rfl⟩
instance zeroC_3 : ZeroC prog 3 (.int .i64 0) := ⟨by kernel_rfl⟩
instance ul_3 : Ul prog 3 (.int .i64) := ⟨by kernel_rfl⟩
instance oneC_4 : OneC prog 4 := ⟨fun w => by kernel_rfl, by kernel_rfl⟩
instance zeroC_4 : ZeroC prog 4 (.bool false) := ⟨by kernel_rfl⟩
instance ul_4 : Ul prog 4 .bool := ⟨by kernel_rfl⟩
instance oneC_5 : OneC prog 5 := ⟨fun w => by kernel_rfl, by kernel_rfl⟩
instance zeroC_5 : ZeroC prog 5 (.int .u8 0) := ⟨by kernel_rfl⟩
instance ul_5 : Ul prog 5 (.int .u8) := ⟨by kernel_rfl⟩
instance oneC_6 : OneC prog 6 := ⟨fun w => by kernel_rfl, by kernel_rfl⟩
instance zeroC_6 : ZeroC prog 6 (.int .u8 0) := ⟨by kernel_rfl⟩
instance ul_6 : Ul prog 6 (.int .u8) := ⟨by kernel_rfl⟩
instance aggC_7 : AggC prog 7 4 := ⟨fun w => by kernel_rfl, by kernel_rfl⟩
instance zeroC_7 : ZeroC prog 7 (.agg #[(.int .i64 0), (.int .i64 0), (.bool false), (.int .u8 0)]) := ⟨by kernel_rfl⟩
instance fld_7_0 : FldOff prog 7 0 0 := ⟨fun b o w => by kernel_rfl⟩
instance fld_7_1 : FldOff prog 7 1 1 := ⟨fun b o w => by kernel_rfl⟩
instance fld_7_2 : FldOff prog 7 2 2 := ⟨fun b o w => by kernel_rfl⟩
instance fld_7_3 : FldOff prog 7 3 3 := ⟨fun b o w => by kernel_rfl⟩
instance aggC_8 : AggC prog 8 4 := ⟨fun w => by kernel_rfl, by kernel_rfl⟩
instance zeroC_8 : ZeroC prog 8 (.agg #[(.int .i64 0), (.int .i64 0), (.bool false), (.int .u8 0)]) := ⟨by kernel_rfl⟩
instance fld_8_0 : FldOff prog 8 0 0 := ⟨fun b o w => by kernel_rfl⟩
instance fld_8_1 : FldOff prog 8 1 1 := ⟨fun b o w => by kernel_rfl⟩
instance fld_8_2 : FldOff prog 8 2 2 := ⟨fun b o w => by kernel_rfl⟩
instance fld_8_3 : FldOff prog 8 3 3 := ⟨fun b o w => by kernel_rfl⟩
instance oneC_9 : OneC prog 9 := ⟨fun w => by kernel_rfl, by kernel_rfl⟩
instance zeroC_9 : ZeroC prog 9 (.string ⟨#[]⟩) := ⟨by kernel_rfl⟩
instance ul_9 : Ul prog 9 .string := ⟨by kernel_rfl⟩
instance oneC_10 : OneC prog 10 := ⟨fun w => by kernel_rfl, by kernel_rfl⟩
instance zeroC_10 : ZeroC prog 10 (.string ⟨#[]⟩) := ⟨by kernel_rfl⟩
instance ul_10 : Ul prog 10 .string := ⟨by kernel_rfl⟩
instance oneC_11 : OneC prog 11 := ⟨fun w => by kernel_rfl, by kernel_rfl⟩
instance zeroC_11 : ZeroC prog 11 (.string ⟨#[]⟩) := ⟨by kernel_rfl⟩
instance ul_11 : Ul prog 11 .string := ⟨by kernel_rfl⟩
instance oneC_12 : OneC prog 12 := ⟨fun w => by kernel_rfl, by kernel_rfl⟩
instance zeroC_12 : ZeroC prog 12 (.int .u64 0) := ⟨by kernel_rfl⟩
instance ul_12 : Ul prog 12 (.int .u64) := ⟨by kernel_rfl⟩
instance aggC_13 : AggC prog 13 2 := ⟨fun w => by kernel_rfl, by kernel_rfl⟩
instance zeroC_13 : ZeroC prog 13 (.agg #[(.string ⟨#[]⟩), (.int .u64 0)]) := ⟨by kernel_rfl⟩
instance fld_13_0 : FldOff prog 13 0 0 := ⟨fun b o w => by kernel_rfl⟩
instance fld_13_1 : FldOff prog 13 1 1 := ⟨fun b o w => by kernel_rfl⟩
instance aggC_14 : AggC prog 14 2 := ⟨fun w => by kernel_rfl, by kernel_rfl⟩
instance zeroC_14 : ZeroC prog 14 (.agg #[(.string ⟨#[]⟩), (.int .u64 0)]) := ⟨by kernel_rfl⟩
instance fld_14_0 : FldOff prog 14 0 0 := ⟨fun b o w => by kernel_rfl⟩
instance fld_14_1 : FldOff prog 14 1 1 := ⟨fun b o w => by kernel_rfl⟩
instance oneC_15 : OneC prog 15 := ⟨fun w => by kernel_rfl, by kernel_rfl⟩
instance zeroC_15 : ZeroC prog 15 (.pointer none) := ⟨by kernel_rfl⟩
instance ul_15 : Ul prog 15 (.pointer 83) := ⟨by kernel_rfl⟩
instance oneC_16 : OneC prog 16 := ⟨fun w => by kernel_rfl, by kernel_rfl⟩
instance zeroC_16 : ZeroC prog 16 (.pointer none) := ⟨by kernel_rfl⟩
instance ul_16 : Ul prog 16 (.pointer 86) := ⟨by kernel_rfl⟩
instance oneC_17 : OneC prog 17 := ⟨fun w => by kernel_rfl, by kernel_rfl⟩
instance zeroC_17 : ZeroC prog 17 (.pointer none) := ⟨by kernel_rfl⟩
instance ul_17 : Ul prog 17 (.pointer 94) := ⟨by kernel_rfl⟩
instance aggC_18 : AggC prog 18 1 := ⟨fun w => by kernel_rfl, by kernel_rfl⟩
instance zeroC_18 : ZeroC prog 18 (.agg #[(.pointer none)]) := ⟨by kernel_rfl⟩
instance fld_18_0 : FldOff prog 18 0 0 := ⟨fun b o w => by kernel_rfl⟩
instance aggC_19 : AggC prog 19 1 := ⟨fun w => by kernel_rfl, by kernel_rfl⟩
instance zeroC_19 : ZeroC prog 19 (.agg #[(.pointer none)]) := ⟨by kernel_rfl⟩
instance fld_19_0 : FldOff prog 19 0 0 := ⟨fun b o w => by kernel_rfl⟩
instance oneC_20 : OneC prog 20 := ⟨fun w => by kernel_rfl, by kernel_rfl⟩
instance zeroC_20 : ZeroC prog 20 .nilIface := ⟨by kernel_rfl⟩
instance oneC_21 : OneC prog 21 := ⟨fun w => by kernel_rfl, by kernel_rfl⟩
instance zeroC_21 : ZeroC prog 21 (.int .i32 0) := ⟨by kernel_rfl⟩
instance ul_21 : Ul prog 21 (.int .i32) := ⟨by kernel_rfl⟩
instance aggC_22 : AggC prog 22 32 := ⟨fun w => by kernel_rfl, by kernel_rfl⟩
instance zeroC_22 : ZeroC prog 22 (.agg #[(.int .u8 0), (.int .u8 0), (.int .u8 0), (.int .u8 0), (.int .u8 0), (.int .u8 0), (.int .u8 0), (.int .u8 0), (.int .u8 0), (.int .u8 0), (.int .u8 0), (.int .u8 0), (.int .u8 0), (.int .u8 0), (.int .u8 0), (.int .u8 0), (.int .u8 0), (.int .u8 0), (.int .u8 0), (.int .u8 0), (.int .u8 0), (.int .u8 0), (.int .u8 0), (.int .u8 0), (.int .u8 0), (.int .u8 0), (.int .u8 0), (.int .u8 0), (.int .u8 0), (.int .u8 0), (.int .u8 0), (.int .u8 0)]) := ⟨by kernel_rfl⟩
instance ul_22 : Ul prog 22 (.array 32 5) := ⟨by kernel_rfl⟩
instance aggC_23 : AggC prog 23 32 := ⟨fun w => by kernel_rfl, by kernel_rfl⟩
instance zeroC_23 : ZeroC prog 23 (.agg #[(.int .u8 0), (.int .u8 0), (.int .u8 0), (.int .u8 0), (.int .u8 0), (.int .u8 0), (.int .u8 0), (.int .u8 0), (.int .u8 0), (.int .u8 0), (.int .u8 0), (.int .u8 0), (.int .u8 0), (.int .u8 0), (.int .u8 0), (.int .u8 0), (.int .u8 0), (.int .u8 0), (.int .u8 0), (.int .u8 0), (.int .u8 0), (.int .u8 0), (.int .u8 0), (.int .u8 0), (.int .u8 0), (.int .u8 0), (.int .u8 0), (.int .u8 0), (.int .u8 0), (.int .u8 0), (.int .u8 0), (.int .u8 0)]) := ⟨by kernel_rfl⟩
instance ul_23 : Ul prog 23 (.array 32 5) := ⟨by kernel_rfl⟩
instance oneC_24 : OneC prog 24 := ⟨fun w => by kernel_rfl, by kernel_rfl⟩
instance zeroC_24 : ZeroC prog 24 (.slice none 0 0) := ⟨by kernel_rfl⟩
instance sliceT_24 : SliceT prog 24 9 1 16 (.string ⟨#[]⟩) := ⟨by kernel_rfl, by kernel_rfl, rfl, by decide⟩
instance ul_24 : Ul prog 24 (.slice 9) := ⟨by kernel_rfl⟩
instance oneC_25 : OneC prog 25 := ⟨fun w => by kernel_rfl, by kernel_rfl⟩
instance zeroC_25 : ZeroC prog 25 (.slice none 0 0) := ⟨by kernel_rfl⟩
instance sliceT_25 : SliceT prog 25 5 1 1 (.int .u8 0) := ⟨by kernel_rfl, by kernel_rfl, rfl, by decide⟩
instance ul_25 : Ul prog 25 (.slice 5) := ⟨by kernel_rfl⟩
instance oneC_26 : OneC prog 26 := ⟨fun w => by kernel_rfl, by kernel_rfl⟩
instance zeroC_26 : ZeroC prog 26 (.int .i64 0) := ⟨by kernel_rfl⟩
instance ul_26 : Ul prog 26 (.int .i64) := ⟨by kernel_rfl⟩
instance aggC_41 : AggC prog 41 64 := ⟨fun w => by kernel_rfl, by kernel_rfl⟩
instance zeroC_41 : ZeroC prog 41 (.agg #[(.int .u8 0), (.int .u8 0), (.int .u8 0), (.int .u8 0), (.int .u8 0), (.int .u8 0), (.int .u8 0), (.int .u8 0), (.int .u8 0), (.int .u8 0), (.int .u8 0), (.int .u8 0), (.int .u8 0), (.int .u8 0), (.int .u8 0), (.int .u8 0), (.int .u8 0), (.int .u8 0), (.int .u8 0), (.int .u8 0), (.int .u8 0), (.int .u8 0), (.int .u8 0), (.int .u8 0), (.int .u8 0), (.int .u8 0), (.int .u8 0), (.int .u8 0), (.int .u8 0), (.int .u8 0), (.int .u8 0), (.int .u8 0), (.int .u8 0), (.int .u8 0), (.int .u8 0), (.int .u8 0), (.int .u8 0), (.int .u8 0), (.int .u8 0), (.int .u8 0), (.int .u8 0), (.int .u8 0), (.int .u8 0), (.int .u8 0), (.int .u8 0), (.int .u8 0), (.int .u8 0), (.int .u8 0), (.int .u8 0), (.int .u8 0), (.int .u8 0), (.int .u8 0), (.int .u8 0), (.int .u8 0), (.int .u8 0), (.int .u8 0), (.int .u8 0), (.int .u8 0), (.int .u8 0), (.int .u8 0), (.int .u8 0), (.int .u8 0), (.int .u8 0), (.int .u8 0)]) := ⟨by kernel_rfl⟩
instance ul_41 : Ul prog 41 (.array 64 5) := ⟨by kernel_rfl⟩
instance oneC_42 : OneC prog 42 := ⟨fun w => by kernel_rfl, by kernel_rfl⟩
instance zeroC_42 : ZeroC prog 42 (.pointer none) := ⟨by kernel_rfl⟩
instance ul_42 : Ul prog 42 (.pointer 44) := ⟨by kernel_rfl⟩
instance aggC_43 : AggC prog 43 2 := ⟨fun w => by kernel_rfl, by kernel_rfl⟩
instance zeroC_43 : ZeroC prog 43 (.agg #[(.pointer none), (.slice none 0 0)]) := ⟨by kernel_rfl⟩
instance fld_43_0 : FldOff prog 43 0 0 := ⟨fun b o w => by kernel_rfl⟩
instance fld_43_1 : FldOff prog 43 1 1 := ⟨fun b o w => by kernel_rfl⟩
instance aggC_44 : AggC prog 44 2 := ⟨fun w => by kernel_rfl, by kernel_rfl⟩
instance zeroC_44 : ZeroC prog 44 (.agg #[(.pointer none), (.slice none 0 0)]) := ⟨by kernel_rfl⟩
instance fld_44_0 : FldOff prog 44 0 0 := ⟨fun b o w => by kernel_rfl⟩
instance fld_44_1 : FldOff prog 44 1 1 := ⟨fun b o w => by kernel_rfl⟩
instance oneC_45 : OneC prog 45 := ⟨fun w => by kernel_rfl, by kernel_rfl⟩
instance zeroC_45 : ZeroC prog 45 .nilIface := ⟨by kernel_rfl⟩
instance oneC_46 : OneC prog 46 := ⟨fun w => by kernel_rfl, by kernel_rfl⟩
instance zeroC_46 : ZeroC prog 46 .nilIface := ⟨by kernel_rfl⟩
instance oneC_48 : OneC prog 48 := ⟨fun w => by kernel_rfl, by kernel_rfl⟩
instance zeroC_48 : ZeroC prog 48 (.int .u64 0) := ⟨by kernel_rfl⟩
instance ul_48 : Ul prog 48 (.int .u64) := ⟨by kernel_rfl⟩
instance oneC_50 : OneC prog 50 := ⟨fun w => by kernel_rfl, by kernel_rfl⟩
instance zeroC_50 : ZeroC prog 50 (.int .u32 0) := ⟨by kernel_rfl⟩
instance ul_50 : Ul prog 50 (.int .u32) := ⟨by kernel_rfl⟩
instance aggC_51 : AggC prog 51 8 := ⟨fun w => by kernel_rfl, by kernel_rfl⟩
instance zeroC_51 : ZeroC prog 51 (.agg #[(.int .u32 0), (.int .u32 0), (.int .u32 0), (.int .u32 0), (.int .u32 0), (.int .u32 0), (.int .u32 0), (.int .u32 0)]) := ⟨by kernel_rfl⟩
instance ul_51 : Ul prog 51 (.array 8 50) := ⟨by kernel_rfl⟩
instance aggC_52 : AggC prog 52 8 := ⟨fun w => by kernel_rfl, by kernel_rfl⟩
instance zeroC_52 : ZeroC prog 52 (.agg #[(.int .u32 0), (.int .u32 0), (.int .u32 0), (.int .u32 0), (.int .u32 0), (.int .u32 0), (.int .u32 0), (.int .u32 0)]) := ⟨by kernel_rfl⟩
instance ul_52 : Ul prog 52 (.array 8 50) := ⟨by kernel_rfl⟩
instance oneC_53 : OneC prog 53 := ⟨fun w => by kernel_rfl, by kernel_rfl⟩
instance zeroC_53 : ZeroC prog 53 (.pointer none) := ⟨by kernel_rfl⟩
instance ul_53 : Ul prog 53 (.pointer 63) := ⟨by kernel_rfl⟩
instance oneC_55 : OneC prog 55 := ⟨fun w => by kernel_rfl, by kernel_rfl⟩
instance zeroC_55 : ZeroC prog 55 (.int .u64 0) := ⟨by kernel_rfl⟩
instance ul_55 : Ul prog 55 (.int .u64) := ⟨by kernel_rfl⟩
instance oneC_58 : OneC prog 58 := ⟨fun w => by kernel_rfl, by kernel_rfl⟩
instance zeroC_58 : ZeroC prog 58 (.slice none 0 0) := ⟨by kernel_rfl⟩
instance sliceT_58 : SliceT prog 58 50 1 4 (.int .u32 0) := ⟨by kernel_rfl, by kernel_rfl, rfl, by decide⟩
instance ul_58 : Ul prog 58 (.slice 50) := ⟨by kernel_rfl⟩
instance oneC_62 : OneC prog 62 := ⟨fun w => by kernel_rfl, by kernel_rfl⟩
instance zeroC_62 : ZeroC prog 62 (.pointer none) := ⟨by kernel_rfl⟩
instance ul_62 : Ul prog 62 (.pointer 5) := ⟨by kernel_rfl⟩
instance aggC_63 : AggC prog 63 64 := ⟨fun w => by kernel_rfl, by kernel_rfl⟩
instance zeroC_63 : ZeroC prog 63 (.agg #[(.int .u32 0), (.int .u32 0), (.int .u32 0), (.int .u32 0), (.int .u32 0), (.int .u32 0), (.int .u32 0), (.int .u32 0), (.int .u32 0), (.int .u32 0), (.int .u32 0), (.int .u32 0), (.int .u32 0), (.int .u32 0), (.int .u32 0), (.int .u32 0), (.int .u32 0), (.int .u32 0), (.int .u32 0), (.int .u32 0), (.int .u32 0), (.int .u32 0), (.int .u32 0), (.int .u32 0), (.int .u32 0), (.int .u32 0), (.int .u32 0), (.int .u32 0), (.int .u32 0), (.int .u32 0), (.int .u32 0), (.int .u32 0), (.int .u32 0), (.int .u32 0), (.int .u32 0), (.int .u32 0), (.int .u32 0), (.int .u32 0), (.int .u32 0), (.int .u32 0), (.int .u32 0), (.int .u32 0), (.int .u32 0), (.int .u32 0), (.int .u32 0), (.int .u32 0), (.int .u32 0), (.int .u32 0), (.int .u32 0), (.int .u32 0), (.int .u32 0), (.int .u32 0), (.int .u32 0), (.int .u32 0), (.int .u32 0), (.int .u32 0), (.int .u32 0), (.int .u32 0), (.int .u32 0), (.int .u32 0), (.int .u32 0), (.int .u32 0), (.int .u32 0), (.int .u32 0)]) := ⟨by kernel_rfl⟩
instance ul_63 : Ul prog 63 (.array 64 50) := ⟨by kernel_rfl⟩
instance oneC_70 : OneC prog 70 := ⟨fun w => by kernel_rfl, by kernel_rfl⟩
instance zeroC_70 : ZeroC prog 70 (.pointer none) := ⟨by kernel_rfl⟩
instance aggC_76 : AggC prog 76 256 := ⟨fun w => by kernel_rfl, by kernel_rfl⟩
instance zeroC_76 : ZeroC prog 76 (.agg #[(.int .u8 0), (.int .u8 0), (.int .u8 0), (.int .u8 0), (.int .u8 0), (.int .u8 0), (.int .u8 0), (.int .u8 0), (.int .u8 0), (.int .u8 0), (.int .u8 0), (.int .u8 0), (.int .u8 0), (.int .u8 0), (.int .u8 0), (.int .u8 0), (.int .u8 0), (.int .u8 0), (.int .u8 0), (.int .u8 0), (.int .u8 0), (.int .u8 0), (.int .u8 0), (.int .u8 0), (.int .u8 0), (.int .u8 0), (.int .u8 0), (.int .u8 0), (.int .u8 0), (.int .u8 0), (.int .u8 0), (.int .u8 0), (.int .u8 0), (.int .u8 0), (.int .u8 0), (.int .u8 0), (.int .u8 0), (.int .u8 0), (.int .u8 0), (.int .u8 0), (.int .u8 0), (.int .u8 0), (.int .u8 0), (.int .u8 0), (.int .u8 0), (.int .u8 0), (.int .u8 0), (.int .u8 0), (.int .u8 0), (.int .u8 0), (.int .u8 0), (.int .u8 0), (.int .u8 0), (.int .u8 0), (.int .u8 0), (.int .u8 0), (.int .u8 0), (.int .u8 0), (.int .u8 0), (.int .u8 0), (.int .u8 0), (.int .u8 0), (.int .u8 0), (.int .u8 0), (.int .u8 0), (.int .u8 0), (.int .u8 0), (.int .u8 0), (.int .u8 0), (.int .u8 0), (.int .u8 0), (.int .u8 0), (.int .u8 0), (.int .u8 0), (.int .u8 0), (.int .u8 0), (.int .u8 0), (.int .u8 0), (.int .u8 0), (.int .u8 0), (.int .u8 0), (.int .u8 0), (.int .u8 0), (.int .u8 0), (.int .u8 0), (.int .u8 0), (.int .u8 0), (.int .u8 0), (.int .u8 0), (.int .u8 0), (.int .u8 0), (.int .u8 0), (.int .u8 0), (.int .u8 0), (.int .u8 0), (.int .u8 0), (.int .u8 0), (.int .u8 0), (.int .u8 0), (.int .u8 0), (.int .u8 0), (.int .u8 0), (.int .u8 0), (.int .u8 0), (.int .u8 0), (.int .u8 0), (.int .u8 0), (.int .u8 0), (.int .u8 0), (.int .u8 0), (.int .u8 0), (.int .u8 0), (.int .u8 0), (.int .u8 0), (.int .u8 0), (.int .u8 0), (.int .u8 0), (.int .u8 0), (.int .u8 0), (.int .u8 0), (.int .u8 0), (.int .u8 0), (.int .u8 0), (.int .u8 0), (.int .u8 0), (.int .u8 0), (.int .u8 0), (.int .u8 0), (.int .u8 0), (.int .u8 0), (.int .u8 0), (.int .u8 0), (.int .u8 0), (.int .u8 0), (.int .u8 0), (.int .u8 0), (.int .u8 0), (.int .u8 0), (.int .u8 0), (.int .u8 0), (.int .u8 0), (.int .u8 0), (.int .u8 0), (.int .u8 0), (.int .u8 0), (.int .u8 0), (.int .u8 0), (.int .u8 0), (.int .u8 0), (.int .u8 0), (.int .u8 0), (.int .u8 0), (.int .u8 0), (.int .u8 0), (.int .u8 0), (.int .u8 0), (.int .u8 0), (.int .u8 0), (.int .u8 0), (.int .u8 0), (.int .u8 0), (.int .u8 0), (.int .u8 0), (.int .u8 0), (.int .u8 0), (.int .u8 0), (.int .u8 0), (.int .u8 0), (.int .u8 0), (.int .u8 0), (.int .u8 0), (.int .u8 0), (.int .u8 0), (.int .u8 0), (.int .u8 0), (.int .u8 0), (.int .u8 0), (.int .u8 0), (.int .u8 0), (.int .u8 0), (.int .u8 0), (.int .u8 0), (.int .u8 0), (.int .u8 0), (.int .u8 0), (.int .u8 0), (.int .u8 0), (.int .u8 0), (.int .u8 0), (.int .u8 0), (.int .u8 0), (.int .u8 0), (.int .u8 0), (.int .u8 0), (.int .u8 0), (.int .u8 0), (.int .u8 0), (.int .u8 0), (.int .u8 0), (.int .u8 0), (.int .u8 0), (.int .u8 0), (.int .u8 0), (.int .u8 0), (.int .u8 0), (.int .u8 0), (.int .u8 0), (.int .u8 0), (.int .u8 0), (.int .u8 0), (.int .u8 0), (.int .u8 0), (.int .u8 0), (.int .u8 0), (.int .u8 0), (.int .u8 0), (.int .u8 0), (.int .u8 0), (.int .u8 0), (.int .u8 0), (.int .u8 0), (.int .u8 0), (.int .u8 0), (.int .u8 0), (.int .u8 0), (.int .u8 0), (.int .u8 0), (.int .u8 0), (.int .u8 0), (.int .u8 0), (.int .u8 0), (.int .u8 0), (.int .u8 0), (.int .u8 0), (.int .u8 0), (.int .u8 0), (.int .u8 0), (.int .u8 0), (.int .u8 0), (.int .u8 0), (.int .u8 0), (.int .u8 0), (.int .u8 0), (.int .u8 0), (.int .u8 0), (.int .u8 0), (.int .u8 0), (.int .u8 0), (.int .u8 0), (.int .u8 0), (.int .u8 0), (.int .u8 0), (.int .u8 0), (.int .u8 0), (.int .u8 0), (.int .u8 0)]) := ⟨by kernel_rfl⟩
instance ul_76 : Ul prog 76 (.array 256 5) := ⟨by kernel_rfl⟩
instance aggC_77 : AggC prog 77 2 := ⟨fun w => by kernel_rfl, by kernel_rfl⟩
instance zeroC_77 : ZeroC prog 77 (.agg #[(.int .u8 0), (.int .u8 0)]) := ⟨by kernel_rfl⟩
instance fld_77_0 : FldOff prog 77 0 0 := ⟨fun b o w => by kernel_rfl⟩
instance fld_77_1 : FldOff prog 77 1 1 := ⟨fun b o w => by kernel_rfl⟩
instance aggC_78 : AggC prog 78 2 := ⟨fun w => by kernel_rfl, by kernel_rfl⟩
instance zeroC_78 : ZeroC prog 78 (.agg #[(.int .u8 0), (.int .u8 0)]) := ⟨by kernel_rfl⟩
instance fld_78_0 : FldOff prog 78 0 0 := ⟨fun b o w => by kernel_rfl⟩
instance fld_78_1 : FldOff prog 78 1 1 := ⟨fun b o w => by kernel_rfl⟩
instance aggC_79 : AggC prog 79 32 := ⟨fun w => by kernel_rfl, by kernel_rfl⟩
instance zeroC_79 : ZeroC prog 79 (.agg #[(.int .u8 0), (.int .u8 0), (.int .u8 0), (.int .u8 0), (.int .u8 0), (.int .u8 0), (.int .u8 0), (.int .u8 0), (.int .u8 0), (.int .u8 0), (.int .u8 0), (.int .u8 0), (.int .u8 0), (.int .u8 0), (.int .u8 0), (.int .u8 0), (.int .u8 0), (.int .u8 0), (.int .u8 0), (.int .u8 0), (.int .u8 0), (.int .u8 0), (.int .u8 0), (.int .u8 0), (.int .u8 0), (.int .u8 0), (.int .u8 0), (.int .u8 0), (.int .u8 0), (.int .u8 0), (.int .u8 0), (.int .u8 0)]) := ⟨by kernel_rfl⟩
instance ul_79 : Ul prog 79 (.array 16 78) := ⟨by kernel_rfl⟩
instance aggC_82 : AggC prog 82 4 := ⟨fun w => by kernel_rfl, by kernel_rfl⟩
instance zeroC_82 : ZeroC prog 82 (.agg #[(.pointer none), (.pointer none), (.pointer none), (.string ⟨#[]⟩)]) := ⟨by kernel_rfl⟩
instance fld_82_0 : FldOff prog 82 0 0 := ⟨fun b o w => by kernel_rfl⟩
instance fld_82_1 : FldOff prog 82 1 1 := ⟨fun b o w => by kernel_rfl⟩
instance fld_82_2 : FldOff prog 82 2 2 := ⟨fun b o w => by kernel_rfl⟩
instance fld_82_3 : FldOff prog 82 3 3 := ⟨fun b o w => by kernel_rfl⟩
instance aggC_83 : AggC prog 83 4 := ⟨fun w => by kernel_rfl, by kernel_rfl⟩
instance zeroC_83 : ZeroC prog 83 (.agg #[(.pointer none), (.pointer none), (.pointer none), (.string ⟨#[]⟩)]) := ⟨by kernel_rfl⟩
instance fld_83_0 : FldOff prog 83 0 0 := ⟨fun b o w => by kernel_rfl⟩
instance fld_83_1 : FldOff prog 83 1 1 := ⟨fun b o w => by kernel_rfl⟩
instance fld_83_2 : FldOff prog 83 2 2 := ⟨fun b o w => by kernel_rfl⟩
instance fld_83_3 : FldOff prog 83 3 3 := ⟨fun b o w => by kernel_rfl⟩
instance aggC_84 : AggC prog 84 0 := ⟨fun w => by kernel_rfl, by kernel_rfl⟩
instance zeroC_84 : ZeroC prog 84 (.agg #[]) := ⟨by kernel_rfl⟩
instance ul_84 : Ul prog 84 (.array 0 16) := ⟨by kernel_rfl⟩
instance aggC_85 : AggC prog 85 0 := ⟨fun w => by kernel_rfl, by kernel_rfl⟩
instance zeroC_85 : ZeroC prog 85 (.agg #[]) := ⟨by kernel_rfl⟩
instance aggC_86 : AggC prog 86 0 := ⟨fun w => by kernel_rfl, by kernel_rfl⟩
instance zeroC_86 : ZeroC prog 86 (.agg #[]) := ⟨by kernel_rfl⟩
instance oneC_88 : OneC prog 88 := ⟨fun w => by kernel_rfl, by kernel_rfl⟩
instance zeroC_88 : ZeroC prog 88 (.int .u8 0) := ⟨by kernel_rfl⟩
instance ul_88 : Ul prog 88 (.int .u8) := ⟨by kernel_rfl⟩
instance oneC_89 : OneC prog 89 := ⟨fun w => by kernel_rfl, by kernel_rfl⟩
instance zeroC_89 : ZeroC prog 89 (.int .u8 0) := ⟨by kernel_rfl⟩
instance ul_89 : Ul prog 89 (.int .u8) := ⟨by kernel_rfl⟩
instance oneC_91 : OneC prog 91 := ⟨fun w => by kernel_rfl, by kernel_rfl⟩
instance zeroC_91 : ZeroC prog 91 (.int .i32 0) := ⟨by kernel_rfl⟩
instance ul_91 : Ul prog 91 (.int .i32) := ⟨by kernel_rfl⟩
instance oneC_92 : OneC prog 92 := ⟨fun w => by kernel_rfl, by kernel_rfl⟩
instance zeroC_92 : ZeroC prog 92 (.int .i32 0) := ⟨by kernel_rfl⟩
instance ul_92 : Ul prog 92 (.int .i32) := ⟨by kernel_rfl⟩
instance aggC_93 : AggC prog 93 11 := ⟨fun w => by kernel_rfl, by kernel_rfl⟩
instance zeroC_93 : ZeroC prog 93 (.agg #[(.int .u64 0), (.int .u64 0), (.int .u32 0), (.int .u8 0), (.int .u8 0), (.int .u8 0), (.int .u8 0), .nilFunc, (.pointer none), (.int .i32 0), (.int .i32 0)]) := ⟨by kernel_rfl⟩
instance fld_93_0 : FldOff prog 93 0 0 := ⟨fun b o w => by kernel_rfl⟩
instance fld_93_1 : FldOff prog 93 1 1 := ⟨fun b o w => by kernel_rfl⟩
instance fld_93_2 : FldOff prog 93 2 2 := ⟨fun b o w => by kernel_rfl⟩
instance fld_93_3 : FldOff prog 93 3 3 := ⟨fun b o w => by kernel_rfl⟩
instance fld_93_4 : FldOff prog 93 4 4 := ⟨fun b o w => by kernel_rfl⟩
instance fld_93_5 : FldOff prog 93 5 5 := ⟨fun b o w => by kernel_rfl⟩
instance fld_93_6 : FldOff prog 93 6 6 := ⟨fun b o w => by kernel_rfl⟩
instance fld_93_7 : FldOff prog 93 7 7 := ⟨fun b o w => by kernel_rfl⟩
instance fld_93_8 : FldOff prog 93 8 8 := ⟨fun b o w => by kernel_rfl⟩
instance fld_93_9 : FldOff prog 93 9 9 := ⟨fun b o w => by kernel_rfl⟩
instance fld_93_10 : FldOff prog 93 10 10 := ⟨fun b o w => by kernel_rfl⟩
instance aggC_94 : AggC prog 94 11 := ⟨fun w => by kernel_rfl, by kernel_rfl⟩
instance zeroC_94 : ZeroC prog 94 (.agg #[(.int .u64 0), (.int .u64 0), (.int .u32 0), (.int .u8 0), (.int .u8 0), (.int .u8 0), (.int .u8 0), .nilFunc, (.pointer none), (.int .i32 0), (.int .i32 0)]) := ⟨by kernel_rfl⟩
instance fld_94_0 : FldOff prog 94 0 0 := ⟨fun b o w => by kernel_rfl⟩
instance fld_94_1 : FldOff prog 94 1 1 := ⟨fun b o w => by kernel_rfl⟩
instance fld_94_2 : FldOff prog 94 2 2 := ⟨fun b o w => by kernel_rfl⟩
instance fld_94_3 : FldOff prog 94 3 3 := ⟨fun b o w => by kernel_rfl⟩
instance fld_94_4 : FldOff prog 94 4 4 := ⟨fun b o w => by kernel_rfl⟩
instance fld_94_5 : FldOff prog 94 5 5 := ⟨fun b o w => by kernel_rfl⟩
instance fld_94_6 : FldOff prog 94 6 6 := ⟨fun b o w => by kernel_rfl⟩
instance fld_94_7 : FldOff prog 94 7 7 := ⟨fun b o w => by kernel_rfl⟩
instance fld_94_8 : FldOff prog 94 8 8 := ⟨fun b o w => by kernel_rfl⟩
instance fld_94_9 : FldOff prog 94 9 9 := ⟨fun b o w => by kernel_rfl⟩
instance fld_94_10 : FldOff prog 94 10 10 := ⟨fun b o w => by kernel_rfl⟩

end Go.Proofs.YtjmgkfpjaelilaaDoor
