import Derived.Test.YtmnaalpjhkkglaaDoorProg
import Derived.Test.YtmnaalpjhkkglaaDoorStructs
import Derived.KernelRfl
set_option linter.all false
set_option maxRecDepth 100000
namespace Go.Proofs.YtmnaalpjhkkglaaDoor
open Go Hold
noncomputable abbrev prog : Program := Tryd.prog
instance oneC_2 : OneC prog 2 := ⟨fun w => by kernel_rfl, by kernel_rfl⟩
instance zeroC_2 : ZeroC prog 2 (.int .i64 0) := ⟨by kernel_rfl⟩
instance ul_2 : Ul prog 2 (.int .i64) := ⟨by kernel_rfl⟩
instance oneC_3 : OneC prog 3 := ⟨fun w => by kernel_rfl, by kernel_rfl⟩
instance zeroC_3 : ZeroC prog 3 (.int .i64 0) := ⟨by kernel_rfl⟩
instance ul_3 : Ul prog 3 (.int .i64) := ⟨by kernel_rfl⟩
instance oneC_4 : OneC prog 4 := ⟨fun w => by kernel_rfl, by kernel_rfl⟩
instance zeroC_4 : ZeroC prog 4 (.bool false) := ⟨by kernel_rfl⟩
instance ul_4 : Ul prog 4 .bool := ⟨by kernel_rfl⟩
instance oneC_5 : OneC prog 5 := ⟨fun w => by kernel_rfl, by kernel_rfl⟩
instance zeroC_5 : ZeroC prog 5 (.int .u8 0) := ⟨by kernel_rfl⟩
instance ul_5 : Ul prog 5 (.int .u8) := ⟨by kernel_rfl⟩
instance oneC_6 : OneC prog 6 := ⟨fun w => by kernel_rfl, by kernel_rfl⟩
instance zeroC_6 : ZeroC prog 6 (.int .u8 0) := ⟨by kernel_rfl⟩
instance ul_6 : Ul prog 6 (.int .u8) := ⟨by kernel_rfl⟩
instance aggC_7 : AggC prog 7 4 := ⟨fun w => by kernel_rfl, by kernel_rfl⟩
instance zeroC_7 : ZeroC prog 7 (.agg #[(.int .i64 0), (.int .i64 0), (.bool false), (.int .u8 0)]) := ⟨by kernel_rfl⟩
instance fld_7_0 : FldOff prog 7 0 0 := ⟨fun b o w => by kernel_rfl⟩
instance fld_7_1 : FldOff prog 7 1 1 := ⟨fun b o w => by kernel_rfl⟩
instance fld_7_2 : FldOff prog 7 2 2 := ⟨fun b o w => by kernel_rfl⟩
instance fld_7_3 : FldOff prog 7 3 3 := ⟨fun b o w => by kernel_rfl⟩
instance aggC_8 : AggC prog 8 4 := ⟨fun w => by kernel_rfl, by kernel_rfl⟩
instance zeroC_8 : ZeroC prog 8 (.agg #[(.int .i64 0), (.int .i64 0), (.bool false), (.int .u8 0)]) := ⟨by kernel_rfl⟩
instance fld_8_0 : FldOff prog 8 0 0 := ⟨fun b o w => by kernel_rfl⟩
instance fld_8_1 : FldOff prog 8 1 1 := ⟨fun b o w => by kernel_rfl⟩
instance fld_8_2 : FldOff prog 8 2 2 := ⟨fun b o w => by kernel_rfl⟩
instance fld_8_3 : FldOff prog 8 3 3 := ⟨fun b o w => by kernel_rfl⟩
instance oneC_9 : OneC prog 9 := ⟨fun w => by kernel_rfl, by kernel_rfl⟩
instance zeroC_9 : ZeroC prog 9 (.string ⟨#[]⟩) := ⟨by kernel_rfl⟩
instance ul_9 : Ul prog 9 .string := ⟨by kernel_rfl⟩
instance oneC_10 : OneC prog 10 := ⟨fun w => by kernel_rfl, by kernel_rfl⟩
instance zeroC_10 : ZeroC prog 10 (.string ⟨#[]⟩) := ⟨by kernel_rfl⟩
instance ul_10 : Ul prog 10 .string := ⟨by kernel_rfl⟩
instance oneC_11 : OneC prog 11 := ⟨fun w => by kernel_rfl, by kernel_rfl⟩
instance zeroC_11 : ZeroC prog 11 (.string ⟨#[]⟩) := ⟨by kernel_rfl⟩
instance ul_11 : Ul prog 11 .string := ⟨by kernel_rfl⟩
instance oneC_12 : OneC prog 12 := ⟨fun w => by kernel_rfl, by kernel_rfl⟩
instance zeroC_12 : ZeroC prog 12 (.int .u64 0) := ⟨by kernel_rfl⟩
instance ul_12 : Ul prog 12 (.int .u64) := ⟨by kernel_rfl⟩
instance aggC_13 : AggC prog 13 2 := ⟨fun w => by kernel_rfl, by kernel_rfl⟩
instance zeroC_13 : ZeroC prog 13 (.agg #[(.string ⟨#[]⟩), (.int .u64 0)]) := ⟨by kernel_rfl⟩
instance fld_13_0 : FldOff prog 13 0 0 := ⟨fun b o w => by kernel_rfl⟩
instance fld_13_1 : FldOff prog 13 1 1 := ⟨fun b o w => by kernel_rfl⟩
instance aggC_14 : AggC prog 14 2 := ⟨fun w => by kernel_rfl, by kernel_rfl⟩
instance zeroC_14 : ZeroC prog 14 (.agg #[(.string ⟨#[]⟩), (.int .u64 0)]) := ⟨by kernel_rfl⟩
instance fld_14_0 : FldOff prog 14 0 0 := ⟨fun b o w => by kernel_rfl⟩
instance fld_14_1 : FldOff prog 14 1 1 := ⟨fun b o w => by kernel_rfl⟩
instance oneC_15 : OneC prog 15 := ⟨fun w => by kernel_rfl, by kernel_rfl⟩
instance zeroC_15 : ZeroC prog 15 (.pointer none) := ⟨by kernel_rfl⟩
instance ul_15 : Ul prog 15 (.pointer 198) := ⟨by kernel_rfl⟩
instance oneC_16 : OneC prog 16 := ⟨fun w => by kernel_rfl, by kernel_rfl⟩
instance zeroC_16 : ZeroC prog 16 (.pointer none) := ⟨by kernel_rfl⟩
instance ul_16 : Ul prog 16 (.pointer 201) := ⟨by kernel_rfl⟩
instance oneC_17 : OneC prog 17 := ⟨fun w => by kernel_rfl, by kernel_rfl⟩
instance zeroC_17 : ZeroC prog 17 (.pointer none) := ⟨by kernel_rfl⟩
instance ul_17 : Ul prog 17 (.pointer 208) := ⟨by kernel_rfl⟩
instance aggC_18 : AggC prog 18 1 := ⟨fun w => by kernel_rfl, by kernel_rfl⟩
instance zeroC_18 : ZeroC prog 18 (.agg #[(.pointer none)]) := ⟨by kernel_rfl⟩
instance fld_18_0 : FldOff prog 18 0 0 := ⟨fun b o w => by kernel_rfl⟩
instance aggC_19 : AggC prog 19 1 := ⟨fun w => by kernel_rfl, by kernel_rfl⟩
instance zeroC_19 : ZeroC prog 19 (.agg #[(.pointer none)]) := ⟨by kernel_rfl⟩
instance fld_19_0 : FldOff prog 19 0 0 := ⟨fun b o w => by kernel_rfl⟩
instance oneC_20 : OneC prog 20 := ⟨fun w => by kernel_rfl, by kernel_rfl⟩
instance zeroC_20 : ZeroC prog 20 .nilIface := ⟨by kernel_rfl⟩
instance oneC_21 : OneC prog 21 := ⟨fun w => by kernel_rfl, by kernel_rfl⟩
instance zeroC_21 : ZeroC prog 21 (.int .i32 0) := ⟨by kernel_rfl⟩
instance ul_21 : Ul prog 21 (.int .i32) := ⟨by kernel_rfl⟩
instance aggC_22 : AggC prog 22 32 := ⟨fun w => by kernel_rfl, by kernel_rfl⟩
instance zeroC_22 : ZeroC prog 22 (.agg #[(.int .u8 0), (.int .u8 0), (.int .u8 0), (.int .u8 0), (.int .u8 0), (.int .u8 0), (.int .u8 0), (.int .u8 0), (.int .u8 0), (.int .u8 0), (.int .u8 0), (.int .u8 0), (.int .u8 0), (.int .u8 0), (.int .u8 0), (.int .u8 0), (.int .u8 0), (.int .u8 0), (.int .u8 0), (.int .u8 0), (.int .u8 0), (.int .u8 0), (.int .u8 0), (.int .u8 0), (.int .u8 0), (.int .u8 0), (.int .u8 0), (.int .u8 0), (.int .u8 0), (.int .u8 0), (.int .u8 0), (.int .u8 0)]) := ⟨by kernel_rfl⟩
instance ul_22 : Ul prog 22 (.array 32 5) := ⟨by kernel_rfl⟩
instance aggC_23 : AggC prog 23 32 := ⟨fun w => by kernel_rfl, by kernel_rfl⟩
instance zeroC_23 : ZeroC prog 23 (.agg #[(.int .u8 0), (.int .u8 0), (.int .u8 0), (.int .u8 0), (.int .u8 0), (.int .u8 0), (.int .u8 0), (.int .u8 0), (.int .u8 0), (.int .u8 0), (.int .u8 0), (.int .u8 0), (.int .u8 0), (.int .u8 0), (.int .u8 0), (.int .u8 0), (.int .u8 0), (.int .u8 0), (.int .u8 0), (.int .u8 0), (.int .u8 0), (.int .u8 0), (.int .u8 0), (.int .u8 0), (.int .u8 0), (.int .u8 0), (.int .u8 0), (.int .u8 0), (.int .u8 0), (.int .u8 0), (.int .u8 0), (.int .u8 0)]) := ⟨by kernel_rfl⟩
instance ul_23 : Ul prog 23 (.array 32 5) := ⟨by kernel_rfl⟩
instance oneC_24 : OneC prog 24 := ⟨fun w => by kernel_rfl, by kernel_rfl⟩
instance zeroC_24 : ZeroC prog 24 (.slice none 0 0) := ⟨by kernel_rfl⟩
instance sliceT_24 : SliceT prog 24 9 1 16 (.string ⟨#[]⟩) := ⟨by kernel_rfl, by kernel_rfl, rfl, by decide⟩
instance ul_24 : Ul prog 24 (.slice 9) := ⟨by kernel_rfl⟩
instance oneC_25 : OneC prog 25 := ⟨fun w => by kernel_rfl, by kernel_rfl⟩
instance zeroC_25 : ZeroC prog 25 (.slice none 0 0) := ⟨by kernel_rfl⟩
instance sliceT_25 : SliceT prog 25 5 1 1 (.int .u8 0) := ⟨by kernel_rfl, by kernel_rfl, rfl, by decide⟩
instance ul_25 : Ul prog 25 (.slice 5) := ⟨by kernel_rfl⟩
instance aggC_26 : AggC prog 26 3 := ⟨fun w => by kernel_rfl, by kernel_rfl⟩
instance zeroC_26 : ZeroC prog 26 (.agg #[(.slice none 0 0), (.slice none 0 0), (.slice none 0 0)]) := ⟨by kernel_rfl⟩
instance fld_26_0 : FldOff prog 26 0 0 := ⟨fun b o w => by kernel_rfl⟩
instance fld_26_1 : FldOff prog 26 1 1 := ⟨fun b o w => by kernel_rfl⟩
instance fld_26_2 : FldOff prog 26 2 2 := ⟨fun b o w => by kernel_rfl⟩
instance aggC_27 : AggC prog 27 3 := ⟨fun w => by kernel_rfl, by kernel_rfl⟩
instance zeroC_27 : ZeroC prog 27 (.agg #[(.slice none 0 0), (.slice none 0 0), (.slice none 0 0)]) := ⟨by kernel_rfl⟩
instance fld_27_0 : FldOff prog 27 0 0 := ⟨fun b o w => by kernel_rfl⟩
instance fld_27_1 : FldOff prog 27 1 1 := ⟨fun b o w => by kernel_rfl⟩
instance fld_27_2 : FldOff prog 27 2 2 := ⟨fun b o w => by kernel_rfl⟩
instance oneC_28 : OneC prog 28 := ⟨fun w => by kernel_rfl, by kernel_rfl⟩
instance zeroC_28 : ZeroC prog 28 (.int .i64 0) := ⟨by kernel_rfl⟩
instance ul_28 : Ul prog 28 (.int .i64) := ⟨by kernel_rfl⟩
instance oneC_35 : OneC prog 35 := ⟨fun w => by kernel_rfl, by kernel_rfl⟩
instance zeroC_35 : ZeroC prog 35 (.int .u64 0) := ⟨by kernel_rfl⟩
instance ul_35 : Ul prog 35 (.int .u64) := ⟨by kernel_rfl⟩
instance oneC_41 : OneC prog 41 := ⟨fun w => by kernel_rfl, by kernel_rfl⟩
instance zeroC_41 : ZeroC prog 41 (.pointer none) := ⟨by kernel_rfl⟩
instance ul_41 : Ul prog 41 (.pointer 94) := ⟨by kernel_rfl⟩
instance oneC_43 : OneC prog 43 := ⟨fun w => by kernel_rfl, by kernel_rfl⟩
instance zeroC_43 : ZeroC prog 43 (.pointer none) := ⟨by kernel_rfl⟩
instance ul_43 : Ul prog 43 (.pointer 98) := ⟨by kernel_rfl⟩
instance aggC_45 : AggC prog 45 2 := ⟨fun w => by kernel_rfl, by kernel_rfl⟩
instance zeroC_45 : ZeroC prog 45 (.agg #[(.string ⟨#[]⟩), (.string ⟨#[]⟩)]) := ⟨by kernel_rfl⟩
instance fld_45_0 : FldOff prog 45 0 0 := ⟨fun b o w => by kernel_rfl⟩
instance fld_45_1 : FldOff prog 45 1 1 := ⟨fun b o w => by kernel_rfl⟩
instance aggC_46 : AggC prog 46 2 := ⟨fun w => by kernel_rfl, by kernel_rfl⟩
instance zeroC_46 : ZeroC prog 46 (.agg #[(.string ⟨#[]⟩), (.string ⟨#[]⟩)]) := ⟨by kernel_rfl⟩
instance fld_46_0 : FldOff prog 46 0 0 := ⟨fun b o w => by kernel_rfl⟩
instance fld_46_1 : FldOff prog 46 1 1 := ⟨fun b o w => by kernel_rfl⟩
instance oneC_48 : OneC prog 48 := ⟨fun w => by kernel_rfl, by kernel_rfl⟩
instance zeroC_48 : ZeroC prog 48 (.int .u8 0) := ⟨by kernel_rfl⟩
instance ul_48 : Ul prog 48 (.int .u8) := ⟨by kernel_rfl⟩
instance aggC_49 : AggC prog 49 4 := ⟨fun w => by kernel_rfl, by kernel_rfl⟩
instance zeroC_49 : ZeroC prog 49 (.agg #[(.string ⟨#[]⟩), (.string ⟨#[]⟩), (.string ⟨#[]⟩), (.int .u8 0)]) := ⟨by kernel_rfl⟩
instance fld_49_0 : FldOff prog 49 0 0 := ⟨fun b o w => by kernel_rfl⟩
instance fld_49_1 : FldOff prog 49 1 1 := ⟨fun b o w => by kernel_rfl⟩
instance fld_49_2 : FldOff prog 49 2 2 := ⟨fun b o w => by kernel_rfl⟩
instance fld_49_3 : FldOff prog 49 3 3 := ⟨fun b o w => by kernel_rfl⟩
instance aggC_50 : AggC prog 50 4 := ⟨fun w => by kernel_rfl, by kernel_rfl⟩
instance zeroC_50 : ZeroC prog 50 (.agg #[(.string ⟨#[]⟩), (.string ⟨#[]⟩), (.string ⟨#[]⟩), (.int .u8 0)]) := ⟨by kernel_rfl⟩
instance fld_50_0 : FldOff prog 50 0 0 := ⟨fun b o w => by kernel_rfl⟩
instance fld_50_1 : FldOff prog 50 1 1 := ⟨fun b o w => by kernel_rfl⟩
instance fld_50_2 : FldOff prog 50 2 2 := ⟨fun b o w => by kernel_rfl⟩
instance fld_50_3 : FldOff prog 50 3 3 := ⟨fun b o w => by kernel_rfl⟩
instance aggC_52 : AggC prog 52 4 := ⟨fun w => by kernel_rfl, by kernel_rfl⟩
instance zeroC_52 : ZeroC prog 52 (.agg #[(.string ⟨#[]⟩), (.string ⟨#[]⟩), (.string ⟨#[]⟩), (.int .u8 0)]) := ⟨by kernel_rfl⟩
instance fld_52_0 : FldOff prog 52 0 0 := ⟨fun b o w => by kernel_rfl⟩
instance fld_52_1 : FldOff prog 52 1 2 := ⟨fun b o w => by kernel_rfl⟩
instance fld_52_2 : FldOff prog 52 2 3 := ⟨fun b o w => by kernel_rfl⟩
instance aggC_53 : AggC prog 53 4 := ⟨fun w => by kernel_rfl, by kernel_rfl⟩
instance zeroC_53 : ZeroC prog 53 (.agg #[(.string ⟨#[]⟩), (.string ⟨#[]⟩), (.string ⟨#[]⟩), (.int .u8 0)]) := ⟨by kernel_rfl⟩
instance fld_53_0 : FldOff prog 53 0 0 := ⟨fun b o w => by kernel_rfl⟩
instance fld_53_1 : FldOff prog 53 1 2 := ⟨fun b o w => by kernel_rfl⟩
instance fld_53_2 : FldOff prog 53 2 3 := ⟨fun b o w => by kernel_rfl⟩
instance aggC_55 : AggC prog 55 4 := ⟨fun w => by kernel_rfl, by kernel_rfl⟩
instance zeroC_55 : ZeroC prog 55 (.agg #[(.int .i64 0), (.int .i64 0), (.string ⟨#[]⟩), (.string ⟨#[]⟩)]) := ⟨by kernel_rfl⟩
instance fld_55_0 : FldOff prog 55 0 0 := ⟨fun b o w => by kernel_rfl⟩
instance fld_55_1 : FldOff prog 55 1 1 := ⟨fun b o w => by kernel_rfl⟩
instance fld_55_2 : FldOff prog 55 2 2 := ⟨fun b o w => by kernel_rfl⟩
instance fld_55_3 : FldOff prog 55 3 3 := ⟨fun b o w => by kernel_rfl⟩
instance aggC_56 : AggC prog 56 4 := ⟨fun w => by kernel_rfl, by kernel_rfl⟩
instance zeroC_56 : ZeroC prog 56 (.agg #[(.int .i64 0), (.int .i64 0), (.string ⟨#[]⟩), (.string ⟨#[]⟩)]) := ⟨by kernel_rfl⟩
instance fld_56_0 : FldOff prog 56 0 0 := ⟨fun b o w => by kernel_rfl⟩
instance fld_56_1 : FldOff prog 56 1 1 := ⟨fun b o w => by kernel_rfl⟩
instance fld_56_2 : FldOff prog 56 2 2 := ⟨fun b o w => by kernel_rfl⟩
instance fld_56_3 : FldOff prog 56 3 3 := ⟨fun b o w => by kernel_rfl⟩
instance oneC_65 : OneC prog 65 := ⟨fun w => by kernel_rfl, by kernel_rfl⟩
instance zeroC_65 : ZeroC prog 65 (.slice none 0 0) := ⟨by kernel_rfl⟩
instance sliceT_65 : SliceT prog 65 56 4 48 (.agg #[(.int .i64 0), (.int .i64 0), (.string ⟨#[]⟩), (.string ⟨#[]⟩)]) := ⟨by kernel_rfl, by kernel_rfl, rfl, by decide⟩
instance ul_65 : Ul prog 65 (.slice 56) := ⟨by kernel_rfl⟩
instance oneC_69 : OneC prog 69 := ⟨fun w => by kernel_rfl, by kernel_rfl⟩
instance zeroC_69 : ZeroC prog 69 (.pointer none) := ⟨by kernel_rfl⟩
instance ul_69 : Ul prog 69 (.pointer 71) := ⟨by kernel_rfl⟩
instance aggC_70 : AggC prog 70 2 := ⟨fun w => by kernel_rfl, by kernel_rfl⟩
instance zeroC_70 : ZeroC prog 70 (.agg #[(.pointer none), (.slice none 0 0)]) := ⟨by kernel_rfl⟩
instance fld_70_0 : FldOff prog 70 0 0 := ⟨fun b o w => by kernel_rfl⟩
instance fld_70_1 : FldOff prog 70 1 1 := ⟨fun b o w => by kernel_rfl⟩
instance aggC_71 : AggC prog 71 2 := ⟨fun w => by kernel_rfl, by kernel_rfl⟩
instance zeroC_71 : ZeroC prog 71 (.agg #[(.pointer none), (.slice none 0 0)]) := ⟨by kernel_rfl⟩
instance fld_71_0 : FldOff prog 71 0 0 := ⟨fun b o w => by kernel_rfl⟩
instance fld_71_1 : FldOff prog 71 1 1 := ⟨fun b o w => by kernel_rfl⟩
instance oneC_72 : OneC prog 72 := ⟨fun w => by kernel_rfl, by kernel_rfl⟩
instance zeroC_72 : ZeroC prog 72 .nilIface := ⟨by kernel_rfl⟩
instance oneC_73 : OneC prog 73 := ⟨fun w => by kernel_rfl, by kernel_rfl⟩
instance zeroC_73 : ZeroC prog 73 .nilIface := ⟨by kernel_rfl⟩
instance oneC_75 : OneC prog 75 := ⟨fun w => by kernel_rfl, by kernel_rfl⟩
instance zeroC_75 : ZeroC prog 75 (.int .u64 0) := ⟨by kernel_rfl⟩
instance ul_75 : Ul prog 75 (.int .u64) := ⟨by kernel_rfl⟩
instance oneC_77 : OneC prog 77 := ⟨fun w => by kernel_rfl, by kernel_rfl⟩
instance zeroC_77 : ZeroC prog 77 (.int .u32 0) := ⟨by kernel_rfl⟩
instance ul_77 : Ul prog 77 (.int .u32) := ⟨by kernel_rfl⟩
instance aggC_78 : AggC prog 78 8 := ⟨fun w => by kernel_rfl, by kernel_rfl⟩
instance zeroC_78 : ZeroC prog 78 (.agg #[(.int .u32 0), (.int .u32 0), (.int .u32 0), (.int .u32 0), (.int .u32 0), (.int .u32 0), (.int .u32 0), (.int .u32 0)]) := ⟨by kernel_rfl⟩
instance ul_78 : Ul prog 78 (.array 8 77) := ⟨by kernel_rfl⟩
instance aggC_79 : AggC prog 79 8 := ⟨fun w => by kernel_rfl, by kernel_rfl⟩
instance zeroC_79 : ZeroC prog 79 (.agg #[(.int .u32 0), (.int .u32 0), (.int .u32 0), (.int .u32 0), (.int .u32 0), (.int .u32 0), (.int .u32 0), (.int .u32 0)]) := ⟨by kernel_rfl⟩
instance ul_79 : Ul prog 79 (.array 8 77) := ⟨by kernel_rfl⟩
instance oneC_80 : OneC prog 80 := ⟨fun w => by kernel_rfl, by kernel_rfl⟩
instance zeroC_80 : ZeroC prog 80 (.pointer none) := ⟨by kernel_rfl⟩
instance ul_80 : Ul prog 80 (.pointer 117) := ⟨by kernel_rfl⟩
instance aggC_86 : AggC prog 86 16 := ⟨fun w => by kernel_rfl, by kernel_rfl⟩
instance zeroC_86 : ZeroC prog 86 (.agg #[(.int .u8 0), (.int .u8 0), (.int .u8 0), (.int .u8 0), (.int .u8 0), (.int .u8 0), (.int .u8 0), (.int .u8 0), (.int .u8 0), (.int .u8 0), (.int .u8 0), (.int .u8 0), (.int .u8 0), (.int .u8 0), (.int .u8 0), (.int .u8 0)]) := ⟨by kernel_rfl⟩
instance ul_86 : Ul prog 86 (.array 16 5) := ⟨by kernel_rfl⟩
instance aggC_87 : AggC prog 87 16 := ⟨fun w => by kernel_rfl, by kernel_rfl⟩
instance zeroC_87 : ZeroC prog 87 (.agg #[(.int .u8 0), (.int .u8 0), (.int .u8 0), (.int .u8 0), (.int .u8 0), (.int .u8 0), (.int .u8 0), (.int .u8 0), (.int .u8 0), (.int .u8 0), (.int .u8 0), (.int .u8 0), (.int .u8 0), (.int .u8 0), (.int .u8 0), (.int .u8 0)]) := ⟨by kernel_rfl⟩
instance ul_87 : Ul prog 87 (.array 16 5) := ⟨by kernel_rfl⟩
instance aggC_90 : AggC prog 90 64 := ⟨fun w => by kernel_rfl, by kernel_rfl⟩
instance zeroC_90 : ZeroC prog 90 (.agg #[(.int .u8 0), (.int .u8 0), (.int .u8 0), (.int .u8 0), (.int .u8 0), (.int .u8 0), (.int .u8 0), (.int .u8 0), (.int .u8 0), (.int .u8 0), (.int .u8 0), (.int .u8 0), (.int .u8 0), (.int .u8 0), (.int .u8 0), (.int .u8 0), (.int .u8 0), (.int .u8 0), (.int .u8 0), (.int .u8 0), (.int .u8 0), (.int .u8 0), (.int .u8 0), (.int .u8 0), (.int .u8 0), (.int .u8 0), (.int .u8 0), (.int .u8 0), (.int .u8 0), (.int .u8 0), (.int .u8 0), (.int .u8 0), (.int .u8 0), (.int .u8 0), (.int .u8 0), (.int .u8 0), (.int .u8 0), (.int .u8 0), (.int .u8 0), (.int .u8 0), (.int .u8 0), (.int .u8 0), (.int .u8 0), (.int .u8 0), (.int .u8 0), (.int .u8 0), (.int .u8 0), (.int .u8 0), (.int .u8 0), (.int .u8 0), (.int .u8 0), (.int .u8 0), (.int .u8 0), (.int .u8 0), (.int .u8 0), (.int .u8 0), (.int .u8 0), (.int .u8 0), (.int .u8 0), (.int .u8 0), (.int .u8 0), (.int .u8 0), (.int .u8 0), (.int .u8 0)]) := ⟨by kernel_rfl⟩
instance ul_90 : Ul prog 90 (.array 64 5) := ⟨by kernel_rfl⟩
instance oneC_91 : OneC prog 91 := ⟨fun w => by kernel_rfl, by kernel_rfl⟩
instance zeroC_91 : ZeroC prog 91 (.map none) := ⟨by kernel_rfl⟩
instance ul_91 : Ul prog 91 (.map 101 50) := ⟨by kernel_rfl⟩
instance oneC_92 : OneC prog 92 := ⟨fun w => by kernel_rfl, by kernel_rfl⟩
instance zeroC_92 : ZeroC prog 92 (.map none) := ⟨by kernel_rfl⟩
instance ul_92 : Ul prog 92 (.map 104 48) := ⟨by kernel_rfl⟩
instance aggC_93 : AggC prog 93 2 := ⟨fun w => by kernel_rfl, by kernel_rfl⟩
instance zeroC_93 : ZeroC prog 93 (.agg #[(.map none), (.map none)]) := ⟨by kernel_rfl⟩
instance fld_93_0 : FldOff prog 93 0 0 := ⟨fun b o w => by kernel_rfl⟩
instance fld_93_1 : FldOff prog 93 1 1 := ⟨fun b o w => by kernel_rfl⟩
instance aggC_94 : AggC prog 94 2 := ⟨fun w => by kernel_rfl, by kernel_rfl⟩
instance zeroC_94 : ZeroC prog 94 (.agg #[(.map none), (.map none)]) := ⟨by kernel_rfl⟩
instance fld_94_0 : FldOff prog 94 0 0 := ⟨fun b o w => by kernel_rfl⟩
instance fld_94_1 : FldOff prog 94 1 1 := ⟨fun b o w => by kernel_rfl⟩
instance aggC_95 : AggC prog 95 33 := ⟨fun w => by kernel_rfl, by kernel_rfl⟩
instance zeroC_95 : ZeroC prog 95 (.agg #[(.int .i64 0), (.int .u8 0), (.int .u8 0), (.int .u8 0), (.int .u8 0), (.int .u8 0), (.int .u8 0), (.int .u8 0), (.int .u8 0), (.int .u8 0), (.int .u8 0), (.int .u8 0), (.int .u8 0), (.int .u8 0), (.int .u8 0), (.int .u8 0), (.int .u8 0), (.int .u8 0), (.int .u8 0), (.int .u8 0), (.int .u8 0), (.int .u8 0), (.int .u8 0), (.int .u8 0), (.int .u8 0), (.int .u8 0), (.int .u8 0), (.int .u8 0), (.int .u8 0), (.int .u8 0), (.int .u8 0), (.int .u8 0), (.int .u8 0)]) := ⟨by kernel_rfl⟩
instance fld_95_0 : FldOff prog 95 0 0 := ⟨fun b o w => by kernel_rfl⟩
instance fld_95_1 : FldOff prog 95 1 1 := ⟨fun b o w => by kernel_rfl⟩
instance aggC_96 : AggC prog 96 33 := ⟨fun w => by kernel_rfl, by kernel_rfl⟩
instance zeroC_96 : ZeroC prog 96 (.agg #[(.int .i64 0), (.int .u8 0), (.int .u8 0), (.int .u8 0), (.int .u8 0), (.int .u8 0), (.int .u8 0), (.int .u8 0), (.int .u8 0), (.int .u8 0), (.int .u8 0), (.int .u8 0), (.int .u8 0), (.int .u8 0), (.int .u8 0), (.int .u8 0), (.int .u8 0), (.int .u8 0), (.int .u8 0), (.int .u8 0), (.int .u8 0), (.int .u8 0), (.int .u8 0), (.int .u8 0), (.int .u8 0), (.int .u8 0), (.int .u8 0), (.int .u8 0), (.int .u8 0), (.int .u8 0), (.int .u8 0), (.int .u8 0), (.int .u8 0)]) := ⟨by kernel_rfl⟩
instance fld_96_0 : FldOff prog 96 0 0 := ⟨fun b o w => by kernel_rfl⟩
instance fld_96_1 : FldOff prog 96 1 1 := ⟨fun b o w => by kernel_rfl⟩
instance aggC_97 : AggC prog 97 100 := ⟨fun w => by kernel_rfl, by kernel_rfl⟩
instance zeroC_97 : ZeroC prog 97 (.agg #[(.int .i64 0), (.int .u8 0), (.int .u8 0), (.int .u8 0), (.int .u8 0), (.int .u8 0), (.int .u8 0), (.int .u8 0), (.int .u8 0), (.int .u8 0), (.int .u8 0), (.int .u8 0), (.int .u8 0), (.int .u8 0), (.int .u8 0), (.int .u8 0), (.int .u8 0), (.int .u8 0), (.int .u8 0), (.int .u8 0), (.int .u8 0), (.int .u8 0), (.int .u8 0), (.int .u8 0), (.int .u8 0), (.int .u8 0), (.int .u8 0), (.int .u8 0), (.int .u8 0), (.int .u8 0), (.int .u8 0), (.int .u8 0), (.int .u8 0), (.int .i64 0), (.int .u8 0), (.int .u8 0), (.int .u8 0), (.int .u8 0), (.int .u8 0), (.int .u8 0), (.int .u8 0), (.int .u8 0), (.int .u8 0), (.int .u8 0), (.int .u8 0), (.int .u8 0), (.int .u8 0), (.int .u8 0), (.int .u8 0), (.int .u8 0), (.int .u8 0), (.int .u8 0), (.int .u8 0), (.int .u8 0), (.int .u8 0), (.int .u8 0), (.int .u8 0), (.int .u8 0), (.int .u8 0), (.int .u8 0), (.int .u8 0), (.int .u8 0), (.int .u8 0), (.int .u8 0), (.int .u8 0), (.int .u8 0), (.int .u8 0), (.int .u8 0), (.int .u8 0), (.int .u8 0), (.int .u8 0), (.int .u8 0), (.int .u8 0), (.int .u8 0), (.int .u8 0), (.int .u8 0), (.int .u8 0), (.int .u8 0), (.int .u8 0), (.int .u8 0), (.int .u8 0), (.int .u8 0), (.int .u8 0), (.int .u8 0), (.int .u8 0), (.int .u8 0), (.int .u8 0), (.int .u8 0), (.int .u8 0), (.int .u8 0), (.int .u8 0), (.int .u8 0), (.int .u8 0), (.int .u8 0), (.int .u8 0), (.int .u8 0), (.int .u8 0), (.int .u8 0), (.int .i64 0), (.slice none 0 0)]) := ⟨by kernel_rfl⟩
instance fld_97_0 : FldOff prog 97 0 0 := ⟨fun b o w => by kernel_rfl⟩
instance fld_97_1 : FldOff prog 97 1 33 := ⟨fun b o w => by kernel_rfl⟩
instance fld_97_2 : FldOff prog 97 2 66 := ⟨fun b o w => by kernel_rfl⟩
instance fld_97_3 : FldOff prog 97 3 98 := ⟨fun b o w => by kernel_rfl⟩
instance fld_97_4 : FldOff prog 97 4 99 := ⟨fun b o w => by kernel_rfl⟩
instance aggC_98 : AggC prog 98 100 := ⟨fun w => by kernel_rfl, by kernel_rfl⟩
instance zeroC_98 : ZeroC prog 98 (.agg #[(.int .i64 0), (.int .u8 0), (.int .u8 0), (.int .u8 0), (.int .u8 0), (.int .u8 0), (.int .u8 0), (.int .u8 0), (.int .u8 0), (.int .u8 0), (.int .u8 0), (.int .u8 0), (.int .u8 0), (.int .u8 0), (.int .u8 0), (.int .u8 0), (.int .u8 0), (.int .u8 0), (.int .u8 0), (.int .u8 0), (.int .u8 0), (.int .u8 0), (.int .u8 0), (.int .u8 0), (.int .u8 0), (.int .u8 0), (.int .u8 0), (.int .u8 0), (.int .u8 0), (.int .u8 0), (.int .u8 0), (.int .u8 0), (.int .u8 0), (.int .i64 0), (.int .u8 0), (.int .u8 0), (.int .u8 0), (.int .u8 0), (.int .u8 0), (.int .u8 0), (.int .u8 0), (.int .u8 0), (.int .u8 0), (.int .u8 0), (.int .u8 0), (.int .u8 0), (.int .u8 0), (.int .u8 0), (.int .u8 0), (.int .u8 0), (.int .u8 0), (.int .u8 0), (.int .u8 0), (.int .u8 0), (.int .u8 0), (.int .u8 0), (.int .u8 0), (.int .u8 0), (.int .u8 0), (.int .u8 0), (.int .u8 0), (.int .u8 0), (.int .u8 0), (.int .u8 0), (.int .u8 0), (.int .u8 0), (.int .u8 0), (.int .u8 0), (.int .u8 0), (.int .u8 0), (.int .u8 0), (.int .u8 0), (.int .u8 0), (.int .u8 0), (.int .u8 0), (.int .u8 0), (.int .u8 0), (.int .u8 0), (.int .u8 0), (.int .u8 0), (.int .u8 0), (.int .u8 0), (.int .u8 0), (.int .u8 0), (.int .u8 0), (.int .u8 0), (.int .u8 0), (.int .u8 0), (.int .u8 0), (.int .u8 0), (.int .u8 0), (.int .u8 0), (.int .u8 0), (.int .u8 0), (.int .u8 0), (.int .u8 0), (.int .u8 0), (.int .u8 0), (.int .i64 0), (.slice none 0 0)]) := ⟨by kernel_rfl⟩
instance fld_98_0 : FldOff prog 98 0 0 := ⟨fun b o w => by kernel_rfl⟩
instance fld_98_1 : FldOff prog 98 1 33 := ⟨fun b o w => by kernel_rfl⟩
instance fld_98_2 : FldOff prog 98 2 66 := ⟨fun b o w => by kernel_rfl⟩
instance fld_98_3 : FldOff prog 98 3 98 := ⟨fun b o w => by kernel_rfl⟩
instance fld_98_4 : FldOff prog 98 4 99 := ⟨fun b o w => by kernel_rfl⟩
instance aggC_100 : AggC prog 100 2 := ⟨fun w => by kernel_rfl, by kernel_rfl⟩
instance zeroC_100 : ZeroC prog 100 (.agg #[(.string ⟨#[]⟩), (.string ⟨#[]⟩)]) := ⟨by kernel_rfl⟩
instance fld_100_0 : FldOff prog 100 0 0 := ⟨fun b o w => by kernel_rfl⟩
instance fld_100_1 : FldOff prog 100 1 1 := ⟨fun b o w => by kernel_rfl⟩
instance aggC_101 : AggC prog 101 2 := ⟨fun w => by kernel_rfl, by kernel_rfl⟩
instance zeroC_101 : ZeroC prog 101 (.agg #[(.string ⟨#[]⟩), (.string ⟨#[]⟩)]) := ⟨by kernel_rfl⟩
instance fld_101_0 : FldOff prog 101 0 0 := ⟨fun b o w => by kernel_rfl⟩
instance fld_101_1 : FldOff prog 101 1 1 := ⟨fun b o w => by kernel_rfl⟩
instance aggC_103 : AggC prog 103 3 := ⟨fun w => by kernel_rfl, by kernel_rfl⟩
instance zeroC_103 : ZeroC prog 103 (.agg #[(.string ⟨#[]⟩), (.string ⟨#[]⟩), (.string ⟨#[]⟩)]) := ⟨by kernel_rfl⟩
instance fld_103_0 : FldOff prog 103 0 0 := ⟨fun b o w => by kernel_rfl⟩
instance fld_103_1 : FldOff prog 103 1 2 := ⟨fun b o w => by kernel_rfl⟩
instance aggC_104 : AggC prog 104 3 := ⟨fun w => by kernel_rfl, by kernel_rfl⟩
instance zeroC_104 : ZeroC prog 104 (.agg #[(.string ⟨#[]⟩), (.string ⟨#[]⟩), (.string ⟨#[]⟩)]) := ⟨by kernel_rfl⟩
instance fld_104_0 : FldOff prog 104 0 0 := ⟨fun b o w => by kernel_rfl⟩
instance fld_104_1 : FldOff prog 104 1 2 := ⟨fun b o w => by kernel_rfl⟩
instance oneC_106 : OneC prog 106 := ⟨fun w => by kernel_rfl, by kernel_rfl⟩
instance zeroC_106 : ZeroC prog 106 (.slice none 0 0) := ⟨by kernel_rfl⟩
instance sliceT_106 : SliceT prog 106 53 4 56 (.agg #[(.string ⟨#[]⟩), (.string ⟨#[]⟩), (.string ⟨#[]⟩), (.int .u8 0)]) := ⟨by kernel_rfl, by kernel_rfl, rfl, by decide⟩
instance ul_106 : Ul prog 106 (.slice 53) := ⟨by kernel_rfl⟩
instance oneC_116 : OneC prog 116 := ⟨fun w => by kernel_rfl, by kernel_rfl⟩
instance zeroC_116 : ZeroC prog 116 (.pointer none) := ⟨by kernel_rfl⟩
instance ul_116 : Ul prog 116 (.pointer 5) := ⟨by kernel_rfl⟩
instance aggC_117 : AggC prog 117 64 := ⟨fun w => by kernel_rfl, by kernel_rfl⟩
instance zeroC_117 : ZeroC prog 117 (.agg #[(.int .u32 0), (.int .u32 0), (.int .u32 0), (.int .u32 0), (.int .u32 0), (.int .u32 0), (.int .u32 0), (.int .u32 0), (.int .u32 0), (.int .u32 0), (.int .u32 0), (.int .u32 0), (.int .u32 0), (.int .u32 0), (.int .u32 0), (.int .u32 0), (.int .u32 0), (.int .u32 0), (.int .u32 0), (.int .u32 0), (.int .u32 0), (.int .u32 0), (.int .u32 0), (.int .u32 0), (.int .u32 0), (.int .u32 0), (.int .u32 0), (.int .u32 0), (.int .u32 0), (.int .u32 0), (.int .u32 0), (.int .u32 0), (.int .u32 0), (.int .u32 0), (.int .u32 0), (.int .u32 0), (.int .u32 0), (.int .u32 0), (.int .u32 0), (.int .u32 0), (.int .u32 0), (.int .u32 0), (.int .u32 0), (.int .u32 0), (.int .u32 0), (.int .u32 0), (.int .u32 0), (.int .u32 0), (.int .u32 0), (.int .u32 0), (.int .u32 0), (.int .u32 0), (.int .u32 0), (.int .u32 0), (.int .u32 0), (.int .u32 0), (.int .u32 0), (.int .u32 0), (.int .u32 0), (.int .u32 0), (.int .u32 0), (.int .u32 0), (.int .u32 0), (.int .u32 0)]) := ⟨by kernel_rfl⟩
instance ul_117 : Ul prog 117 (.array 64 77) := ⟨by kernel_rfl⟩
instance oneC_119 : OneC prog 119 := ⟨fun w => by kernel_rfl, by kernel_rfl⟩
instance zeroC_119 : ZeroC prog 119 (.slice none 0 0) := ⟨by kernel_rfl⟩
instance sliceT_119 : SliceT prog 119 77 1 4 (.int .u32 0) := ⟨by kernel_rfl, by kernel_rfl, rfl, by decide⟩
instance ul_119 : Ul prog 119 (.slice 77) := ⟨by kernel_rfl⟩
instance oneC_122 : OneC prog 122 := ⟨fun w => by kernel_rfl, by kernel_rfl⟩
instance zeroC_122 : ZeroC prog 122 (.map none) := ⟨by kernel_rfl⟩
instance ul_122 : Ul prog 122 (.map 9 3) := ⟨by kernel_rfl⟩
instance oneC_130 : OneC prog 130 := ⟨fun w => by kernel_rfl, by kernel_rfl⟩
instance zeroC_130 : ZeroC prog 130 (.pointer none) := ⟨by kernel_rfl⟩
instance aggC_136 : AggC prog 136 256 := ⟨fun w => by kernel_rfl, by kernel_rfl⟩
instance zeroC_136 : ZeroC prog 136 (.agg #[(.bool false), (.bool false), (.bool false), (.bool false), (.bool false), (.bool false), (.bool false), (.bool false), (.bool false), (.bool false), (.bool false), (.bool false), (.bool false), (.bool false), (.bool false), (.bool false), (.bool false), (.bool false), (.bool false), (.bool false), (.bool false), (.bool false), (.bool false), (.bool false), (.bool false), (.bool false), (.bool false), (.bool false), (.bool false), (.bool false), (.bool false), (.bool false), (.bool false), (.bool false), (.bool false), (.bool false), (.bool false), (.bool false), (.bool false), (.bool false), (.bool false), (.bool false), (.bool false), (.bool false), (.bool false), (.bool false), (.bool false), (.bool false), (.bool false), (.bool false), (.bool false), (.bool false), (.bool false), (.bool false), (.bool false), (.bool false), (.bool false), (.bool false), (.bool false), (.bool false), (.bool false), (.bool false), (.bool false), (.bool false), (.bool false), (.bool false), (.bool false), (.bool false), (.bool false), (.bool false), (.bool false), (.bool false), (.bool false), (.bool false), (.bool false), (.bool false), (.bool false), (.bool false), (.bool false), (.bool false), (.bool false), (.bool false), (.bool false), (.bool false), (.bool false), (.bool false), (.bool false), (.bool false), (.bool false), (.bool false), (.bool false), (.bool false), (.bool false), (.bool false), (.bool false), (.bool false), (.bool false), (.bool false), (.bool false), (.bool false), (.bool false), (.bool false), (.bool false), (.bool false), (.bool false), (.bool false), (.bool false), (.bool false), (.bool false), (.bool false), (.bool false), (.bool false), (.bool false), (.bool false), (.bool false), (.bool false), (.bool false), (.bool false), (.bool false), (.bool false), (.bool false), (.bool false), (.bool false), (.bool false), (.bool false), (.bool false), (.bool false), (.bool false), (.bool false), (.bool false), (.bool false), (.bool false), (.bool false), (.bool false), (.bool false), (.bool false), (.bool false), (.bool false), (.bool false), (.bool false), (.bool false), (.bool false), (.bool false), (.bool false), (.bool false), (.bool false), (.bool false), (.bool false), (.bool false), (.bool false), (.bool false), (.bool false), (.bool false), (.bool false), (.bool false), (.bool false), (.bool false), (.bool false), (.bool false), (.bool false), (.bool false), (.bool false), (.bool false), (.bool false), (.bool false), (.bool false), (.bool false), (.bool false), (.bool false), (.bool false), (.bool false), (.bool false), (.bool false), (.bool false), (.bool false), (.bool false), (.bool false), (.bool false), (.bool false), (.bool false), (.bool false), (.bool false), (.bool false), (.bool false), (.bool false), (.bool false), (.bool false), (.bool false), (.bool false), (.bool false), (.bool false), (.bool false), (.bool false), (.bool false), (.bool false), (.bool false), (.bool false), (.bool false), (.bool false), (.bool false), (.bool false), (.bool false), (.bool false), (.bool false), (.bool false), (.bool false), (.bool false), (.bool false), (.bool false), (.bool false), (.bool false), (.bool false), (.bool false), (.bool false), (.bool false), (.bool false), (.bool false), (.bool false), (.bool false), (.bool false), (.bool false), (.bool false), (.bool false), (.bool false), (.bool false), (.bool false), (.bool false), (.bool false), (.bool false), (.bool false), (.bool false), (.bool false), (.bool false), (.bool false), (.bool false), (.bool false), (.bool false), (.bool false), (.bool false), (.bool false), (.bool false), (.bool false), (.bool false), (.bool false), (.bool false), (.bool false), (.bool false), (.bool false), (.bool false), (.bool false), (.bool false), (.bool false), (.bool false), (.bool false), (.bool false), (.bool false)]) := ⟨by kernel_rfl⟩
instance ul_136 : Ul prog 136 (.array 256 4) := ⟨by kernel_rfl⟩
instance aggC_137 : AggC prog 137 256 := ⟨fun w => by kernel_rfl, by kernel_rfl⟩
instance zeroC_137 : ZeroC prog 137 (.agg #[(.bool false), (.bool false), (.bool false), (.bool false), (.bool false), (.bool false), (.bool false), (.bool false), (.bool false), (.bool false), (.bool false), (.bool false), (.bool false), (.bool false), (.bool false), (.bool false), (.bool false), (.bool false), (.bool false), (.bool false), (.bool false), (.bool false), (.bool false), (.bool false), (.bool false), (.bool false), (.bool false), (.bool false), (.bool false), (.bool false), (.bool false), (.bool false), (.bool false), (.bool false), (.bool false), (.bool false), (.bool false), (.bool false), (.bool false), (.bool false), (.bool false), (.bool false), (.bool false), (.bool false), (.bool false), (.bool false), (.bool false), (.bool false), (.bool false), (.bool false), (.bool false), (.bool false), (.bool false), (.bool false), (.bool false), (.bool false), (.bool false), (.bool false), (.bool false), (.bool false), (.bool false), (.bool false), (.bool false), (.bool false), (.bool false), (.bool false), (.bool false), (.bool false), (.bool false), (.bool false), (.bool false), (.bool false), (.bool false), (.bool false), (.bool false), (.bool false), (.bool false), (.bool false), (.bool false), (.bool false), (.bool false), (.bool false), (.bool false), (.bool false), (.bool false), (.bool false), (.bool false), (.bool false), (.bool false), (.bool false), (.bool false), (.bool false), (.bool false), (.bool false), (.bool false), (.bool false), (.bool false), (.bool false), (.bool false), (.bool false), (.bool false), (.bool false), (.bool false), (.bool false), (.bool false), (.bool false), (.bool false), (.bool false), (.bool false), (.bool false), (.bool false), (.bool false), (.bool false), (.bool false), (.bool false), (.bool false), (.bool false), (.bool false), (.bool false), (.bool false), (.bool false), (.bool false), (.bool false), (.bool false), (.bool false), (.bool false), (.bool false), (.bool false), (.bool false), (.bool false), (.bool false), (.bool false), (.bool false), (.bool false), (.bool false), (.bool false), (.bool false), (.bool false), (.bool false), (.bool false), (.bool false), (.bool false), (.bool false), (.bool false), (.bool false), (.bool false), (.bool false), (.bool false), (.bool false), (.bool false), (.bool false), (.bool false), (.bool false), (.bool false), (.bool false), (.bool false), (.bool false), (.bool false), (.bool false), (.bool false), (.bool false), (.bool false), (.bool false), (.bool false), (.bool false), (.bool false), (.bool false), (.bool false), (.bool false), (.bool false), (.bool false), (.bool false), (.bool false), (.bool false), (.bool false), (.bool false), (.bool false), (.bool false), (.bool false), (.bool false), (.bool false), (.bool false), (.bool false), (.bool false), (.bool false), (.bool false), (.bool false), (.bool false), (.bool false), (.bool false), (.bool false), (.bool false), (.bool false), (.bool false), (.bool false), (.bool false), (.bool false), (.bool false), (.bool false), (.bool false), (.bool false), (.bool false), (.bool false), (.bool false), (.bool false), (.bool false), (.bool false), (.bool false), (.bool false), (.bool false), (.bool false), (.bool false), (.bool false), (.bool false), (.bool false), (.bool false), (.bool false), (.bool false), (.bool false), (.bool false), (.bool false), (.bool false), (.bool false), (.bool false), (.bool false), (.bool false), (.bool false), (.bool false), (.bool false), (.bool false), (.bool false), (.bool false), (.bool false), (.bool false), (.bool false), (.bool false), (.bool false), (.bool false), (.bool false), (.bool false), (.bool false), (.bool false), (.bool false), (.bool false), (.bool false), (.bool false), (.bool false), (.bool false), (.bool false), (.bool false), (.bool false), (.bool false), (.bool false), (.bool false), (.bool false), (.bool false)]) := ⟨by kernel_rfl⟩
instance ul_137 : Ul prog 137 (.array 256 4) := ⟨by kernel_rfl⟩
instance oneC_141 : OneC prog 141 := ⟨fun w => by kernel_rfl, by kernel_rfl⟩
instance zeroC_141 : ZeroC prog 141 (.pointer none) := ⟨by kernel_rfl⟩
instance ul_141 : Ul prog 141 (.pointer 137) := ⟨by kernel_rfl⟩
instance oneC_156 : OneC prog 156 := ⟨fun w => by kernel_rfl, by kernel_rfl⟩
instance zeroC_156 : ZeroC prog 156 (.int .i64 0) := ⟨by kernel_rfl⟩
instance ul_156 : Ul prog 156 (.int .i64) := ⟨by kernel_rfl⟩
instance oneC_168 : OneC prog 168 := ⟨fun w => by kernel_rfl, by kernel_rfl⟩
instance zeroC_168 : ZeroC prog 168 (.slice none 0 0) := ⟨by kernel_rfl⟩
instance sliceT_168 : SliceT prog 168 25 1 24 (.slice none 0 0) := ⟨by kernel_rfl, by kernel_rfl, rfl, by decide⟩
instance ul_168 : Ul prog 168 (.slice 25) := ⟨by kernel_rfl⟩
instance oneC_171 : OneC prog 171 := ⟨fun w => by kernel_rfl, by kernel_rfl⟩
instance zeroC_171 : ZeroC prog 171 (.int .u64 0) := ⟨by kernel_rfl⟩
instance ul_171 : Ul prog 171 (.int .u64) := ⟨by kernel_rfl⟩
instance oneC_175 : OneC prog 175 := ⟨fun w => by kernel_rfl, by kernel_rfl⟩
instance zeroC_175 : ZeroC prog 175 (.pointer none) := ⟨by kernel_rfl⟩
instance ul_175 : Ul prog 175 (.pointer 3) := ⟨by kernel_rfl⟩
instance aggC_178 : AggC prog 178 256 := ⟨fun w => by kernel_rfl, by kernel_rfl⟩
instance zeroC_178 : ZeroC prog 178 (.agg #[(.int .u8 0), (.int .u8 0), (.int .u8 0), (.int .u8 0), (.int .u8 0), (.int .u8 0), (.int .u8 0), (.int .u8 0), (.int .u8 0), (.int .u8 0), (.int .u8 0), (.int .u8 0), (.int .u8 0), (.int .u8 0), (.int .u8 0), (.int .u8 0), (.int .u8 0), (.int .u8 0), (.int .u8 0), (.int .u8 0), (.int .u8 0), (.int .u8 0), (.int .u8 0), (.int .u8 0), (.int .u8 0), (.int .u8 0), (.int .u8 0), (.int .u8 0), (.int .u8 0), (.int .u8 0), (.int .u8 0), (.int .u8 0), (.int .u8 0), (.int .u8 0), (.int .u8 0), (.int .u8 0), (.int .u8 0), (.int .u8 0), (.int .u8 0), (.int .u8 0), (.int .u8 0), (.int .u8 0), (.int .u8 0), (.int .u8 0), (.int .u8 0), (.int .u8 0), (.int .u8 0), (.int .u8 0), (.int .u8 0), (.int .u8 0), (.int .u8 0), (.int .u8 0), (.int .u8 0), (.int .u8 0), (.int .u8 0), (.int .u8 0), (.int .u8 0), (.int .u8 0), (.int .u8 0), (.int .u8 0), (.int .u8 0), (.int .u8 0), (.int .u8 0), (.int .u8 0), (.int .u8 0), (.int .u8 0), (.int .u8 0), (.int .u8 0), (.int .u8 0), (.int .u8 0), (.int .u8 0), (.int .u8 0), (.int .u8 0), (.int .u8 0), (.int .u8 0), (.int .u8 0), (.int .u8 0), (.int .u8 0), (.int .u8 0), (.int .u8 0), (.int .u8 0), (.int .u8 0), (.int .u8 0), (.int .u8 0), (.int .u8 0), (.int .u8 0), (.int .u8 0), (.int .u8 0), (.int .u8 0), (.int .u8 0), (.int .u8 0), (.int .u8 0), (.int .u8 0), (.int .u8 0), (.int .u8 0), (.int .u8 0), (.int .u8 0), (.int .u8 0), (.int .u8 0), (.int .u8 0), (.int .u8 0), (.int .u8 0), (.int .u8 0), (.int .u8 0), (.int .u8 0), (.int .u8 0), (.int .u8 0), (.int .u8 0), (.int .u8 0), (.int .u8 0), (.int .u8 0), (.int .u8 0), (.int .u8 0), (.int .u8 0), (.int .u8 0), (.int .u8 0), (.int .u8 0), (.int .u8 0), (.int .u8 0), (.int .u8 0), (.int .u8 0), (.int .u8 0), (.int .u8 0), (.int .u8 0), (.int .u8 0), (.int .u8 0), (.int .u8 0), (.int .u8 0), (.int .u8 0), (.int .u8 0), (.int .u8 0), (.int .u8 0), (.int .u8 0), (.int .u8 0), (.int .u8 0), (.int .u8 0), (.int .u8 0), (.int .u8 0), (.int .u8 0), (.int .u8 0), (.int .u8 0), (.int .u8 0), (.int .u8 0), (.int .u8 0), (.int .u8 0), (.int .u8 0), (.int .u8 0), (.int .u8 0), (.int .u8 0), (.int .u8 0), (.int .u8 0), (.int .u8 0), (.int .u8 0), (.int .u8 0), (.int .u8 0), (.int .u8 0), (.int .u8 0), (.int .u8 0), (.int .u8 0), (.int .u8 0), (.int .u8 0), (.int .u8 0), (.int .u8 0), (.int .u8 0), (.int .u8 0), (.int .u8 0), (.int .u8 0), (.int .u8 0), (.int .u8 0), (.int .u8 0), (.int .u8 0), (.int .u8 0), (.int .u8 0), (.int .u8 0), (.int .u8 0), (.int .u8 0), (.int .u8 0), (.int .u8 0), (.int .u8 0), (.int .u8 0), (.int .u8 0), (.int .u8 0), (.int .u8 0), (.int .u8 0), (.int .u8 0), (.int .u8 0), (.int .u8 0), (.int .u8 0), (.int .u8 0), (.int .u8 0), (.int .u8 0), (.int .u8 0), (.int .u8 0), (.int .u8 0), (.int .u8 0), (.int .u8 0), (.int .u8 0), (.int .u8 0), (.int .u8 0), (.int .u8 0), (.int .u8 0), (.int .u8 0), (.int .u8 0), (.int .u8 0), (.int .u8 0), (.int .u8 0), (.int .u8 0), (.int .u8 0), (.int .u8 0), (.int .u8 0), (.int .u8 0), (.int .u8 0), (.int .u8 0), (.int .u8 0), (.int .u8 0), (.int .u8 0), (.int .u8 0), (.int .u8 0), (.int .u8 0), (.int .u8 0), (.int .u8 0), (.int .u8 0), (.int .u8 0), (.int .u8 0), (.int .u8 0), (.int .u8 0), (.int .u8 0), (.int .u8 0), (.int .u8 0), (.int .u8 0), (.int .u8 0), (.int .u8 0), (.int .u8 0), (.int .u8 0), (.int .u8 0), (.int .u8 0), (.int .u8 0), (.int .u8 0), (.int .u8 0), (.int .u8 0), (.int .u8 0), (.int .u8 0), (.int .u8 0), (.int .u8 0), (.int .u8 0), (.int .u8 0), (.int .u8 0), (.int .u8 0), (.int .u8 0), (.int .u8 0), (.int .u8 0), (.int .u8 0), (.int .u8 0), (.int .u8 0), (.int .u8 0), (.int .u8 0)]) := ⟨by kernel_rfl⟩
instance ul_178 : Ul prog 178 (.array 256 5) := ⟨by kernel_rfl⟩
instance aggC_179 : AggC prog 179 2 := ⟨fun w => by kernel_rfl, by kernel_rfl⟩
instance zeroC_179 : ZeroC prog 179 (.agg #[(.int .u8 0), (.int .u8 0)]) := ⟨by kernel_rfl⟩
instance fld_179_0 : FldOff prog 179 0 0 := ⟨fun b o w => by kernel_rfl⟩
instance fld_179_1 : FldOff prog 179 1 1 := ⟨fun b o w => by kernel_rfl⟩
instance aggC_180 : AggC prog 180 2 := ⟨fun w => by kernel_rfl, by kernel_rfl⟩
instance zeroC_180 : ZeroC prog 180 (.agg #[(.int .u8 0), (.int .u8 0)]) := ⟨by kernel_rfl⟩
instance fld_180_0 : FldOff prog 180 0 0 := ⟨fun b o w => by kernel_rfl⟩
instance fld_180_1 : FldOff prog 180 1 1 := ⟨fun b o w => by kernel_rfl⟩
instance aggC_181 : AggC prog 181 32 := ⟨fun w => by kernel_rfl, by kernel_rfl⟩
instance zeroC_181 : ZeroC prog 181 (.agg #[(.int .u8 0), (.int .u8 0), (.int .u8 0), (.int .u8 0), (.int .u8 0), (.int .u8 0), (.int .u8 0), (.int .u8 0), (.int .u8 0), (.int .u8 0), (.int .u8 0), (.int .u8 0), (.int .u8 0), (.int .u8 0), (.int .u8 0), (.int .u8 0), (.int .u8 0), (.int .u8 0), (.int .u8 0), (.int .u8 0), (.int .u8 0), (.int .u8 0), (.int .u8 0), (.int .u8 0), (.int .u8 0), (.int .u8 0), (.int .u8 0), (.int .u8 0), (.int .u8 0), (.int .u8 0), (.int .u8 0), (.int .u8 0)]) := ⟨by kernel_rfl⟩
instance ul_181 : Ul prog 181 (.array 16 180) := ⟨by kernel_rfl⟩
instance oneC_183 : OneC prog 183 := ⟨fun w => by kernel_rfl, by kernel_rfl⟩
instance zeroC_183 : ZeroC prog 183 (.pointer none) := ⟨by kernel_rfl⟩
instance ul_183 : Ul prog 183 (.pointer 171) := ⟨by kernel_rfl⟩
instance aggC_187 : AggC prog 187 24 := ⟨fun w => by kernel_rfl, by kernel_rfl⟩
instance zeroC_187 : ZeroC prog 187 (.agg #[(.int .u8 0), (.int .u8 0), (.int .u8 0), (.int .u8 0), (.int .u8 0), (.int .u8 0), (.int .u8 0), (.int .u8 0), (.int .u8 0), (.int .u8 0), (.int .u8 0), (.int .u8 0), (.int .u8 0), (.int .u8 0), (.int .u8 0), (.int .u8 0), (.int .u8 0), (.int .u8 0), (.int .u8 0), (.int .u8 0), (.int .u8 0), (.int .u8 0), (.int .u8 0), (.int .u8 0)]) := ⟨by kernel_rfl⟩
instance ul_187 : Ul prog 187 (.array 24 5) := ⟨by kernel_rfl⟩
instance aggC_194 : AggC prog 194 20 := ⟨fun w => by kernel_rfl, by kernel_rfl⟩
instance zeroC_194 : ZeroC prog 194 (.agg #[(.int .u64 0), (.int .u64 0), (.int .u64 0), (.int .u64 0), (.int .u64 0), (.int .u64 0), (.int .u64 0), (.int .u64 0), (.int .u64 0), (.int .u64 0), (.int .u64 0), (.int .u64 0), (.int .u64 0), (.int .u64 0), (.int .u64 0), (.int .u64 0), (.int .u64 0), (.int .u64 0), (.int .u64 0), (.int .u64 0)]) := ⟨by kernel_rfl⟩
instance ul_194 : Ul prog 194 (.array 20 35) := ⟨by kernel_rfl⟩
instance aggC_195 : AggC prog 195 65 := ⟨fun w => by kernel_rfl, by kernel_rfl⟩
instance zeroC_195 : ZeroC prog 195 (.agg #[(.int .u8 0), (.int .u8 0), (.int .u8 0), (.int .u8 0), (.int .u8 0), (.int .u8 0), (.int .u8 0), (.int .u8 0), (.int .u8 0), (.int .u8 0), (.int .u8 0), (.int .u8 0), (.int .u8 0), (.int .u8 0), (.int .u8 0), (.int .u8 0), (.int .u8 0), (.int .u8 0), (.int .u8 0), (.int .u8 0), (.int .u8 0), (.int .u8 0), (.int .u8 0), (.int .u8 0), (.int .u8 0), (.int .u8 0), (.int .u8 0), (.int .u8 0), (.int .u8 0), (.int .u8 0), (.int .u8 0), (.int .u8 0), (.int .u8 0), (.int .u8 0), (.int .u8 0), (.int .u8 0), (.int .u8 0), (.int .u8 0), (.int .u8 0), (.int .u8 0), (.int .u8 0), (.int .u8 0), (.int .u8 0), (.int .u8 0), (.int .u8 0), (.int .u8 0), (.int .u8 0), (.int .u8 0), (.int .u8 0), (.int .u8 0), (.int .u8 0), (.int .u8 0), (.int .u8 0), (.int .u8 0), (.int .u8 0), (.int .u8 0), (.int .u8 0), (.int .u8 0), (.int .u8 0), (.int .u8 0), (.int .u8 0), (.int .u8 0), (.int .u8 0), (.int .u8 0), (.int .u8 0)]) := ⟨by kernel_rfl⟩
instance ul_195 : Ul prog 195 (.array 65 5) := ⟨by kernel_rfl⟩
instance aggC_197 : AggC prog 197 4 := ⟨fun w => by kernel_rfl, by kernel_rfl⟩
instance zeroC_197 : ZeroC prog 197 (.agg #[(.pointer none), (.pointer none), (.pointer none), (.string ⟨#[]⟩)]) := ⟨by kernel_rfl⟩
instance fld_197_0 : FldOff prog 197 0 0 := ⟨fun b o w => by kernel_rfl⟩
instance fld_197_1 : FldOff prog 197 1 1 := ⟨fun b o w => by kernel_rfl⟩
instance fld_197_2 : FldOff prog 197 2 2 := ⟨fun b o w => by kernel_rfl⟩
instance fld_197_3 : FldOff prog 197 3 3 := ⟨fun b o w => by kernel_rfl⟩
instance aggC_198 : AggC prog 198 4 := ⟨fun w => by kernel_rfl, by kernel_rfl⟩
instance zeroC_198 : ZeroC prog 198 (.agg #[(.pointer none), (.pointer none), (.pointer none), (.string ⟨#[]⟩)]) := ⟨by kernel_rfl⟩
instance fld_198_0 : FldOff prog 198 0 0 := ⟨fun b o w => by kernel_rfl⟩
instance fld_198_1 : FldOff prog 198 1 1 := ⟨fun b o w => by kernel_rfl⟩
instance fld_198_2 : FldOff prog 198 2 2 := ⟨fun b o w => by kernel_rfl⟩
instance fld_198_3 : FldOff prog 198 3 3 := ⟨fun b o w => by kernel_rfl⟩
instance aggC_199 : AggC prog 199 0 := ⟨fun w => by kernel_rfl, by kernel_rfl⟩
instance zeroC_199 : ZeroC prog 199 (.agg #[]) := ⟨by kernel_rfl⟩
instance ul_199 : Ul prog 199 (.array 0 16) := ⟨by kernel_rfl⟩
instance aggC_200 : AggC prog 200 0 := ⟨fun w => by kernel_rfl, by kernel_rfl⟩
instance zeroC_200 : ZeroC prog 200 (.agg #[]) := ⟨by kernel_rfl⟩
instance aggC_201 : AggC prog 201 0 := ⟨fun w => by kernel_rfl, by kernel_rfl⟩
instance zeroC_201 : ZeroC prog 201 (.agg #[]) := ⟨by kernel_rfl⟩
instance oneC_202 : OneC prog 202 := ⟨fun w => by kernel_rfl, by kernel_rfl⟩
instance zeroC_202 : ZeroC prog 202 (.int .u8 0) := ⟨by kernel_rfl⟩
instance ul_202 : Ul prog 202 (.int .u8) := ⟨by kernel_rfl⟩
instance oneC_203 : OneC prog 203 := ⟨fun w => by kernel_rfl, by kernel_rfl⟩
instance zeroC_203 : ZeroC prog 203 (.int .u8 0) := ⟨by kernel_rfl⟩
instance ul_203 : Ul prog 203 (.int .u8) := ⟨by kernel_rfl⟩
instance oneC_205 : OneC prog 205 := ⟨fun w => by kernel_rfl, by kernel_rfl⟩
instance zeroC_205 : ZeroC prog 205 (.int .i32 0) := ⟨by kernel_rfl⟩
instance ul_205 : Ul prog 205 (.int .i32) := ⟨by kernel_rfl⟩
instance oneC_206 : OneC prog 206 := ⟨fun w => by kernel_rfl, by kernel_rfl⟩
instance zeroC_206 : ZeroC prog 206 (.int .i32 0) := ⟨by kernel_rfl⟩
instance ul_206 : Ul prog 206 (.int .i32) := ⟨by kernel_rfl⟩
instance aggC_207 : AggC prog 207 11 := ⟨fun w => by kernel_rfl, by kernel_rfl⟩
instance zeroC_207 : ZeroC prog 207 (.agg #[(.int .u64 0), (.int .u64 0), (.int .u32 0), (.int .u8 0), (.int .u8 0), (.int .u8 0), (.int .u8 0), .nilFunc, (.pointer none), (.int .i32 0), (.int .i32 0)]) := ⟨by kernel_rfl⟩
instance fld_207_0 : FldOff prog 207 0 0 := ⟨fun b o w => by kernel_rfl⟩
instance fld_207_1 : FldOff prog 207 1 1 := ⟨fun b o w => by kernel_rfl⟩
instance fld_207_2 : FldOff prog 207 2 2 := ⟨fun b o w => by kernel_rfl⟩
instance fld_207_3 : FldOff prog 207 3 3 := ⟨fun b o w => by kernel_rfl⟩
instance fld_207_4 : FldOff prog 207 4 4 := ⟨fun b o w => by kernel_rfl⟩
instance fld_207_5 : FldOff prog 207 5 5 := ⟨fun b o w => by kernel_rfl⟩
instance fld_207_6 : FldOff prog 207 6 6 := ⟨fun b o w => by kernel_rfl⟩
instance fld_207_7 : FldOff prog 207 7 7 := ⟨fun b o w => by kernel_rfl⟩
instance fld_207_8 : FldOff prog 207 8 8 := ⟨fun b o w => by kernel_rfl⟩
instance fld_207_9 : FldOff prog 207 9 9 := ⟨fun b o w => by kernel_rfl⟩
instance fld_207_10 : FldOff prog 207 10 10 := ⟨fun b o w => by kernel_rfl⟩
instance aggC_208 : AggC prog 208 11 := ⟨fun w => by kernel_rfl, by kernel_rfl⟩
instance zeroC_208 : ZeroC prog 208 (.agg #[(.int .u64 0), (.int .u64 0), (.int .u32 0), (.int .u8 0), (.int .u8 0), (.int .u8 0), (.int .u8 0), .nilFunc, (.pointer none), (.int .i32 0), (.int .i32 0)]) := ⟨by kernel_rfl⟩
instance fld_208_0 : FldOff prog 208 0 0 := ⟨fun b o w => by kernel_rfl⟩
instance fld_208_1 : FldOff prog 208 1 1 := ⟨fun b o w => by kernel_rfl⟩
instance fld_208_2 : FldOff prog 208 2 2 := ⟨fun b o w => by kernel_rfl⟩
instance fld_208_3 : FldOff prog 208 3 3 := ⟨fun b o w => by kernel_rfl⟩
instance fld_208_4 : FldOff prog 208 4 4 := ⟨fun b o w => by kernel_rfl⟩
instance fld_208_5 : FldOff prog 208 5 5 := ⟨fun b o w => by kernel_rfl⟩
instance fld_208_6 : FldOff prog 208 6 6 := ⟨fun b o w => by kernel_rfl⟩
instance fld_208_7 : FldOff prog 208 7 7 := ⟨fun b o w => by kernel_rfl⟩
instance fld_208_8 : FldOff prog 208 8 8 := ⟨fun b o w => by kernel_rfl⟩
instance fld_208_9 : FldOff prog 208 9 9 := ⟨fun b o w => by kernel_rfl⟩
instance fld_208_10 : FldOff prog 208 10 10 := ⟨fun b o w => by kernel_rfl⟩

end Go.Proofs.YtmnaalpjhkkglaaDoor
