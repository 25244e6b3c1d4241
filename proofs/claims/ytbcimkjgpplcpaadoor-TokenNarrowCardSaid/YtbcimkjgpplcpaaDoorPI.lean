import Derived.Test.YtbcimkjgpplcpaaDoorProg
import Derived.Test.YtbcimkjgpplcpaaDoorVc
import Derived.KernelRfl
set_option linter.all false
set_option maxRecDepth 100000
namespace Go.Proofs.YtbcimkjgpplcpaaDoor
open Go Hold
noncomputable abbrev prog : Program := Tryd.prog
instance oneC_2 : OneC prog 2 := ⟨fun w => by kernel_rfl, by kernel_rfl⟩
instance zeroC_2 : ZeroC prog 2 (.int .i64 0) := ⟨by kernel_rfl⟩
instance ul_2 : Ul prog 2 (.int .i64) := ⟨by kernel_rfl⟩
instance oneC_3 : OneC prog 3 := ⟨fun w => by kernel_rfl, by kernel_rfl⟩
instance zeroC_3 : ZeroC prog 3 (.int .i64 0) := ⟨by kernel_rfl⟩
instance ul_3 : Ul prog 3 (.int .i64) := ⟨by kernel_rfl⟩
instance oneC_4 : OneC prog 4 := ⟨fun w => by kernel_rfl, by kernel_rfl⟩
instance zeroC_4 : ZeroC prog 4 (.bool false) := ⟨by kernel_rfl⟩
instance ul_4 : Ul prog 4 .bool := ⟨by kernel_rfl⟩
instance oneC_5 : OneC prog 5 := ⟨fun w => by kernel_rfl, by kernel_rfl⟩
instance zeroC_5 : ZeroC prog 5 (.int .u8 0) := ⟨by kernel_rfl⟩
instance ul_5 : Ul prog 5 (.int .u8) := ⟨by kernel_rfl⟩
instance oneC_6 : OneC prog 6 := ⟨fun w => by kernel_rfl, by kernel_rfl⟩
instance zeroC_6 : ZeroC prog 6 (.int .u8 0) := ⟨by kernel_rfl⟩
instance ul_6 : Ul prog 6 (.int .u8) := ⟨by kernel_rfl⟩
instance aggC_7 : AggC prog 7 4 := ⟨fun w => by kernel_rfl, by kernel_rfl⟩
instance zeroC_7 : ZeroC prog 7 (.agg #[(.int .i64 0), (.int .i64 0), (.bool false), (.int .u8 0)]) := ⟨by kernel_rfl⟩
instance fld_7_0 : FldOff prog 7 0 0 := ⟨fun b o w => by kernel_rfl⟩
instance fld_7_1 : FldOff prog 7 1 1 := ⟨fun b o w => by kernel_rfl⟩
instance fld_7_2 : FldOff prog 7 2 2 := ⟨fun b o w => by kernel_rfl⟩
instance fld_7_3 : FldOff prog 7 3 3 := ⟨fun b o w => by kernel_rfl⟩
instance aggC_8 : AggC prog 8 4 := ⟨fun w => by kernel_rfl, by kernel_rfl⟩
instance zeroC_8 : ZeroC prog 8 (.agg #[(.int .i64 0), (.int .i64 0), (.bool false), (.int .u8 0)]) := ⟨by kernel_rfl⟩
instance fld_8_0 : FldOff prog 8 0 0 := ⟨fun b o w => by kernel_rfl⟩
instance fld_8_1 : FldOff prog 8 1 1 := ⟨fun b o w => by kernel_rfl⟩
instance fld_8_2 : FldOff prog 8 2 2 := ⟨fun b o w => by kernel_rfl⟩
instance fld_8_3 : FldOff prog 8 3 3 := ⟨fun b o w => by kernel_rfl⟩
instance oneC_9 : OneC prog 9 := ⟨fun w => by kernel_rfl, by kernel_rfl⟩
instance zeroC_9 : ZeroC prog 9 (.string ⟨#[]⟩) := ⟨by kernel_rfl⟩
instance ul_9 : Ul prog 9 .string := ⟨by kernel_rfl⟩
instance oneC_10 : OneC prog 10 := ⟨fun w => by kernel_rfl, by kernel_rfl⟩
instance zeroC_10 : ZeroC prog 10 (.string ⟨#[]⟩) := ⟨by kernel_rfl⟩
instance ul_10 : Ul prog 10 .string := ⟨by kernel_rfl⟩
instance oneC_11 : OneC prog 11 := ⟨fun w => by kernel_rfl, by kernel_rfl⟩
instance zeroC_11 : ZeroC prog 11 (.string ⟨#[]⟩) := ⟨by kernel_rfl⟩
instance ul_11 : Ul prog 11 .string := ⟨by kernel_rfl⟩
instance oneC_12 : OneC prog 12 := ⟨fun w => by kernel_rfl, by kernel_rfl⟩
instance zeroC_12 : ZeroC prog 12 (.int .u64 0) := ⟨by kernel_rfl⟩
instance ul_12 : Ul prog 12 (.int .u64) := ⟨by kernel_rfl⟩
instance aggC_13 : AggC prog 13 2 := ⟨fun w => by kernel_rfl, by kernel_rfl⟩
instance zeroC_13 : ZeroC prog 13 (.agg #[(.string ⟨#[]⟩), (.int .u64 0)]) := ⟨by kernel_rfl⟩
instance fld_13_0 : FldOff prog 13 0 0 := ⟨fun b o w => by kernel_rfl⟩
instance fld_13_1 : FldOff prog 13 1 1 := ⟨fun b o w => by kernel_rfl⟩
instance aggC_14 : AggC prog 14 2 := ⟨fun w => by kernel_rfl, by kernel_rfl⟩
instance zeroC_14 : ZeroC prog 14 (.agg #[(.string ⟨#[]⟩), (.int .u64 0)]) := ⟨by kernel_rfl⟩
instance fld_14_0 : FldOff prog 14 0 0 := ⟨fun b o w => by kernel_rfl⟩
instance fld_14_1 : FldOff prog 14 1 1 := ⟨fun b o w => by kernel_rfl⟩
instance oneC_15 : OneC prog 15 := ⟨fun w => by kernel_rfl, by kernel_rfl⟩
instance zeroC_15 : ZeroC prog 15 (.pointer none) := ⟨by kernel_rfl⟩
instance ul_15 : Ul prog 15 (.pointer 167) := ⟨by kernel_rfl⟩
instance oneC_16 : OneC prog 16 := ⟨fun w => by kernel_rfl, by kernel_rfl⟩
instance zeroC_16 : ZeroC prog 16 (.pointer none) := ⟨by kernel_rfl⟩
instance ul_16 : Ul prog 16 (.pointer 170) := ⟨by kernel_rfl⟩
instance oneC_17 : OneC prog 17 := ⟨fun w => by kernel_rfl, by kernel_rfl⟩
instance zeroC_17 : ZeroC prog 17 (.pointer none) := ⟨by kernel_rfl⟩
instance ul_17 : Ul prog 17 (.pointer 179) := ⟨by kernel_rfl⟩
instance aggC_18 : AggC prog 18 1 := ⟨fun w => by kernel_rfl, by kernel_rfl⟩
instance zeroC_18 : ZeroC prog 18 (.agg #[(.pointer none)]) := ⟨by kernel_rfl⟩
instance fld_18_0 : FldOff prog 18 0 0 := ⟨fun b o w => by kernel_rfl⟩
instance aggC_19 : AggC prog 19 1 := ⟨fun w => by kernel_rfl, by kernel_rfl⟩
instance zeroC_19 : ZeroC prog 19 (.agg #[(.pointer none)]) := ⟨by kernel_rfl⟩
instance fld_19_0 : FldOff prog 19 0 0 := ⟨fun b o w => by kernel_rfl⟩
instance oneC_20 : OneC prog 20 := ⟨fun w => by kernel_rfl, by kernel_rfl⟩
instance zeroC_20 : ZeroC prog 20 .nilIface := ⟨by kernel_rfl⟩
instance oneC_21 : OneC prog 21 := ⟨fun w => by kernel_rfl, by kernel_rfl⟩
instance zeroC_21 : ZeroC prog 21 (.int .i32 0) := ⟨by kernel_rfl⟩
instance ul_21 : Ul prog 21 (.int .i32) := ⟨by kernel_rfl⟩
instance oneC_22 : OneC prog 22 := ⟨fun w => by kernel_rfl, by kernel_rfl⟩
instance zeroC_22 : ZeroC prog 22 (.pointer none) := ⟨by kernel_rfl⟩
instance ul_22 : Ul prog 22 (.pointer 74) := ⟨by kernel_rfl⟩
instance oneC_25 : OneC prog 25 := ⟨fun w => by kernel_rfl, by kernel_rfl⟩
instance zeroC_25 : ZeroC prog 25 (.int .u8 0) := ⟨by kernel_rfl⟩
instance ul_25 : Ul prog 25 (.int .u8) := ⟨by kernel_rfl⟩
instance aggC_26 : AggC prog 26 5 := ⟨fun w => by kernel_rfl, by kernel_rfl⟩
instance zeroC_26 : ZeroC prog 26 (.agg #[(.int .i64 0), (.int .i64 0), (.string ⟨#[]⟩), (.int .u8 0), (.int .i64 0)]) := ⟨by kernel_rfl⟩
instance fld_26_0 : FldOff prog 26 0 0 := ⟨fun b o w => by kernel_rfl⟩
instance fld_26_1 : FldOff prog 26 1 1 := ⟨fun b o w => by kernel_rfl⟩
instance fld_26_2 : FldOff prog 26 2 2 := ⟨fun b o w => by kernel_rfl⟩
instance fld_26_3 : FldOff prog 26 3 3 := ⟨fun b o w => by kernel_rfl⟩
instance fld_26_4 : FldOff prog 26 4 4 := ⟨fun b o w => by kernel_rfl⟩
instance aggC_27 : AggC prog 27 5 := ⟨fun w => by kernel_rfl, by kernel_rfl⟩
instance zeroC_27 : ZeroC prog 27 (.agg #[(.int .i64 0), (.int .i64 0), (.string ⟨#[]⟩), (.int .u8 0), (.int .i64 0)]) := ⟨by kernel_rfl⟩
instance fld_27_0 : FldOff prog 27 0 0 := ⟨fun b o w => by kernel_rfl⟩
instance fld_27_1 : FldOff prog 27 1 1 := ⟨fun b o w => by kernel_rfl⟩
instance fld_27_2 : FldOff prog 27 2 2 := ⟨fun b o w => by kernel_rfl⟩
instance fld_27_3 : FldOff prog 27 3 3 := ⟨fun b o w => by kernel_rfl⟩
instance fld_27_4 : FldOff prog 27 4 4 := ⟨fun b o w => by kernel_rfl⟩
instance aggC_28 : AggC prog 28 4 := ⟨fun w => by kernel_rfl, by kernel_rfl⟩
instance zeroC_28 : ZeroC prog 28 (.agg #[(.int .i64 0), (.int .i64 0), (.int .u8 0), (.int .i64 0)]) := ⟨by kernel_rfl⟩
instance fld_28_0 : FldOff prog 28 0 0 := ⟨fun b o w => by kernel_rfl⟩
instance fld_28_1 : FldOff prog 28 1 1 := ⟨fun b o w => by kernel_rfl⟩
instance fld_28_2 : FldOff prog 28 2 2 := ⟨fun b o w => by kernel_rfl⟩
instance fld_28_3 : FldOff prog 28 3 3 := ⟨fun b o w => by kernel_rfl⟩
instance aggC_29 : AggC prog 29 4 := ⟨fun w => by kernel_rfl, by kernel_rfl⟩
instance zeroC_29 : ZeroC prog 29 (.agg #[(.int .i64 0), (.int .i64 0), (.int .u8 0), (.int .i64 0)]) := ⟨by kernel_rfl⟩
instance fld_29_0 : FldOff prog 29 0 0 := ⟨fun b o w => by kernel_rfl⟩
instance fld_29_1 : FldOff prog 29 1 1 := ⟨fun b o w => by kernel_rfl⟩
instance fld_29_2 : FldOff prog 29 2 2 := ⟨fun b o w => by kernel_rfl⟩
instance fld_29_3 : FldOff prog 29 3 3 := ⟨fun b o w => by kernel_rfl⟩
instance oneC_30 : OneC prog 30 := ⟨fun w => by kernel_rfl, by kernel_rfl⟩
instance zeroC_30 : ZeroC prog 30 (.int .i64 0) := ⟨by kernel_rfl⟩
instance ul_30 : Ul prog 30 (.int .i64) := ⟨by kernel_rfl⟩
instance oneC_33 : OneC prog 33 := ⟨fun w => by kernel_rfl, by kernel_rfl⟩
instance zeroC_33 : ZeroC prog 33 (.slice none 0 0) := ⟨by kernel_rfl⟩
instance sliceT_33 : SliceT prog 33 27 5 48 (.agg #[(.int .i64 0), (.int .i64 0), (.string ⟨#[]⟩), (.int .u8 0), (.int .i64 0)]) := ⟨by kernel_rfl, by kernel_rfl, rfl, by decide⟩
instance ul_33 : Ul prog 33 (.slice 27) := ⟨by kernel_rfl⟩
instance oneC_37 : OneC prog 37 := ⟨fun w => by kernel_rfl, by kernel_rfl⟩
instance zeroC_37 : ZeroC prog 37 (.slice none 0 0) := ⟨by kernel_rfl⟩
instance sliceT_37 : SliceT prog 37 43 7 80 (.agg #[(.int .i64 0), (.int .i64 0), (.int .i64 0), (.int .i64 0), (.string ⟨#[]⟩), (.int .u8 0), (.slice none 0 0)]) := ⟨by kernel_rfl, by kernel_rfl, rfl, by decide⟩
instance ul_37 : Ul prog 37 (.slice 43) := ⟨by kernel_rfl⟩
instance oneC_38 : OneC prog 38 := ⟨fun w => by kernel_rfl, by kernel_rfl⟩
instance zeroC_38 : ZeroC prog 38 (.pointer none) := ⟨by kernel_rfl⟩
instance ul_38 : Ul prog 38 (.pointer 83) := ⟨by kernel_rfl⟩
instance oneC_41 : OneC prog 41 := ⟨fun w => by kernel_rfl, by kernel_rfl⟩
instance zeroC_41 : ZeroC prog 41 (.slice none 0 0) := ⟨by kernel_rfl⟩
instance sliceT_41 : SliceT prog 41 3 1 8 (.int .i64 0) := ⟨by kernel_rfl, by kernel_rfl, rfl, by decide⟩
instance ul_41 : Ul prog 41 (.slice 3) := ⟨by kernel_rfl⟩
instance aggC_42 : AggC prog 42 7 := ⟨fun w => by kernel_rfl, by kernel_rfl⟩
instance zeroC_42 : ZeroC prog 42 (.agg #[(.int .i64 0), (.int .i64 0), (.int .i64 0), (.int .i64 0), (.string ⟨#[]⟩), (.int .u8 0), (.slice none 0 0)]) := ⟨by kernel_rfl⟩
instance fld_42_0 : FldOff prog 42 0 0 := ⟨fun b o w => by kernel_rfl⟩
instance fld_42_1 : FldOff prog 42 1 1 := ⟨fun b o w => by kernel_rfl⟩
instance fld_42_2 : FldOff prog 42 2 2 := ⟨fun b o w => by kernel_rfl⟩
instance fld_42_3 : FldOff prog 42 3 3 := ⟨fun b o w => by kernel_rfl⟩
instance fld_42_4 : FldOff prog 42 4 4 := ⟨fun b o w => by kernel_rfl⟩
instance fld_42_5 : FldOff prog 42 5 5 := ⟨fun b o w => by kernel_rfl⟩
instance fld_42_6 : FldOff prog 42 6 6 := ⟨fun b o w => by kernel_rfl⟩
instance aggC_43 : AggC prog 43 7 := ⟨fun w => by kernel_rfl, by kernel_rfl⟩
instance zeroC_43 : ZeroC prog 43 (.agg #[(.int .i64 0), (.int .i64 0), (.int .i64 0), (.int .i64 0), (.string ⟨#[]⟩), (.int .u8 0), (.slice none 0 0)]) := ⟨by kernel_rfl⟩
instance fld_43_0 : FldOff prog 43 0 0 := ⟨fun b o w => by kernel_rfl⟩
instance fld_43_1 : FldOff prog 43 1 1 := ⟨fun b o w => by kernel_rfl⟩
instance fld_43_2 : FldOff prog 43 2 2 := ⟨fun b o w => by kernel_rfl⟩
instance fld_43_3 : FldOff prog 43 3 3 := ⟨fun b o w => by kernel_rfl⟩
instance fld_43_4 : FldOff prog 43 4 4 := ⟨fun b o w => by kernel_rfl⟩
instance fld_43_5 : FldOff prog 43 5 5 := ⟨fun b o w => by kernel_rfl⟩
instance fld_43_6 : FldOff prog 43 6 6 := ⟨fun b o w => by kernel_rfl⟩
instance oneC_49 : OneC prog 49 := ⟨fun w => by kernel_rfl, by kernel_rfl⟩
instance zeroC_49 : ZeroC prog 49 (.slice none 0 0) := ⟨by kernel_rfl⟩
instance sliceT_49 : SliceT prog 49 54 1 2 (.int .u16 0) := ⟨by kernel_rfl, by kernel_rfl, rfl, by decide⟩
instance ul_49 : Ul prog 49 (.slice 54) := ⟨by kernel_rfl⟩
instance oneC_50 : OneC prog 50 := ⟨fun w => by kernel_rfl, by kernel_rfl⟩
instance zeroC_50 : ZeroC prog 50 (.pointer none) := ⟨by kernel_rfl⟩
instance ul_50 : Ul prog 50 (.pointer 96) := ⟨by kernel_rfl⟩
instance aggC_52 : AggC prog 52 2 := ⟨fun w => by kernel_rfl, by kernel_rfl⟩
instance zeroC_52 : ZeroC prog 52 (.agg #[(.string ⟨#[]⟩), (.string ⟨#[]⟩)]) := ⟨by kernel_rfl⟩
instance fld_52_0 : FldOff prog 52 0 0 := ⟨fun b o w => by kernel_rfl⟩
instance fld_52_1 : FldOff prog 52 1 1 := ⟨fun b o w => by kernel_rfl⟩
instance aggC_53 : AggC prog 53 2 := ⟨fun w => by kernel_rfl, by kernel_rfl⟩
instance zeroC_53 : ZeroC prog 53 (.agg #[(.string ⟨#[]⟩), (.string ⟨#[]⟩)]) := ⟨by kernel_rfl⟩
instance fld_53_0 : FldOff prog 53 0 0 := ⟨fun b o w => by kernel_rfl⟩
instance fld_53_1 : FldOff prog 53 1 1 := ⟨fun b o w => by kernel_rfl⟩
instance oneC_54 : OneC prog 54 := ⟨fun w => by kernel_rfl, by kernel_rfl⟩
instance zeroC_54 : ZeroC prog 54 (.int .u16 0) := ⟨by kernel_rfl⟩
instance ul_54 : Ul prog 54 (.int .u16) := ⟨by kernel_rfl⟩
instance aggC_58 : AggC prog 58 5 := ⟨fun w => by kernel_rfl, by kernel_rfl⟩
instance zeroC_58 : ZeroC prog 58 (.agg #[(.int .i64 0), (.string ⟨#[]⟩), (.string ⟨#[]⟩), (.int .i64 0), (.int .i64 0)]) := ⟨by kernel_rfl⟩
instance fld_58_0 : FldOff prog 58 0 0 := ⟨fun b o w => by kernel_rfl⟩
instance fld_58_1 : FldOff prog 58 1 1 := ⟨fun b o w => by kernel_rfl⟩
instance fld_58_2 : FldOff prog 58 2 3 := ⟨fun b o w => by kernel_rfl⟩
instance fld_58_3 : FldOff prog 58 3 4 := ⟨fun b o w => by kernel_rfl⟩
instance aggC_59 : AggC prog 59 5 := ⟨fun w => by kernel_rfl, by kernel_rfl⟩
instance zeroC_59 : ZeroC prog 59 (.agg #[(.int .i64 0), (.string ⟨#[]⟩), (.string ⟨#[]⟩), (.int .i64 0), (.int .i64 0)]) := ⟨by kernel_rfl⟩
instance fld_59_0 : FldOff prog 59 0 0 := ⟨fun b o w => by kernel_rfl⟩
instance fld_59_1 : FldOff prog 59 1 1 := ⟨fun b o w => by kernel_rfl⟩
instance fld_59_2 : FldOff prog 59 2 3 := ⟨fun b o w => by kernel_rfl⟩
instance fld_59_3 : FldOff prog 59 3 4 := ⟨fun b o w => by kernel_rfl⟩
instance oneC_62 : OneC prog 62 := ⟨fun w => by kernel_rfl, by kernel_rfl⟩
instance zeroC_62 : ZeroC prog 62 (.slice none 0 0) := ⟨by kernel_rfl⟩
instance sliceT_62 : SliceT prog 62 59 5 56 (.agg #[(.int .i64 0), (.string ⟨#[]⟩), (.string ⟨#[]⟩), (.int .i64 0), (.int .i64 0)]) := ⟨by kernel_rfl, by kernel_rfl, rfl, by decide⟩
instance ul_62 : Ul prog 62 (.slice 59) := ⟨by kernel_rfl⟩
instance oneC_67 : OneC prog 67 := ⟨fun w => by kernel_rfl, by kernel_rfl⟩
instance zeroC_67 : ZeroC prog 67 (.map none) := ⟨by kernel_rfl⟩
instance ul_67 : Ul prog 67 (.map 3 27) := ⟨by kernel_rfl⟩
instance aggC_68 : AggC prog 68 2 := ⟨fun w => by kernel_rfl, by kernel_rfl⟩
instance zeroC_68 : ZeroC prog 68 (.agg #[(.int .i64 0), (.map none)]) := ⟨by kernel_rfl⟩
instance fld_68_0 : FldOff prog 68 0 0 := ⟨fun b o w => by kernel_rfl⟩
instance fld_68_1 : FldOff prog 68 1 1 := ⟨fun b o w => by kernel_rfl⟩
instance aggC_69 : AggC prog 69 2 := ⟨fun w => by kernel_rfl, by kernel_rfl⟩
instance zeroC_69 : ZeroC prog 69 (.agg #[(.int .i64 0), (.map none)]) := ⟨by kernel_rfl⟩
instance fld_69_0 : FldOff prog 69 0 0 := ⟨fun b o w => by kernel_rfl⟩
instance fld_69_1 : FldOff prog 69 1 1 := ⟨fun b o w => by kernel_rfl⟩
instance oneC_70 : OneC prog 70 := ⟨fun w => by kernel_rfl, by kernel_rfl⟩
instance zeroC_70 : ZeroC prog 70 (.map none) := ⟨by kernel_rfl⟩
instance ul_70 : Ul prog 70 (.map 3 29) := ⟨by kernel_rfl⟩
instance aggC_71 : AggC prog 71 2 := ⟨fun w => by kernel_rfl, by kernel_rfl⟩
instance zeroC_71 : ZeroC prog 71 (.agg #[(.int .i64 0), (.map none)]) := ⟨by kernel_rfl⟩
instance fld_71_0 : FldOff prog 71 0 0 := ⟨fun b o w => by kernel_rfl⟩
instance fld_71_1 : FldOff prog 71 1 1 := ⟨fun b o w => by kernel_rfl⟩
instance aggC_72 : AggC prog 72 2 := ⟨fun w => by kernel_rfl, by kernel_rfl⟩
instance zeroC_72 : ZeroC prog 72 (.agg #[(.int .i64 0), (.map none)]) := ⟨by kernel_rfl⟩
instance fld_72_0 : FldOff prog 72 0 0 := ⟨fun b o w => by kernel_rfl⟩
instance fld_72_1 : FldOff prog 72 1 1 := ⟨fun b o w => by kernel_rfl⟩
instance aggC_73 : AggC prog 73 5 := ⟨fun w => by kernel_rfl, by kernel_rfl⟩
instance zeroC_73 : ZeroC prog 73 (.agg #[(.int .i64 0), (.map none), (.int .i64 0), (.map none), (.int .i64 0)]) := ⟨by kernel_rfl⟩
instance fld_73_0 : FldOff prog 73 0 0 := ⟨fun b o w => by kernel_rfl⟩
instance fld_73_1 : FldOff prog 73 1 2 := ⟨fun b o w => by kernel_rfl⟩
instance fld_73_2 : FldOff prog 73 2 4 := ⟨fun b o w => by kernel_rfl⟩
instance aggC_74 : AggC prog 74 5 := ⟨fun w => by kernel_rfl, by kernel_rfl⟩
instance zeroC_74 : ZeroC prog 74 (.agg #[(.int .i64 0), (.map none), (.int .i64 0), (.map none), (.int .i64 0)]) := ⟨by kernel_rfl⟩
instance fld_74_0 : FldOff prog 74 0 0 := ⟨fun b o w => by kernel_rfl⟩
instance fld_74_1 : FldOff prog 74 1 2 := ⟨fun b o w => by kernel_rfl⟩
instance fld_74_2 : FldOff prog 74 2 4 := ⟨fun b o w => by kernel_rfl⟩
instance oneC_81 : OneC prog 81 := ⟨fun w => by kernel_rfl, by kernel_rfl⟩
instance zeroC_81 : ZeroC prog 81 (.slice none 0 0) := ⟨by kernel_rfl⟩
instance sliceT_81 : SliceT prog 81 29 4 32 (.agg #[(.int .i64 0), (.int .i64 0), (.int .u8 0), (.int .i64 0)]) := ⟨by kernel_rfl, by kernel_rfl, rfl, by decide⟩
instance ul_81 : Ul prog 81 (.slice 29) := ⟨by kernel_rfl⟩
instance aggC_82 : AggC prog 82 5 := ⟨fun w => by kernel_rfl, by kernel_rfl⟩
instance zeroC_82 : ZeroC prog 82 (.agg #[(.int .i64 0), (.int .i64 0), (.int .i64 0), (.slice none 0 0), (.slice none 0 0)]) := ⟨by kernel_rfl⟩
instance fld_82_0 : FldOff prog 82 0 0 := ⟨fun b o w => by kernel_rfl⟩
instance fld_82_1 : FldOff prog 82 1 1 := ⟨fun b o w => by kernel_rfl⟩
instance fld_82_2 : FldOff prog 82 2 2 := ⟨fun b o w => by kernel_rfl⟩
instance fld_82_3 : FldOff prog 82 3 3 := ⟨fun b o w => by kernel_rfl⟩
instance fld_82_4 : FldOff prog 82 4 4 := ⟨fun b o w => by kernel_rfl⟩
instance aggC_83 : AggC prog 83 5 := ⟨fun w => by kernel_rfl, by kernel_rfl⟩
instance zeroC_83 : ZeroC prog 83 (.agg #[(.int .i64 0), (.int .i64 0), (.int .i64 0), (.slice none 0 0), (.slice none 0 0)]) := ⟨by kernel_rfl⟩
instance fld_83_0 : FldOff prog 83 0 0 := ⟨fun b o w => by kernel_rfl⟩
instance fld_83_1 : FldOff prog 83 1 1 := ⟨fun b o w => by kernel_rfl⟩
instance fld_83_2 : FldOff prog 83 2 2 := ⟨fun b o w => by kernel_rfl⟩
instance fld_83_3 : FldOff prog 83 3 3 := ⟨fun b o w => by kernel_rfl⟩
instance fld_83_4 : FldOff prog 83 4 4 := ⟨fun b o w => by kernel_rfl⟩
instance oneC_92 : OneC prog 92 := ⟨fun w => by kernel_rfl, by kernel_rfl⟩
instance zeroC_92 : ZeroC prog 92 (.map none) := ⟨by kernel_rfl⟩
instance ul_92 : Ul prog 92 (.map 3 59) := ⟨by kernel_rfl⟩
instance aggC_93 : AggC prog 93 1 := ⟨fun w => by kernel_rfl, by kernel_rfl⟩
instance zeroC_93 : ZeroC prog 93 (.agg #[(.int .i64 0)]) := ⟨by kernel_rfl⟩
instance fld_93_0 : FldOff prog 93 0 0 := ⟨fun b o w => by kernel_rfl⟩
instance aggC_94 : AggC prog 94 1 := ⟨fun w => by kernel_rfl, by kernel_rfl⟩
instance zeroC_94 : ZeroC prog 94 (.agg #[(.int .i64 0)]) := ⟨by kernel_rfl⟩
instance fld_94_0 : FldOff prog 94 0 0 := ⟨fun b o w => by kernel_rfl⟩
instance aggC_95 : AggC prog 95 3 := ⟨fun w => by kernel_rfl, by kernel_rfl⟩
instance zeroC_95 : ZeroC prog 95 (.agg #[(.int .i64 0), (.int .i64 0), (.map none)]) := ⟨by kernel_rfl⟩
instance fld_95_0 : FldOff prog 95 0 0 := ⟨fun b o w => by kernel_rfl⟩
instance fld_95_1 : FldOff prog 95 1 1 := ⟨fun b o w => by kernel_rfl⟩
instance fld_95_2 : FldOff prog 95 2 2 := ⟨fun b o w => by kernel_rfl⟩
instance aggC_96 : AggC prog 96 3 := ⟨fun w => by kernel_rfl, by kernel_rfl⟩
instance zeroC_96 : ZeroC prog 96 (.agg #[(.int .i64 0), (.int .i64 0), (.map none)]) := ⟨by kernel_rfl⟩
instance fld_96_0 : FldOff prog 96 0 0 := ⟨fun b o w => by kernel_rfl⟩
instance fld_96_1 : FldOff prog 96 1 1 := ⟨fun b o w => by kernel_rfl⟩
instance fld_96_2 : FldOff prog 96 2 2 := ⟨fun b o w => by kernel_rfl⟩
instance aggC_118 : AggC prog 118 256 := ⟨fun w => by kernel_rfl, by kernel_rfl⟩
instance zeroC_118 : ZeroC prog 118 (.agg #[(.bool false), (.bool false), (.bool false), (.bool false), (.bool false), (.bool false), (.bool false), (.bool false), (.bool false), (.bool false), (.bool false), (.bool false), (.bool false), (.bool false), (.bool false), (.bool false), (.bool false), (.bool false), (.bool false), (.bool false), (.bool false), (.bool false), (.bool false), (.bool false), (.bool false), (.bool false), (.bool false), (.bool false), (.bool false), (.bool false), (.bool false), (.bool false), (.bool false), (.bool false), (.bool false), (.bool false), (.bool false), (.bool false), (.bool false), (.bool false), (.bool false), (.bool false), (.bool false), (.bool false), (.bool false), (.bool false), (.bool false), (.bool false), (.bool false), (.bool false), (.bool false), (.bool false), (.bool false), (.bool false), (.bool false), (.bool false), (.bool false), (.bool false), (.bool false), (.bool false), (.bool false), (.bool false), (.bool false), (.bool false), (.bool false), (.bool false), (.bool false), (.bool false), (.bool false), (.bool false), (.bool false), (.bool false), (.bool false), (.bool false), (.bool false), (.bool false), (.bool false), (.bool false), (.bool false), (.bool false), (.bool false), (.bool false), (.bool false), (.bool false), (.bool false), (.bool false), (.bool false), (.bool false), (.bool false), (.bool false), (.bool false), (.bool false), (.bool false), (.bool false), (.bool false), (.bool false), (.bool false), (.bool false), (.bool false), (.bool false), (.bool false), (.bool false), (.bool false), (.bool false), (.bool false), (.bool false), (.bool false), (.bool false), (.bool false), (.bool false), (.bool false), (.bool false), (.bool false), (.bool false), (.bool false), (.bool false), (.bool false), (.bool false), (.bool false), (.bool false), (.bool false), (.bool false), (.bool false), (.bool false), (.bool false), (.bool false), (.bool false), (.bool false), (.bool false), (.bool false), (.bool false), (.bool false), (.bool false), (.bool false), (.bool false), (.bool false), (.bool false), (.bool false), (.bool false), (.bool false), (.bool false), (.bool false), (.bool false), (.bool false), (.bool false), (.bool false), (.bool false), (.bool false), (.bool false), (.bool false), (.bool false), (.bool false), (.bool false), (.bool false), (.bool false), (.bool false), (.bool false), (.bool false), (.bool false), (.bool false), (.bool false), (.bool false), (.bool false), (.bool false), (.bool false), (.bool false), (.bool false), (.bool false), (.bool false), (.bool false), (.bool false), (.bool false), (.bool false), (.bool false), (.bool false), (.bool false), (.bool false), (.bool false), (.bool false), (.bool false), (.bool false), (.bool false), (.bool false), (.bool false), (.bool false), (.bool false), (.bool false), (.bool false), (.bool false), (.bool false), (.bool false), (.bool false), (.bool false), (.bool false), (.bool false), (.bool false), (.bool false), (.bool false), (.bool false), (.bool false), (.bool false), (.bool false), (.bool false), (.bool false), (.bool false), (.bool false), (.bool false), (.bool false), (.bool false), (.bool false), (.bool false), (.bool false), (.bool false), (.bool false), (.bool false), (.bool false), (.bool false), (.bool false), (.bool false), (.bool false), (.bool false), (.bool false), (.bool false), (.bool false), (.bool false), (.bool false), (.bool false), (.bool false), (.bool false), (.bool false), (.bool false), (.bool false), (.bool false), (.bool false), (.bool false), (.bool false), (.bool false), (.bool false), (.bool false), (.bool false), (.bool false), (.bool false), (.bool false), (.bool false), (.bool false), (.bool false), (.bool false), (.bool false), (.bool false), (.bool false), (.bool false), (.bool false), (.bool false), (.bool false), (.bool false), (.bool false)]) := ⟨by kernel_rfl⟩
instance ul_118 : Ul prog 118 (.array 256 4) := ⟨by kernel_rfl⟩
instance aggC_119 : AggC prog 119 256 := ⟨fun w => by kernel_rfl, by kernel_rfl⟩
instance zeroC_119 : ZeroC prog 119 (.agg #[(.bool false), (.bool false), (.bool false), (.bool false), (.bool false), (.bool false), (.bool false), (.bool false), (.bool false), (.bool false), (.bool false), (.bool false), (.bool false), (.bool false), (.bool false), (.bool false), (.bool false), (.bool false), (.bool false), (.bool false), (.bool false), (.bool false), (.bool false), (.bool false), (.bool false), (.bool false), (.bool false), (.bool false), (.bool false), (.bool false), (.bool false), (.bool false), (.bool false), (.bool false), (.bool false), (.bool false), (.bool false), (.bool false), (.bool false), (.bool false), (.bool false), (.bool false), (.bool false), (.bool false), (.bool false), (.bool false), (.bool false), (.bool false), (.bool false), (.bool false), (.bool false), (.bool false), (.bool false), (.bool false), (.bool false), (.bool false), (.bool false), (.bool false), (.bool false), (.bool false), (.bool false), (.bool false), (.bool false), (.bool false), (.bool false), (.bool false), (.bool false), (.bool false), (.bool false), (.bool false), (.bool false), (.bool false), (.bool false), (.bool false), (.bool false), (.bool false), (.bool false), (.bool false), (.bool false), (.bool false), (.bool false), (.bool false), (.bool false), (.bool false), (.bool false), (.bool false), (.bool false), (.bool false), (.bool false), (.bool false), (.bool false), (.bool false), (.bool false), (.bool false), (.bool false), (.bool false), (.bool false), (.bool false), (.bool false), (.bool false), (.bool false), (.bool false), (.bool false), (.bool false), (.bool false), (.bool false), (.bool false), (.bool false), (.bool false), (.bool false), (.bool false), (.bool false), (.bool false), (.bool false), (.bool false), (.bool false), (.bool false), (.bool false), (.bool false), (.bool false), (.bool false), (.bool false), (.bool false), (.bool false), (.bool false), (.bool false), (.bool false), (.bool false), (.bool false), (.bool false), (.bool false), (.bool false), (.bool false), (.bool false), (.bool false), (.bool false), (.bool false), (.bool false), (.bool false), (.bool false), (.bool false), (.bool false), (.bool false), (.bool false), (.bool false), (.bool false), (.bool false), (.bool false), (.bool false), (.bool false), (.bool false), (.bool false), (.bool false), (.bool false), (.bool false), (.bool false), (.bool false), (.bool false), (.bool false), (.bool false), (.bool false), (.bool false), (.bool false), (.bool false), (.bool false), (.bool false), (.bool false), (.bool false), (.bool false), (.bool false), (.bool false), (.bool false), (.bool false), (.bool false), (.bool false), (.bool false), (.bool false), (.bool false), (.bool false), (.bool false), (.bool false), (.bool false), (.bool false), (.bool false), (.bool false), (.bool false), (.bool false), (.bool false), (.bool false), (.bool false), (.bool false), (.bool false), (.bool false), (.bool false), (.bool false), (.bool false), (.bool false), (.bool false), (.bool false), (.bool false), (.bool false), (.bool false), (.bool false), (.bool false), (.bool false), (.bool false), (.bool false), (.bool false), (.bool false), (.bool false), (.bool false), (.bool false), (.bool false), (.bool false), (.bool false), (.bool false), (.bool false), (.bool false), (.bool false), (.bool false), (.bool false), (.bool false), (.bool false), (.bool false), (.bool false), (.bool false), (.bool false), (.bool false), (.bool false), (.bool false), (.bool false), (.bool false), (.bool false), (.bool false), (.bool false), (.bool false), (.bool false), (.bool false), (.bool false), (.bool false), (.bool false), (.bool false), (.bool false), (.bool false), (.bool false), (.bool false), (.bool false), (.bool false), (.bool false), (.bool false), (.bool false), (.bool false), (.bool false), (.bool false), (.bool false), (.bool false)]) := ⟨by kernel_rfl⟩
instance ul_119 : Ul prog 119 (.array 256 4) := ⟨by kernel_rfl⟩
instance oneC_123 : OneC prog 123 := ⟨fun w => by kernel_rfl, by kernel_rfl⟩
instance zeroC_123 : ZeroC prog 123 (.pointer none) := ⟨by kernel_rfl⟩
instance ul_123 : Ul prog 123 (.pointer 119) := ⟨by kernel_rfl⟩
instance oneC_133 : OneC prog 133 := ⟨fun w => by kernel_rfl, by kernel_rfl⟩
instance zeroC_133 : ZeroC prog 133 (.int .u64 0) := ⟨by kernel_rfl⟩
instance ul_133 : Ul prog 133 (.int .u64) := ⟨by kernel_rfl⟩
instance oneC_136 : OneC prog 136 := ⟨fun w => by kernel_rfl, by kernel_rfl⟩
instance zeroC_136 : ZeroC prog 136 (.int .i64 0) := ⟨by kernel_rfl⟩
instance ul_136 : Ul prog 136 (.int .i64) := ⟨by kernel_rfl⟩
instance oneC_145 : OneC prog 145 := ⟨fun w => by kernel_rfl, by kernel_rfl⟩
instance zeroC_145 : ZeroC prog 145 (.int .u32 0) := ⟨by kernel_rfl⟩
instance ul_145 : Ul prog 145 (.int .u32) := ⟨by kernel_rfl⟩
instance oneC_147 : OneC prog 147 := ⟨fun w => by kernel_rfl, by kernel_rfl⟩
instance zeroC_147 : ZeroC prog 147 (.int .u64 0) := ⟨by kernel_rfl⟩
instance ul_147 : Ul prog 147 (.int .u64) := ⟨by kernel_rfl⟩
instance aggC_148 : AggC prog 148 256 := ⟨fun w => by kernel_rfl, by kernel_rfl⟩
instance zeroC_148 : ZeroC prog 148 (.agg #[(.int .u8 0), (.int .u8 0), (.int .u8 0), (.int .u8 0), (.int .u8 0), (.int .u8 0), (.int .u8 0), (.int .u8 0), (.int .u8 0), (.int .u8 0), (.int .u8 0), (.int .u8 0), (.int .u8 0), (.int .u8 0), (.int .u8 0), (.int .u8 0), (.int .u8 0), (.int .u8 0), (.int .u8 0), (.int .u8 0), (.int .u8 0), (.int .u8 0), (.int .u8 0), (.int .u8 0), (.int .u8 0), (.int .u8 0), (.int .u8 0), (.int .u8 0), (.int .u8 0), (.int .u8 0), (.int .u8 0), (.int .u8 0), (.int .u8 0), (.int .u8 0), (.int .u8 0), (.int .u8 0), (.int .u8 0), (.int .u8 0), (.int .u8 0), (.int .u8 0), (.int .u8 0), (.int .u8 0), (.int .u8 0), (.int .u8 0), (.int .u8 0), (.int .u8 0), (.int .u8 0), (.int .u8 0), (.int .u8 0), (.int .u8 0), (.int .u8 0), (.int .u8 0), (.int .u8 0), (.int .u8 0), (.int .u8 0), (.int .u8 0), (.int .u8 0), (.int .u8 0), (.int .u8 0), (.int .u8 0), (.int .u8 0), (.int .u8 0), (.int .u8 0), (.int .u8 0), (.int .u8 0), (.int .u8 0), (.int .u8 0), (.int .u8 0), (.int .u8 0), (.int .u8 0), (.int .u8 0), (.int .u8 0), (.int .u8 0), (.int .u8 0), (.int .u8 0), (.int .u8 0), (.int .u8 0), (.int .u8 0), (.int .u8 0), (.int .u8 0), (.int .u8 0), (.int .u8 0), (.int .u8 0), (.int .u8 0), (.int .u8 0), (.int .u8 0), (.int .u8 0), (.int .u8 0), (.int .u8 0), (.int .u8 0), (.int .u8 0), (.int .u8 0), (.int .u8 0), (.int .u8 0), (.int .u8 0), (.int .u8 0), (.int .u8 0), (.int .u8 0), (.int .u8 0), (.int .u8 0), (.int .u8 0), (.int .u8 0), (.int .u8 0), (.int .u8 0), (.int .u8 0), (.int .u8 0), (.int .u8 0), (.int .u8 0), (.int .u8 0), (.int .u8 0), (.int .u8 0), (.int .u8 0), (.int .u8 0), (.int .u8 0), (.int .u8 0), (.int .u8 0), (.int .u8 0), (.int .u8 0), (.int .u8 0), (.int .u8 0), (.int .u8 0), (.int .u8 0), (.int .u8 0), (.int .u8 0), (.int .u8 0), (.int .u8 0), (.int .u8 0), (.int .u8 0), (.int .u8 0), (.int .u8 0), (.int .u8 0), (.int .u8 0), (.int .u8 0), (.int .u8 0), (.int .u8 0), (.int .u8 0), (.int .u8 0), (.int .u8 0), (.int .u8 0), (.int .u8 0), (.int .u8 0), (.int .u8 0), (.int .u8 0), (.int .u8 0), (.int .u8 0), (.int .u8 0), (.int .u8 0), (.int .u8 0), (.int .u8 0), (.int .u8 0), (.int .u8 0), (.int .u8 0), (.int .u8 0), (.int .u8 0), (.int .u8 0), (.int .u8 0), (.int .u8 0), (.int .u8 0), (.int .u8 0), (.int .u8 0), (.int .u8 0), (.int .u8 0), (.int .u8 0), (.int .u8 0), (.int .u8 0), (.int .u8 0), (.int .u8 0), (.int .u8 0), (.int .u8 0), (.int .u8 0), (.int .u8 0), (.int .u8 0), (.int .u8 0), (.int .u8 0), (.int .u8 0), (.int .u8 0), (.int .u8 0), (.int .u8 0), (.int .u8 0), (.int .u8 0), (.int .u8 0), (.int .u8 0), (.int .u8 0), (.int .u8 0), (.int .u8 0), (.int .u8 0), (.int .u8 0), (.int .u8 0), (.int .u8 0), (.int .u8 0), (.int .u8 0), (.int .u8 0), (.int .u8 0), (.int .u8 0), (.int .u8 0), (.int .u8 0), (.int .u8 0), (.int .u8 0), (.int .u8 0), (.int .u8 0), (.int .u8 0), (.int .u8 0), (.int .u8 0), (.int .u8 0), (.int .u8 0), (.int .u8 0), (.int .u8 0), (.int .u8 0), (.int .u8 0), (.int .u8 0), (.int .u8 0), (.int .u8 0), (.int .u8 0), (.int .u8 0), (.int .u8 0), (.int .u8 0), (.int .u8 0), (.int .u8 0), (.int .u8 0), (.int .u8 0), (.int .u8 0), (.int .u8 0), (.int .u8 0), (.int .u8 0), (.int .u8 0), (.int .u8 0), (.int .u8 0), (.int .u8 0), (.int .u8 0), (.int .u8 0), (.int .u8 0), (.int .u8 0), (.int .u8 0), (.int .u8 0), (.int .u8 0), (.int .u8 0), (.int .u8 0), (.int .u8 0), (.int .u8 0), (.int .u8 0), (.int .u8 0), (.int .u8 0), (.int .u8 0), (.int .u8 0), (.int .u8 0), (.int .u8 0), (.int .u8 0), (.int .u8 0), (.int .u8 0), (.int .u8 0), (.int .u8 0), (.int .u8 0), (.int .u8 0), (.int .u8 0), (.int .u8 0), (.int .u8 0)]) := ⟨by kernel_rfl⟩
instance ul_148 : Ul prog 148 (.array 256 5) := ⟨by kernel_rfl⟩
instance aggC_149 : AggC prog 149 2 := ⟨fun w => by kernel_rfl, by kernel_rfl⟩
instance zeroC_149 : ZeroC prog 149 (.agg #[(.int .u8 0), (.int .u8 0)]) := ⟨by kernel_rfl⟩
instance fld_149_0 : FldOff prog 149 0 0 := ⟨fun b o w => by kernel_rfl⟩
instance fld_149_1 : FldOff prog 149 1 1 := ⟨fun b o w => by kernel_rfl⟩
instance aggC_150 : AggC prog 150 2 := ⟨fun w => by kernel_rfl, by kernel_rfl⟩
instance zeroC_150 : ZeroC prog 150 (.agg #[(.int .u8 0), (.int .u8 0)]) := ⟨by kernel_rfl⟩
instance fld_150_0 : FldOff prog 150 0 0 := ⟨fun b o w => by kernel_rfl⟩
instance fld_150_1 : FldOff prog 150 1 1 := ⟨fun b o w => by kernel_rfl⟩
instance aggC_151 : AggC prog 151 32 := ⟨fun w => by kernel_rfl, by kernel_rfl⟩
instance zeroC_151 : ZeroC prog 151 (.agg #[(.int .u8 0), (.int .u8 0), (.int .u8 0), (.int .u8 0), (.int .u8 0), (.int .u8 0), (.int .u8 0), (.int .u8 0), (.int .u8 0), (.int .u8 0), (.int .u8 0), (.int .u8 0), (.int .u8 0), (.int .u8 0), (.int .u8 0), (.int .u8 0), (.int .u8 0), (.int .u8 0), (.int .u8 0), (.int .u8 0), (.int .u8 0), (.int .u8 0), (.int .u8 0), (.int .u8 0), (.int .u8 0), (.int .u8 0), (.int .u8 0), (.int .u8 0), (.int .u8 0), (.int .u8 0), (.int .u8 0), (.int .u8 0)]) := ⟨by kernel_rfl⟩
instance ul_151 : Ul prog 151 (.array 16 150) := ⟨by kernel_rfl⟩
instance oneC_156 : OneC prog 156 := ⟨fun w => by kernel_rfl, by kernel_rfl⟩
instance zeroC_156 : ZeroC prog 156 (.int .u64 0) := ⟨by kernel_rfl⟩
instance ul_156 : Ul prog 156 (.int .u64) := ⟨by kernel_rfl⟩
instance oneC_160 : OneC prog 160 := ⟨fun w => by kernel_rfl, by kernel_rfl⟩
instance zeroC_160 : ZeroC prog 160 (.pointer none) := ⟨by kernel_rfl⟩
instance ul_160 : Ul prog 160 (.pointer 3) := ⟨by kernel_rfl⟩
instance oneC_162 : OneC prog 162 := ⟨fun w => by kernel_rfl, by kernel_rfl⟩
instance zeroC_162 : ZeroC prog 162 (.pointer none) := ⟨by kernel_rfl⟩
instance ul_162 : Ul prog 162 (.pointer 156) := ⟨by kernel_rfl⟩
instance aggC_166 : AggC prog 166 4 := ⟨fun w => by kernel_rfl, by kernel_rfl⟩
instance zeroC_166 : ZeroC prog 166 (.agg #[(.pointer none), (.pointer none), (.pointer none), (.string ⟨#[]⟩)]) := ⟨by kernel_rfl⟩
instance fld_166_0 : FldOff prog 166 0 0 := ⟨fun b o w => by kernel_rfl⟩
instance fld_166_1 : FldOff prog 166 1 1 := ⟨fun b o w => by kernel_rfl⟩
instance fld_166_2 : FldOff prog 166 2 2 := ⟨fun b o w => by kernel_rfl⟩
instance fld_166_3 : FldOff prog 166 3 3 := ⟨fun b o w => by kernel_rfl⟩
instance aggC_167 : AggC prog 167 4 := ⟨fun w => by kernel_rfl, by kernel_rfl⟩
instance zeroC_167 : ZeroC prog 167 (.agg #[(.pointer none), (.pointer none), (.pointer none), (.string ⟨#[]⟩)]) := ⟨by kernel_rfl⟩
instance fld_167_0 : FldOff prog 167 0 0 := ⟨fun b o w => by kernel_rfl⟩
instance fld_167_1 : FldOff prog 167 1 1 := ⟨fun b o w => by kernel_rfl⟩
instance fld_167_2 : FldOff prog 167 2 2 := ⟨fun b o w => by kernel_rfl⟩
instance fld_167_3 : FldOff prog 167 3 3 := ⟨fun b o w => by kernel_rfl⟩
instance aggC_168 : AggC prog 168 0 := ⟨fun w => by kernel_rfl, by kernel_rfl⟩
instance zeroC_168 : ZeroC prog 168 (.agg #[]) := ⟨by kernel_rfl⟩
instance ul_168 : Ul prog 168 (.array 0 16) := ⟨by kernel_rfl⟩
instance aggC_169 : AggC prog 169 0 := ⟨fun w => by kernel_rfl, by kernel_rfl⟩
instance zeroC_169 : ZeroC prog 169 (.agg #[]) := ⟨by kernel_rfl⟩
instance aggC_170 : AggC prog 170 0 := ⟨fun w => by kernel_rfl, by kernel_rfl⟩
instance zeroC_170 : ZeroC prog 170 (.agg #[]) := ⟨by kernel_rfl⟩
instance oneC_172 : OneC prog 172 := ⟨fun w => by kernel_rfl, by kernel_rfl⟩
instance zeroC_172 : ZeroC prog 172 (.int .u8 0) := ⟨by kernel_rfl⟩
instance ul_172 : Ul prog 172 (.int .u8) := ⟨by kernel_rfl⟩
instance oneC_173 : OneC prog 173 := ⟨fun w => by kernel_rfl, by kernel_rfl⟩
instance zeroC_173 : ZeroC prog 173 (.int .u8 0) := ⟨by kernel_rfl⟩
instance ul_173 : Ul prog 173 (.int .u8) := ⟨by kernel_rfl⟩
instance oneC_175 : OneC prog 175 := ⟨fun w => by kernel_rfl, by kernel_rfl⟩
instance zeroC_175 : ZeroC prog 175 (.pointer none) := ⟨by kernel_rfl⟩
instance ul_175 : Ul prog 175 (.pointer 5) := ⟨by kernel_rfl⟩
instance oneC_176 : OneC prog 176 := ⟨fun w => by kernel_rfl, by kernel_rfl⟩
instance zeroC_176 : ZeroC prog 176 (.int .i32 0) := ⟨by kernel_rfl⟩
instance ul_176 : Ul prog 176 (.int .i32) := ⟨by kernel_rfl⟩
instance oneC_177 : OneC prog 177 := ⟨fun w => by kernel_rfl, by kernel_rfl⟩
instance zeroC_177 : ZeroC prog 177 (.int .i32 0) := ⟨by kernel_rfl⟩
instance ul_177 : Ul prog 177 (.int .i32) := ⟨by kernel_rfl⟩
instance aggC_178 : AggC prog 178 11 := ⟨fun w => by kernel_rfl, by kernel_rfl⟩
instance zeroC_178 : ZeroC prog 178 (.agg #[(.int .u64 0), (.int .u64 0), (.int .u32 0), (.int .u8 0), (.int .u8 0), (.int .u8 0), (.int .u8 0), .nilFunc, (.pointer none), (.int .i32 0), (.int .i32 0)]) := ⟨by kernel_rfl⟩
instance fld_178_0 : FldOff prog 178 0 0 := ⟨fun b o w => by kernel_rfl⟩
instance fld_178_1 : FldOff prog 178 1 1 := ⟨fun b o w => by kernel_rfl⟩
instance fld_178_2 : FldOff prog 178 2 2 := ⟨fun b o w => by kernel_rfl⟩
instance fld_178_3 : FldOff prog 178 3 3 := ⟨fun b o w => by kernel_rfl⟩
instance fld_178_4 : FldOff prog 178 4 4 := ⟨fun b o w => by kernel_rfl⟩
instance fld_178_5 : FldOff prog 178 5 5 := ⟨fun b o w => by kernel_rfl⟩
instance fld_178_6 : FldOff prog 178 6 6 := ⟨fun b o w => by kernel_rfl⟩
instance fld_178_7 : FldOff prog 178 7 7 := ⟨fun b o w => by kernel_rfl⟩
instance fld_178_8 : FldOff prog 178 8 8 := ⟨fun b o w => by kernel_rfl⟩
instance fld_178_9 : FldOff prog 178 9 9 := ⟨fun b o w => by kernel_rfl⟩
instance fld_178_10 : FldOff prog 178 10 10 := ⟨fun b o w => by kernel_rfl⟩
instance aggC_179 : AggC prog 179 11 := ⟨fun w => by kernel_rfl, by kernel_rfl⟩
instance zeroC_179 : ZeroC prog 179 (.agg #[(.int .u64 0), (.int .u64 0), (.int .u32 0), (.int .u8 0), (.int .u8 0), (.int .u8 0), (.int .u8 0), .nilFunc, (.pointer none), (.int .i32 0), (.int .i32 0)]) := ⟨by kernel_rfl⟩
instance fld_179_0 : FldOff prog 179 0 0 := ⟨fun b o w => by kernel_rfl⟩
instance fld_179_1 : FldOff prog 179 1 1 := ⟨fun b o w => by kernel_rfl⟩
instance fld_179_2 : FldOff prog 179 2 2 := ⟨fun b o w => by kernel_rfl⟩
instance fld_179_3 : FldOff prog 179 3 3 := ⟨fun b o w => by kernel_rfl⟩
instance fld_179_4 : FldOff prog 179 4 4 := ⟨fun b o w => by kernel_rfl⟩
instance fld_179_5 : FldOff prog 179 5 5 := ⟨fun b o w => by kernel_rfl⟩
instance fld_179_6 : FldOff prog 179 6 6 := ⟨fun b o w => by kernel_rfl⟩
instance fld_179_7 : FldOff prog 179 7 7 := ⟨fun b o w => by kernel_rfl⟩
instance fld_179_8 : FldOff prog 179 8 8 := ⟨fun b o w => by kernel_rfl⟩
instance fld_179_9 : FldOff prog 179 9 9 := ⟨fun b o w => by kernel_rfl⟩
instance fld_179_10 : FldOff prog 179 10 10 := ⟨fun b o w => by kernel_rfl⟩
instance oneC_180 : OneC prog 180 := ⟨fun w => by kernel_rfl, by kernel_rfl⟩
instance zeroC_180 : ZeroC prog 180 (.pointer none) := ⟨by kernel_rfl⟩

end Go.Proofs.YtbcimkjgpplcpaaDoor
