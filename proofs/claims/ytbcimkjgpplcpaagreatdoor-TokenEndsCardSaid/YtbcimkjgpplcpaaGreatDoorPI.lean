import Derived.Test.YtbcimkjgpplcpaaGreatDoorProg
import Derived.Test.YtbcimkjgpplcpaaGreatDoorVc
import Derived.KernelRfl
set_option linter.all false
set_option maxRecDepth 100000
namespace Go.Proofs.YtbcimkjgpplcpaaGreatDoor
open Go Hold
noncomputable abbrev prog : Program := Tryz.prog
instance oneC_2 : OneC prog 2 := ⟨fun w => by kernel_rfl, by kernel_rfl⟩
instance zeroC_2 : ZeroC prog 2 (.int .i64 0) := ⟨by kernel_rfl⟩
instance ul_2 : Ul prog 2 (.int .i64) := ⟨by kernel_rfl⟩
instance oneC_3 : OneC prog 3 := ⟨fun w => by kernel_rfl, by kernel_rfl⟩
instance zeroC_3 : ZeroC prog 3 (.int .i64 0) := ⟨by kernel_rfl⟩
instance ul_3 : Ul prog 3 (.int .i64) := ⟨by kernel_rfl⟩
instance oneC_4 : OneC prog 4 := ⟨fun w => by kernel_rfl, by kernel_rfl⟩
instance zeroC_4 : ZeroC prog 4 (.bool false) := ⟨by kernel_rfl⟩
instance ul_4 : Ul prog 4 .bool := ⟨by kernel_rfl⟩
instance oneC_5 : OneC prog 5 := ⟨fun w => by kernel_rfl, by kernel_rfl⟩
instance zeroC_5 : ZeroC prog 5 (.int .u8 0) := ⟨by kernel_rfl⟩
instance ul_5 : Ul prog 5 (.int .u8) := ⟨by kernel_rfl⟩
instance oneC_6 : OneC prog 6 := ⟨fun w => by kernel_rfl, by kernel_rfl⟩
instance zeroC_6 : ZeroC prog 6 (.int .u8 0) := ⟨by kernel_rfl⟩
instance ul_6 : Ul prog 6 (.int .u8) := ⟨by kernel_rfl⟩
instance aggC_7 : AggC prog 7 4 := ⟨fun w => by kernel_rfl, by kernel_rfl⟩
instance zeroC_7 : ZeroC prog 7 (.agg #[(.int .i64 0), (.int .i64 0), (.bool false), (.int .u8 0)]) := ⟨by kernel_rfl⟩
instance fld_7_0 : FldOff prog 7 0 0 := ⟨fun b o w => by kernel_rfl⟩
instance fld_7_1 : FldOff prog 7 1 1 := ⟨fun b o w => by kernel_rfl⟩
instance fld_7_2 : FldOff prog 7 2 2 := ⟨fun b o w => by kernel_rfl⟩
instance fld_7_3 : FldOff prog 7 3 3 := ⟨fun b o w => by kernel_rfl⟩
instance aggC_8 : AggC prog 8 4 := ⟨fun w => by kernel_rfl, by kernel_rfl⟩
instance zeroC_8 : ZeroC prog 8 (.agg #[(.int .i64 0), (.int .i64 0), (.bool false), (.int .u8 0)]) := ⟨by kernel_rfl⟩
instance fld_8_0 : FldOff prog 8 0 0 := ⟨fun b o w => by kernel_rfl⟩
instance fld_8_1 : FldOff prog 8 1 1 := ⟨fun b o w => by kernel_rfl⟩
instance fld_8_2 : FldOff prog 8 2 2 := ⟨fun b o w => by kernel_rfl⟩
instance fld_8_3 : FldOff prog 8 3 3 := ⟨fun b o w => by kernel_rfl⟩
instance oneC_9 : OneC prog 9 := ⟨fun w => by kernel_rfl, by kernel_rfl⟩
instance zeroC_9 : ZeroC prog 9 (.string ⟨#[]⟩) := ⟨by kernel_rfl⟩
instance ul_9 : Ul prog 9 .string := ⟨by kernel_rfl⟩
instance oneC_10 : OneC prog 10 := ⟨fun w => by kernel_rfl, by kernel_rfl⟩
instance zeroC_10 : ZeroC prog 10 (.string ⟨#[]⟩) := ⟨by kernel_rfl⟩
instance ul_10 : Ul prog 10 .string := ⟨by kernel_rfl⟩
instance oneC_11 : OneC prog 11 := ⟨fun w => by kernel_rfl, by kernel_rfl⟩
instance zeroC_11 : ZeroC prog 11 (.string ⟨#[]⟩) := ⟨by kernel_rfl⟩
instance ul_11 : Ul prog 11 .string := ⟨by kernel_rfl⟩
instance oneC_12 : OneC prog 12 := ⟨fun w => by kernel_rfl, by kernel_rfl⟩
instance zeroC_12 : ZeroC prog 12 (.int .u64 0) := ⟨by kernel_rfl⟩
instance ul_12 : Ul prog 12 (.int .u64) := ⟨by kernel_rfl⟩
instance aggC_13 : AggC prog 13 2 := ⟨fun w => by kernel_rfl, by kernel_rfl⟩
instance zeroC_13 : ZeroC prog 13 (.agg #[(.string ⟨#[]⟩), (.int .u64 0)]) := ⟨by kernel_rfl⟩
instance fld_13_0 : FldOff prog 13 0 0 := ⟨fun b o w => by kernel_rfl⟩
instance fld_13_1 : FldOff prog 13 1 1 := ⟨fun b o w => by kernel_rfl⟩
instance aggC_14 : AggC prog 14 2 := ⟨fun w => by kernel_rfl, by kernel_rfl⟩
instance zeroC_14 : ZeroC prog 14 (.agg #[(.string ⟨#[]⟩), (.int .u64 0)]) := ⟨by kernel_rfl⟩
instance fld_14_0 : FldOff prog 14 0 0 := ⟨fun b o w => by kernel_rfl⟩
instance fld_14_1 : FldOff prog 14 1 1 := ⟨fun b o w => by kernel_rfl⟩
instance oneC_15 : OneC prog 15 := ⟨fun w => by kernel_rfl, by kernel_rfl⟩
instance zeroC_15 : ZeroC prog 15 (.pointer none) := ⟨by kernel_rfl⟩
instance ul_15 : Ul prog 15 (.pointer 176) := ⟨by kernel_rfl⟩
instance oneC_16 : OneC prog 16 := ⟨fun w => by kernel_rfl, by kernel_rfl⟩
instance zeroC_16 : ZeroC prog 16 (.pointer none) := ⟨by kernel_rfl⟩
instance ul_16 : Ul prog 16 (.pointer 179) := ⟨by kernel_rfl⟩
instance oneC_17 : OneC prog 17 := ⟨fun w => by kernel_rfl, by kernel_rfl⟩
instance zeroC_17 : ZeroC prog 17 (.pointer none) := ⟨by kernel_rfl⟩
instance ul_17 : Ul prog 17 (.pointer 188) := ⟨by kernel_rfl⟩
instance aggC_18 : AggC prog 18 1 := ⟨fun w => by kernel_rfl, by kernel_rfl⟩
instance zeroC_18 : ZeroC prog 18 (.agg #[(.pointer none)]) := ⟨by kernel_rfl⟩
instance fld_18_0 : FldOff prog 18 0 0 := ⟨fun b o w => by kernel_rfl⟩
instance aggC_19 : AggC prog 19 1 := ⟨fun w => by kernel_rfl, by kernel_rfl⟩
instance zeroC_19 : ZeroC prog 19 (.agg #[(.pointer none)]) := ⟨by kernel_rfl⟩
instance fld_19_0 : FldOff prog 19 0 0 := ⟨fun b o w => by kernel_rfl⟩
instance oneC_20 : OneC prog 20 := ⟨fun w => by kernel_rfl, by kernel_rfl⟩
instance zeroC_20 : ZeroC prog 20 .nilIface := ⟨by kernel_rfl⟩
instance oneC_21 : OneC prog 21 := ⟨fun w => by kernel_rfl, by kernel_rfl⟩
instance zeroC_21 : ZeroC prog 21 (.int .i32 0) := ⟨by kernel_rfl⟩
instance ul_21 : Ul prog 21 (.int .i32) := ⟨by kernel_rfl⟩
instance oneC_22 : OneC prog 22 := ⟨fun w => by kernel_rfl, by kernel_rfl⟩
instance zeroC_22 : ZeroC prog 22 (.slice none 0 0) := ⟨by kernel_rfl⟩
instance sliceT_22 : SliceT prog 22 32 7 80 (.agg #[(.int .i64 0), (.int .i64 0), (.int .i64 0), (.int .i64 0), (.string ⟨#[]⟩), (.int .u8 0), (.slice none 0 0)]) := ⟨by kernel_rfl, by kernel_rfl, rfl, by decide⟩
instance ul_22 : Ul prog 22 (.slice 32) := ⟨by kernel_rfl⟩
instance oneC_23 : OneC prog 23 := ⟨fun w => by kernel_rfl, by kernel_rfl⟩
instance zeroC_23 : ZeroC prog 23 (.slice none 0 0) := ⟨by kernel_rfl⟩
instance sliceT_23 : SliceT prog 23 3 1 8 (.int .i64 0) := ⟨by kernel_rfl, by kernel_rfl, rfl, by decide⟩
instance ul_23 : Ul prog 23 (.slice 3) := ⟨by kernel_rfl⟩
instance oneC_24 : OneC prog 24 := ⟨fun w => by kernel_rfl, by kernel_rfl⟩
instance zeroC_24 : ZeroC prog 24 (.pointer none) := ⟨by kernel_rfl⟩
instance ul_24 : Ul prog 24 (.pointer 67) := ⟨by kernel_rfl⟩
instance oneC_26 : OneC prog 26 := ⟨fun w => by kernel_rfl, by kernel_rfl⟩
instance zeroC_26 : ZeroC prog 26 (.pointer none) := ⟨by kernel_rfl⟩
instance ul_26 : Ul prog 26 (.pointer 69) := ⟨by kernel_rfl⟩
instance oneC_30 : OneC prog 30 := ⟨fun w => by kernel_rfl, by kernel_rfl⟩
instance zeroC_30 : ZeroC prog 30 (.int .u8 0) := ⟨by kernel_rfl⟩
instance ul_30 : Ul prog 30 (.int .u8) := ⟨by kernel_rfl⟩
instance aggC_31 : AggC prog 31 7 := ⟨fun w => by kernel_rfl, by kernel_rfl⟩
instance zeroC_31 : ZeroC prog 31 (.agg #[(.int .i64 0), (.int .i64 0), (.int .i64 0), (.int .i64 0), (.string ⟨#[]⟩), (.int .u8 0), (.slice none 0 0)]) := ⟨by kernel_rfl⟩
instance fld_31_0 : FldOff prog 31 0 0 := ⟨fun b o w => by kernel_rfl⟩
instance fld_31_1 : FldOff prog 31 1 1 := ⟨fun b o w => by kernel_rfl⟩
instance fld_31_2 : FldOff prog 31 2 2 := ⟨fun b o w => by kernel_rfl⟩
instance fld_31_3 : FldOff prog 31 3 3 := ⟨fun b o w => by kernel_rfl⟩
instance fld_31_4 : FldOff prog 31 4 4 := ⟨fun b o w => by kernel_rfl⟩
instance fld_31_5 : FldOff prog 31 5 5 := ⟨fun b o w => by kernel_rfl⟩
instance fld_31_6 : FldOff prog 31 6 6 := ⟨fun b o w => by kernel_rfl⟩
instance aggC_32 : AggC prog 32 7 := ⟨fun w => by kernel_rfl, by kernel_rfl⟩
instance zeroC_32 : ZeroC prog 32 (.agg #[(.int .i64 0), (.int .i64 0), (.int .i64 0), (.int .i64 0), (.string ⟨#[]⟩), (.int .u8 0), (.slice none 0 0)]) := ⟨by kernel_rfl⟩
instance fld_32_0 : FldOff prog 32 0 0 := ⟨fun b o w => by kernel_rfl⟩
instance fld_32_1 : FldOff prog 32 1 1 := ⟨fun b o w => by kernel_rfl⟩
instance fld_32_2 : FldOff prog 32 2 2 := ⟨fun b o w => by kernel_rfl⟩
instance fld_32_3 : FldOff prog 32 3 3 := ⟨fun b o w => by kernel_rfl⟩
instance fld_32_4 : FldOff prog 32 4 4 := ⟨fun b o w => by kernel_rfl⟩
instance fld_32_5 : FldOff prog 32 5 5 := ⟨fun b o w => by kernel_rfl⟩
instance fld_32_6 : FldOff prog 32 6 6 := ⟨fun b o w => by kernel_rfl⟩
instance aggC_34 : AggC prog 34 5 := ⟨fun w => by kernel_rfl, by kernel_rfl⟩
instance zeroC_34 : ZeroC prog 34 (.agg #[(.int .i64 0), (.int .i64 0), (.string ⟨#[]⟩), (.int .u8 0), (.int .i64 0)]) := ⟨by kernel_rfl⟩
instance fld_34_0 : FldOff prog 34 0 0 := ⟨fun b o w => by kernel_rfl⟩
instance fld_34_1 : FldOff prog 34 1 1 := ⟨fun b o w => by kernel_rfl⟩
instance fld_34_2 : FldOff prog 34 2 2 := ⟨fun b o w => by kernel_rfl⟩
instance fld_34_3 : FldOff prog 34 3 3 := ⟨fun b o w => by kernel_rfl⟩
instance fld_34_4 : FldOff prog 34 4 4 := ⟨fun b o w => by kernel_rfl⟩
instance aggC_35 : AggC prog 35 5 := ⟨fun w => by kernel_rfl, by kernel_rfl⟩
instance zeroC_35 : ZeroC prog 35 (.agg #[(.int .i64 0), (.int .i64 0), (.string ⟨#[]⟩), (.int .u8 0), (.int .i64 0)]) := ⟨by kernel_rfl⟩
instance fld_35_0 : FldOff prog 35 0 0 := ⟨fun b o w => by kernel_rfl⟩
instance fld_35_1 : FldOff prog 35 1 1 := ⟨fun b o w => by kernel_rfl⟩
instance fld_35_2 : FldOff prog 35 2 2 := ⟨fun b o w => by kernel_rfl⟩
instance fld_35_3 : FldOff prog 35 3 3 := ⟨fun b o w => by kernel_rfl⟩
instance fld_35_4 : FldOff prog 35 4 4 := ⟨fun b o w => by kernel_rfl⟩
instance oneC_36 : OneC prog 36 := ⟨fun w => by kernel_rfl, by kernel_rfl⟩
instance zeroC_36 : ZeroC prog 36 (.int .i64 0) := ⟨by kernel_rfl⟩
instance ul_36 : Ul prog 36 (.int .i64) := ⟨by kernel_rfl⟩
instance oneC_41 : OneC prog 41 := ⟨fun w => by kernel_rfl, by kernel_rfl⟩
instance zeroC_41 : ZeroC prog 41 (.slice none 0 0) := ⟨by kernel_rfl⟩
instance sliceT_41 : SliceT prog 41 49 4 32 (.agg #[(.int .i64 0), (.int .i64 0), (.int .u8 0), (.int .i64 0)]) := ⟨by kernel_rfl, by kernel_rfl, rfl, by decide⟩
instance ul_41 : Ul prog 41 (.slice 49) := ⟨by kernel_rfl⟩
instance oneC_43 : OneC prog 43 := ⟨fun w => by kernel_rfl, by kernel_rfl⟩
instance zeroC_43 : ZeroC prog 43 (.slice none 0 0) := ⟨by kernel_rfl⟩
instance sliceT_43 : SliceT prog 43 35 5 48 (.agg #[(.int .i64 0), (.int .i64 0), (.string ⟨#[]⟩), (.int .u8 0), (.int .i64 0)]) := ⟨by kernel_rfl, by kernel_rfl, rfl, by decide⟩
instance ul_43 : Ul prog 43 (.slice 35) := ⟨by kernel_rfl⟩
instance oneC_45 : OneC prog 45 := ⟨fun w => by kernel_rfl, by kernel_rfl⟩
instance zeroC_45 : ZeroC prog 45 (.slice none 0 0) := ⟨by kernel_rfl⟩
instance sliceT_45 : SliceT prog 45 84 2 40 (.agg #[(.string ⟨#[]⟩), (.slice none 0 0)]) := ⟨by kernel_rfl, by kernel_rfl, rfl, by decide⟩
instance ul_45 : Ul prog 45 (.slice 84) := ⟨by kernel_rfl⟩
instance aggC_48 : AggC prog 48 4 := ⟨fun w => by kernel_rfl, by kernel_rfl⟩
instance zeroC_48 : ZeroC prog 48 (.agg #[(.int .i64 0), (.int .i64 0), (.int .u8 0), (.int .i64 0)]) := ⟨by kernel_rfl⟩
instance fld_48_0 : FldOff prog 48 0 0 := ⟨fun b o w => by kernel_rfl⟩
instance fld_48_1 : FldOff prog 48 1 1 := ⟨fun b o w => by kernel_rfl⟩
instance fld_48_2 : FldOff prog 48 2 2 := ⟨fun b o w => by kernel_rfl⟩
instance fld_48_3 : FldOff prog 48 3 3 := ⟨fun b o w => by kernel_rfl⟩
instance aggC_49 : AggC prog 49 4 := ⟨fun w => by kernel_rfl, by kernel_rfl⟩
instance zeroC_49 : ZeroC prog 49 (.agg #[(.int .i64 0), (.int .i64 0), (.int .u8 0), (.int .i64 0)]) := ⟨by kernel_rfl⟩
instance fld_49_0 : FldOff prog 49 0 0 := ⟨fun b o w => by kernel_rfl⟩
instance fld_49_1 : FldOff prog 49 1 1 := ⟨fun b o w => by kernel_rfl⟩
instance fld_49_2 : FldOff prog 49 2 2 := ⟨fun b o w => by kernel_rfl⟩
instance fld_49_3 : FldOff prog 49 3 3 := ⟨fun b o w => by kernel_rfl⟩
instance oneC_60 : OneC prog 60 := ⟨fun w => by kernel_rfl, by kernel_rfl⟩
instance zeroC_60 : ZeroC prog 60 (.map none) := ⟨by kernel_rfl⟩
instance ul_60 : Ul prog 60 (.map 3 35) := ⟨by kernel_rfl⟩
instance aggC_61 : AggC prog 61 2 := ⟨fun w => by kernel_rfl, by kernel_rfl⟩
instance zeroC_61 : ZeroC prog 61 (.agg #[(.int .i64 0), (.map none)]) := ⟨by kernel_rfl⟩
instance fld_61_0 : FldOff prog 61 0 0 := ⟨fun b o w => by kernel_rfl⟩
instance fld_61_1 : FldOff prog 61 1 1 := ⟨fun b o w => by kernel_rfl⟩
instance aggC_62 : AggC prog 62 2 := ⟨fun w => by kernel_rfl, by kernel_rfl⟩
instance zeroC_62 : ZeroC prog 62 (.agg #[(.int .i64 0), (.map none)]) := ⟨by kernel_rfl⟩
instance fld_62_0 : FldOff prog 62 0 0 := ⟨fun b o w => by kernel_rfl⟩
instance fld_62_1 : FldOff prog 62 1 1 := ⟨fun b o w => by kernel_rfl⟩
instance oneC_63 : OneC prog 63 := ⟨fun w => by kernel_rfl, by kernel_rfl⟩
instance zeroC_63 : ZeroC prog 63 (.map none) := ⟨by kernel_rfl⟩
instance ul_63 : Ul prog 63 (.map 3 49) := ⟨by kernel_rfl⟩
instance aggC_64 : AggC prog 64 2 := ⟨fun w => by kernel_rfl, by kernel_rfl⟩
instance zeroC_64 : ZeroC prog 64 (.agg #[(.int .i64 0), (.map none)]) := ⟨by kernel_rfl⟩
instance fld_64_0 : FldOff prog 64 0 0 := ⟨fun b o w => by kernel_rfl⟩
instance fld_64_1 : FldOff prog 64 1 1 := ⟨fun b o w => by kernel_rfl⟩
instance aggC_65 : AggC prog 65 2 := ⟨fun w => by kernel_rfl, by kernel_rfl⟩
instance zeroC_65 : ZeroC prog 65 (.agg #[(.int .i64 0), (.map none)]) := ⟨by kernel_rfl⟩
instance fld_65_0 : FldOff prog 65 0 0 := ⟨fun b o w => by kernel_rfl⟩
instance fld_65_1 : FldOff prog 65 1 1 := ⟨fun b o w => by kernel_rfl⟩
instance aggC_66 : AggC prog 66 5 := ⟨fun w => by kernel_rfl, by kernel_rfl⟩
instance zeroC_66 : ZeroC prog 66 (.agg #[(.int .i64 0), (.map none), (.int .i64 0), (.map none), (.int .i64 0)]) := ⟨by kernel_rfl⟩
instance fld_66_0 : FldOff prog 66 0 0 := ⟨fun b o w => by kernel_rfl⟩
instance fld_66_1 : FldOff prog 66 1 2 := ⟨fun b o w => by kernel_rfl⟩
instance fld_66_2 : FldOff prog 66 2 4 := ⟨fun b o w => by kernel_rfl⟩
instance aggC_67 : AggC prog 67 5 := ⟨fun w => by kernel_rfl, by kernel_rfl⟩
instance zeroC_67 : ZeroC prog 67 (.agg #[(.int .i64 0), (.map none), (.int .i64 0), (.map none), (.int .i64 0)]) := ⟨by kernel_rfl⟩
instance fld_67_0 : FldOff prog 67 0 0 := ⟨fun b o w => by kernel_rfl⟩
instance fld_67_1 : FldOff prog 67 1 2 := ⟨fun b o w => by kernel_rfl⟩
instance fld_67_2 : FldOff prog 67 2 4 := ⟨fun b o w => by kernel_rfl⟩
instance aggC_68 : AggC prog 68 5 := ⟨fun w => by kernel_rfl, by kernel_rfl⟩
instance zeroC_68 : ZeroC prog 68 (.agg #[(.int .i64 0), (.int .i64 0), (.int .i64 0), (.slice none 0 0), (.slice none 0 0)]) := ⟨by kernel_rfl⟩
instance fld_68_0 : FldOff prog 68 0 0 := ⟨fun b o w => by kernel_rfl⟩
instance fld_68_1 : FldOff prog 68 1 1 := ⟨fun b o w => by kernel_rfl⟩
instance fld_68_2 : FldOff prog 68 2 2 := ⟨fun b o w => by kernel_rfl⟩
instance fld_68_3 : FldOff prog 68 3 3 := ⟨fun b o w => by kernel_rfl⟩
instance fld_68_4 : FldOff prog 68 4 4 := ⟨fun b o w => by kernel_rfl⟩
instance aggC_69 : AggC prog 69 5 := ⟨fun w => by kernel_rfl, by kernel_rfl⟩
instance zeroC_69 : ZeroC prog 69 (.agg #[(.int .i64 0), (.int .i64 0), (.int .i64 0), (.slice none 0 0), (.slice none 0 0)]) := ⟨by kernel_rfl⟩
instance fld_69_0 : FldOff prog 69 0 0 := ⟨fun b o w => by kernel_rfl⟩
instance fld_69_1 : FldOff prog 69 1 1 := ⟨fun b o w => by kernel_rfl⟩
instance fld_69_2 : FldOff prog 69 2 2 := ⟨fun b o w => by kernel_rfl⟩
instance fld_69_3 : FldOff prog 69 3 3 := ⟨fun b o w => by kernel_rfl⟩
instance fld_69_4 : FldOff prog 69 4 4 := ⟨fun b o w => by kernel_rfl⟩
instance oneC_82 : OneC prog 82 := ⟨fun w => by kernel_rfl, by kernel_rfl⟩
instance zeroC_82 : ZeroC prog 82 (.slice none 0 0) := ⟨by kernel_rfl⟩
instance sliceT_82 : SliceT prog 82 9 1 16 (.string ⟨#[]⟩) := ⟨by kernel_rfl, by kernel_rfl, rfl, by decide⟩
instance ul_82 : Ul prog 82 (.slice 9) := ⟨by kernel_rfl⟩
instance aggC_83 : AggC prog 83 2 := ⟨fun w => by kernel_rfl, by kernel_rfl⟩
instance zeroC_83 : ZeroC prog 83 (.agg #[(.string ⟨#[]⟩), (.slice none 0 0)]) := ⟨by kernel_rfl⟩
instance fld_83_0 : FldOff prog 83 0 0 := ⟨fun b o w => by kernel_rfl⟩
instance fld_83_1 : FldOff prog 83 1 1 := ⟨fun b o w => by kernel_rfl⟩
instance aggC_84 : AggC prog 84 2 := ⟨fun w => by kernel_rfl, by kernel_rfl⟩
instance zeroC_84 : ZeroC prog 84 (.agg #[(.string ⟨#[]⟩), (.slice none 0 0)]) := ⟨by kernel_rfl⟩
instance fld_84_0 : FldOff prog 84 0 0 := ⟨fun b o w => by kernel_rfl⟩
instance fld_84_1 : FldOff prog 84 1 1 := ⟨fun b o w => by kernel_rfl⟩
instance oneC_106 : OneC prog 106 := ⟨fun w => by kernel_rfl, by kernel_rfl⟩
instance zeroC_106 : ZeroC prog 106 (.int .u64 0) := ⟨by kernel_rfl⟩
instance ul_106 : Ul prog 106 (.int .u64) := ⟨by kernel_rfl⟩
instance oneC_113 : OneC prog 113 := ⟨fun w => by kernel_rfl, by kernel_rfl⟩
instance zeroC_113 : ZeroC prog 113 (.int .i64 0) := ⟨by kernel_rfl⟩
instance ul_113 : Ul prog 113 (.int .i64) := ⟨by kernel_rfl⟩
instance oneC_121 : OneC prog 121 := ⟨fun w => by kernel_rfl, by kernel_rfl⟩
instance zeroC_121 : ZeroC prog 121 (.int .u32 0) := ⟨by kernel_rfl⟩
instance ul_121 : Ul prog 121 (.int .u32) := ⟨by kernel_rfl⟩
instance oneC_123 : OneC prog 123 := ⟨fun w => by kernel_rfl, by kernel_rfl⟩
instance zeroC_123 : ZeroC prog 123 (.int .u64 0) := ⟨by kernel_rfl⟩
instance ul_123 : Ul prog 123 (.int .u64) := ⟨by kernel_rfl⟩
instance aggC_125 : AggC prog 125 256 := ⟨fun w => by kernel_rfl, by kernel_rfl⟩
instance zeroC_125 : ZeroC prog 125 (.agg #[(.bool false), (.bool false), (.bool false), (.bool false), (.bool false), (.bool false), (.bool false), (.bool false), (.bool false), (.bool false), (.bool false), (.bool false), (.bool false), (.bool false), (.bool false), (.bool false), (.bool false), (.bool false), (.bool false), (.bool false), (.bool false), (.bool false), (.bool false), (.bool false), (.bool false), (.bool false), (.bool false), (.bool false), (.bool false), (.bool false), (.bool false), (.bool false), (.bool false), (.bool false), (.bool false), (.bool false), (.bool false), (.bool false), (.bool false), (.bool false), (.bool false), (.bool false), (.bool false), (.bool false), (.bool false), (.bool false), (.bool false), (.bool false), (.bool false), (.bool false), (.bool false), (.bool false), (.bool false), (.bool false), (.bool false), (.bool false), (.bool false), (.bool false), (.bool false), (.bool false), (.bool false), (.bool false), (.bool false), (.bool false), (.bool false), (.bool false), (.bool false), (.bool false), (.bool false), (.bool false), (.bool false), (.bool false), (.bool false), (.bool false), (.bool false), (.bool false), (.bool false), (.bool false), (.bool false), (.bool false), (.bool false), (.bool false), (.bool false), (.bool false), (.bool false), (.bool false), (.bool false), (.bool false), (.bool false), (.bool false), (.bool false), (.bool false), (.bool false), (.bool false), (.bool false), (.bool false), (.bool false), (.bool false), (.bool false), (.bool false), (.bool false), (.bool false), (.bool false), (.bool false), (.bool false), (.bool false), (.bool false), (.bool false), (.bool false), (.bool false), (.bool false), (.bool false), (.bool false), (.bool false), (.bool false), (.bool false), (.bool false), (.bool false), (.bool false), (.bool false), (.bool false), (.bool false), (.bool false), (.bool false), (.bool false), (.bool false), (.bool false), (.bool false), (.bool false), (.bool false), (.bool false), (.bool false), (.bool false), (.bool false), (.bool false), (.bool false), (.bool false), (.bool false), (.bool false), (.bool false), (.bool false), (.bool false), (.bool false), (.bool false), (.bool false), (.bool false), (.bool false), (.bool false), (.bool false), (.bool false), (.bool false), (.bool false), (.bool false), (.bool false), (.bool false), (.bool false), (.bool false), (.bool false), (.bool false), (.bool false), (.bool false), (.bool false), (.bool false), (.bool false), (.bool false), (.bool false), (.bool false), (.bool false), (.bool false), (.bool false), (.bool false), (.bool false), (.bool false), (.bool false), (.bool false), (.bool false), (.bool false), (.bool false), (.bool false), (.bool false), (.bool false), (.bool false), (.bool false), (.bool false), (.bool false), (.bool false), (.bool false), (.bool false), (.bool false), (.bool false), (.bool false), (.bool false), (.bool false), (.bool false), (.bool false), (.bool false), (.bool false), (.bool false), (.bool false), (.bool false), (.bool false), (.bool false), (.bool false), (.bool false), (.bool false), (.bool false), (.bool false), (.bool false), (.bool false), (.bool false), (.bool false), (.bool false), (.bool false), (.bool false), (.bool false), (.bool false), (.bool false), (.bool false), (.bool false), (.bool false), (.bool false), (.bool false), (.bool false), (.bool false), (.bool false), (.bool false), (.bool false), (.bool false), (.bool false), (.bool false), (.bool false), (.bool false), (.bool false), (.bool false), (.bool false), (.bool false), (.bool false), (.bool false), (.bool false), (.bool false), (.bool false), (.bool false), (.bool false), (.bool false), (.bool false), (.bool false), (.bool false), (.bool false), (.bool false), (.bool false), (.bool false), (.bool false), (.bool false), (.bool false), (.bool false), (.bool false)]) := ⟨by kernel_rfl⟩
instance ul_125 : Ul prog 125 (.array 256 4) := ⟨by kernel_rfl⟩
instance aggC_126 : AggC prog 126 256 := ⟨fun w => by kernel_rfl, by kernel_rfl⟩
instance zeroC_126 : ZeroC prog 126 (.agg #[(.bool false), (.bool false), (.bool false), (.bool false), (.bool false), (.bool false), (.bool false), (.bool false), (.bool false), (.bool false), (.bool false), (.bool false), (.bool false), (.bool false), (.bool false), (.bool false), (.bool false), (.bool false), (.bool false), (.bool false), (.bool false), (.bool false), (.bool false), (.bool false), (.bool false), (.bool false), (.bool false), (.bool false), (.bool false), (.bool false), (.bool false), (.bool false), (.bool false), (.bool false), (.bool false), (.bool false), (.bool false), (.bool false), (.bool false), (.bool false), (.bool false), (.bool false), (.bool false), (.bool false), (.bool false), (.bool false), (.bool false), (.bool false), (.bool false), (.bool false), (.bool false), (.bool false), (.bool false), (.bool false), (.bool false), (.bool false), (.bool false), (.bool false), (.bool false), (.bool false), (.bool false), (.bool false), (.bool false), (.bool false), (.bool false), (.bool false), (.bool false), (.bool false), (.bool false), (.bool false), (.bool false), (.bool false), (.bool false), (.bool false), (.bool false), (.bool false), (.bool false), (.bool false), (.bool false), (.bool false), (.bool false), (.bool false), (.bool false), (.bool false), (.bool false), (.bool false), (.bool false), (.bool false), (.bool false), (.bool false), (.bool false), (.bool false), (.bool false), (.bool false), (.bool false), (.bool false), (.bool false), (.bool false), (.bool false), (.bool false), (.bool false), (.bool false), (.bool false), (.bool false), (.bool false), (.bool false), (.bool false), (.bool false), (.bool false), (.bool false), (.bool false), (.bool false), (.bool false), (.bool false), (.bool false), (.bool false), (.bool false), (.bool false), (.bool false), (.bool false), (.bool false), (.bool false), (.bool false), (.bool false), (.bool false), (.bool false), (.bool false), (.bool false), (.bool false), (.bool false), (.bool false), (.bool false), (.bool false), (.bool false), (.bool false), (.bool false), (.bool false), (.bool false), (.bool false), (.bool false), (.bool false), (.bool false), (.bool false), (.bool false), (.bool false), (.bool false), (.bool false), (.bool false), (.bool false), (.bool false), (.bool false), (.bool false), (.bool false), (.bool false), (.bool false), (.bool false), (.bool false), (.bool false), (.bool false), (.bool false), (.bool false), (.bool false), (.bool false), (.bool false), (.bool false), (.bool false), (.bool false), (.bool false), (.bool false), (.bool false), (.bool false), (.bool false), (.bool false), (.bool false), (.bool false), (.bool false), (.bool false), (.bool false), (.bool false), (.bool false), (.bool false), (.bool false), (.bool false), (.bool false), (.bool false), (.bool false), (.bool false), (.bool false), (.bool false), (.bool false), (.bool false), (.bool false), (.bool false), (.bool false), (.bool false), (.bool false), (.bool false), (.bool false), (.bool false), (.bool false), (.bool false), (.bool false), (.bool false), (.bool false), (.bool false), (.bool false), (.bool false), (.bool false), (.bool false), (.bool false), (.bool false), (.bool false), (.bool false), (.bool false), (.bool false), (.bool false), (.bool false), (.bool false), (.bool false), (.bool false), (.bool false), (.bool false), (.bool false), (.bool false), (.bool false), (.bool false), (.bool false), (.bool false), (.bool false), (.bool false), (.bool false), (.bool false), (.bool false), (.bool false), (.bool false), (.bool false), (.bool false), (.bool false), (.bool false), (.bool false), (.bool false), (.bool false), (.bool false), (.bool false), (.bool false), (.bool false), (.bool false), (.bool false), (.bool false), (.bool false), (.bool false), (.bool false), (.bool false), (.bool false), (.bool false), (.bool false)]) := ⟨by kernel_rfl⟩
instance ul_126 : Ul prog 126 (.array 256 4) := ⟨by kernel_rfl⟩
instance oneC_130 : OneC prog 130 := ⟨fun w => by kernel_rfl, by kernel_rfl⟩
instance zeroC_130 : ZeroC prog 130 (.pointer none) := ⟨by kernel_rfl⟩
instance ul_130 : Ul prog 130 (.pointer 126) := ⟨by kernel_rfl⟩
instance oneC_133 : OneC prog 133 := ⟨fun w => by kernel_rfl, by kernel_rfl⟩
instance zeroC_133 : ZeroC prog 133 (.int .u64 0) := ⟨by kernel_rfl⟩
instance ul_133 : Ul prog 133 (.int .u64) := ⟨by kernel_rfl⟩
instance oneC_137 : OneC prog 137 := ⟨fun w => by kernel_rfl, by kernel_rfl⟩
instance zeroC_137 : ZeroC prog 137 (.pointer none) := ⟨by kernel_rfl⟩
instance ul_137 : Ul prog 137 (.pointer 3) := ⟨by kernel_rfl⟩
instance aggC_150 : AggC prog 150 24 := ⟨fun w => by kernel_rfl, by kernel_rfl⟩
instance zeroC_150 : ZeroC prog 150 (.agg #[(.int .u8 0), (.int .u8 0), (.int .u8 0), (.int .u8 0), (.int .u8 0), (.int .u8 0), (.int .u8 0), (.int .u8 0), (.int .u8 0), (.int .u8 0), (.int .u8 0), (.int .u8 0), (.int .u8 0), (.int .u8 0), (.int .u8 0), (.int .u8 0), (.int .u8 0), (.int .u8 0), (.int .u8 0), (.int .u8 0), (.int .u8 0), (.int .u8 0), (.int .u8 0), (.int .u8 0)]) := ⟨by kernel_rfl⟩
instance ul_150 : Ul prog 150 (.array 24 5) := ⟨by kernel_rfl⟩
instance oneC_152 : OneC prog 152 := ⟨fun w => by kernel_rfl, by kernel_rfl⟩
instance zeroC_152 : ZeroC prog 152 (.slice none 0 0) := ⟨by kernel_rfl⟩
instance sliceT_152 : SliceT prog 152 5 1 1 (.int .u8 0) := ⟨by kernel_rfl, by kernel_rfl, rfl, by decide⟩
instance ul_152 : Ul prog 152 (.slice 5) := ⟨by kernel_rfl⟩
instance oneC_155 : OneC prog 155 := ⟨fun w => by kernel_rfl, by kernel_rfl⟩
instance zeroC_155 : ZeroC prog 155 (.pointer none) := ⟨by kernel_rfl⟩
instance ul_155 : Ul prog 155 (.pointer 133) := ⟨by kernel_rfl⟩
instance aggC_163 : AggC prog 163 20 := ⟨fun w => by kernel_rfl, by kernel_rfl⟩
instance zeroC_163 : ZeroC prog 163 (.agg #[(.int .u64 0), (.int .u64 0), (.int .u64 0), (.int .u64 0), (.int .u64 0), (.int .u64 0), (.int .u64 0), (.int .u64 0), (.int .u64 0), (.int .u64 0), (.int .u64 0), (.int .u64 0), (.int .u64 0), (.int .u64 0), (.int .u64 0), (.int .u64 0), (.int .u64 0), (.int .u64 0), (.int .u64 0), (.int .u64 0)]) := ⟨by kernel_rfl⟩
instance ul_163 : Ul prog 163 (.array 20 123) := ⟨by kernel_rfl⟩
instance aggC_164 : AggC prog 164 65 := ⟨fun w => by kernel_rfl, by kernel_rfl⟩
instance zeroC_164 : ZeroC prog 164 (.agg #[(.int .u8 0), (.int .u8 0), (.int .u8 0), (.int .u8 0), (.int .u8 0), (.int .u8 0), (.int .u8 0), (.int .u8 0), (.int .u8 0), (.int .u8 0), (.int .u8 0), (.int .u8 0), (.int .u8 0), (.int .u8 0), (.int .u8 0), (.int .u8 0), (.int .u8 0), (.int .u8 0), (.int .u8 0), (.int .u8 0), (.int .u8 0), (.int .u8 0), (.int .u8 0), (.int .u8 0), (.int .u8 0), (.int .u8 0), (.int .u8 0), (.int .u8 0), (.int .u8 0), (.int .u8 0), (.int .u8 0), (.int .u8 0), (.int .u8 0), (.int .u8 0), (.int .u8 0), (.int .u8 0), (.int .u8 0), (.int .u8 0), (.int .u8 0), (.int .u8 0), (.int .u8 0), (.int .u8 0), (.int .u8 0), (.int .u8 0), (.int .u8 0), (.int .u8 0), (.int .u8 0), (.int .u8 0), (.int .u8 0), (.int .u8 0), (.int .u8 0), (.int .u8 0), (.int .u8 0), (.int .u8 0), (.int .u8 0), (.int .u8 0), (.int .u8 0), (.int .u8 0), (.int .u8 0), (.int .u8 0), (.int .u8 0), (.int .u8 0), (.int .u8 0), (.int .u8 0), (.int .u8 0)]) := ⟨by kernel_rfl⟩
instance ul_164 : Ul prog 164 (.array 65 5) := ⟨by kernel_rfl⟩
instance aggC_165 : AggC prog 165 256 := ⟨fun w => by kernel_rfl, by kernel_rfl⟩
instance zeroC_165 : ZeroC prog 165 (.agg #[(.int .u8 0), (.int .u8 0), (.int .u8 0), (.int .u8 0), (.int .u8 0), (.int .u8 0), (.int .u8 0), (.int .u8 0), (.int .u8 0), (.int .u8 0), (.int .u8 0), (.int .u8 0), (.int .u8 0), (.int .u8 0), (.int .u8 0), (.int .u8 0), (.int .u8 0), (.int .u8 0), (.int .u8 0), (.int .u8 0), (.int .u8 0), (.int .u8 0), (.int .u8 0), (.int .u8 0), (.int .u8 0), (.int .u8 0), (.int .u8 0), (.int .u8 0), (.int .u8 0), (.int .u8 0), (.int .u8 0), (.int .u8 0), (.int .u8 0), (.int .u8 0), (.int .u8 0), (.int .u8 0), (.int .u8 0), (.int .u8 0), (.int .u8 0), (.int .u8 0), (.int .u8 0), (.int .u8 0), (.int .u8 0), (.int .u8 0), (.int .u8 0), (.int .u8 0), (.int .u8 0), (.int .u8 0), (.int .u8 0), (.int .u8 0), (.int .u8 0), (.int .u8 0), (.int .u8 0), (.int .u8 0), (.int .u8 0), (.int .u8 0), (.int .u8 0), (.int .u8 0), (.int .u8 0), (.int .u8 0), (.int .u8 0), (.int .u8 0), (.int .u8 0), (.int .u8 0), (.int .u8 0), (.int .u8 0), (.int .u8 0), (.int .u8 0), (.int .u8 0), (.int .u8 0), (.int .u8 0), (.int .u8 0), (.int .u8 0), (.int .u8 0), (.int .u8 0), (.int .u8 0), (.int .u8 0), (.int .u8 0), (.int .u8 0), (.int .u8 0), (.int .u8 0), (.int .u8 0), (.int .u8 0), (.int .u8 0), (.int .u8 0), (.int .u8 0), (.int .u8 0), (.int .u8 0), (.int .u8 0), (.int .u8 0), (.int .u8 0), (.int .u8 0), (.int .u8 0), (.int .u8 0), (.int .u8 0), (.int .u8 0), (.int .u8 0), (.int .u8 0), (.int .u8 0), (.int .u8 0), (.int .u8 0), (.int .u8 0), (.int .u8 0), (.int .u8 0), (.int .u8 0), (.int .u8 0), (.int .u8 0), (.int .u8 0), (.int .u8 0), (.int .u8 0), (.int .u8 0), (.int .u8 0), (.int .u8 0), (.int .u8 0), (.int .u8 0), (.int .u8 0), (.int .u8 0), (.int .u8 0), (.int .u8 0), (.int .u8 0), (.int .u8 0), (.int .u8 0), (.int .u8 0), (.int .u8 0), (.int .u8 0), (.int .u8 0), (.int .u8 0), (.int .u8 0), (.int .u8 0), (.int .u8 0), (.int .u8 0), (.int .u8 0), (.int .u8 0), (.int .u8 0), (.int .u8 0), (.int .u8 0), (.int .u8 0), (.int .u8 0), (.int .u8 0), (.int .u8 0), (.int .u8 0), (.int .u8 0), (.int .u8 0), (.int .u8 0), (.int .u8 0), (.int .u8 0), (.int .u8 0), (.int .u8 0), (.int .u8 0), (.int .u8 0), (.int .u8 0), (.int .u8 0), (.int .u8 0), (.int .u8 0), (.int .u8 0), (.int .u8 0), (.int .u8 0), (.int .u8 0), (.int .u8 0), (.int .u8 0), (.int .u8 0), (.int .u8 0), (.int .u8 0), (.int .u8 0), (.int .u8 0), (.int .u8 0), (.int .u8 0), (.int .u8 0), (.int .u8 0), (.int .u8 0), (.int .u8 0), (.int .u8 0), (.int .u8 0), (.int .u8 0), (.int .u8 0), (.int .u8 0), (.int .u8 0), (.int .u8 0), (.int .u8 0), (.int .u8 0), (.int .u8 0), (.int .u8 0), (.int .u8 0), (.int .u8 0), (.int .u8 0), (.int .u8 0), (.int .u8 0), (.int .u8 0), (.int .u8 0), (.int .u8 0), (.int .u8 0), (.int .u8 0), (.int .u8 0), (.int .u8 0), (.int .u8 0), (.int .u8 0), (.int .u8 0), (.int .u8 0), (.int .u8 0), (.int .u8 0), (.int .u8 0), (.int .u8 0), (.int .u8 0), (.int .u8 0), (.int .u8 0), (.int .u8 0), (.int .u8 0), (.int .u8 0), (.int .u8 0), (.int .u8 0), (.int .u8 0), (.int .u8 0), (.int .u8 0), (.int .u8 0), (.int .u8 0), (.int .u8 0), (.int .u8 0), (.int .u8 0), (.int .u8 0), (.int .u8 0), (.int .u8 0), (.int .u8 0), (.int .u8 0), (.int .u8 0), (.int .u8 0), (.int .u8 0), (.int .u8 0), (.int .u8 0), (.int .u8 0), (.int .u8 0), (.int .u8 0), (.int .u8 0), (.int .u8 0), (.int .u8 0), (.int .u8 0), (.int .u8 0), (.int .u8 0), (.int .u8 0), (.int .u8 0), (.int .u8 0), (.int .u8 0), (.int .u8 0), (.int .u8 0), (.int .u8 0), (.int .u8 0), (.int .u8 0), (.int .u8 0), (.int .u8 0), (.int .u8 0), (.int .u8 0), (.int .u8 0), (.int .u8 0), (.int .u8 0), (.int .u8 0), (.int .u8 0), (.int .u8 0)]) := ⟨by kernel_rfl⟩
instance ul_165 : Ul prog 165 (.array 256 5) := ⟨by kernel_rfl⟩
instance aggC_166 : AggC prog 166 2 := ⟨fun w => by kernel_rfl, by kernel_rfl⟩
instance zeroC_166 : ZeroC prog 166 (.agg #[(.int .u8 0), (.int .u8 0)]) := ⟨by kernel_rfl⟩
instance fld_166_0 : FldOff prog 166 0 0 := ⟨fun b o w => by kernel_rfl⟩
instance fld_166_1 : FldOff prog 166 1 1 := ⟨fun b o w => by kernel_rfl⟩
instance aggC_167 : AggC prog 167 2 := ⟨fun w => by kernel_rfl, by kernel_rfl⟩
instance zeroC_167 : ZeroC prog 167 (.agg #[(.int .u8 0), (.int .u8 0)]) := ⟨by kernel_rfl⟩
instance fld_167_0 : FldOff prog 167 0 0 := ⟨fun b o w => by kernel_rfl⟩
instance fld_167_1 : FldOff prog 167 1 1 := ⟨fun b o w => by kernel_rfl⟩
instance aggC_168 : AggC prog 168 32 := ⟨fun w => by kernel_rfl, by kernel_rfl⟩
instance zeroC_168 : ZeroC prog 168 (.agg #[(.int .u8 0), (.int .u8 0), (.int .u8 0), (.int .u8 0), (.int .u8 0), (.int .u8 0), (.int .u8 0), (.int .u8 0), (.int .u8 0), (.int .u8 0), (.int .u8 0), (.int .u8 0), (.int .u8 0), (.int .u8 0), (.int .u8 0), (.int .u8 0), (.int .u8 0), (.int .u8 0), (.int .u8 0), (.int .u8 0), (.int .u8 0), (.int .u8 0), (.int .u8 0), (.int .u8 0), (.int .u8 0), (.int .u8 0), (.int .u8 0), (.int .u8 0), (.int .u8 0), (.int .u8 0), (.int .u8 0), (.int .u8 0)]) := ⟨by kernel_rfl⟩
instance ul_168 : Ul prog 168 (.array 16 167) := ⟨by kernel_rfl⟩
instance aggC_172 : AggC prog 172 32 := ⟨fun w => by kernel_rfl, by kernel_rfl⟩
instance zeroC_172 : ZeroC prog 172 (.agg #[(.int .u8 0), (.int .u8 0), (.int .u8 0), (.int .u8 0), (.int .u8 0), (.int .u8 0), (.int .u8 0), (.int .u8 0), (.int .u8 0), (.int .u8 0), (.int .u8 0), (.int .u8 0), (.int .u8 0), (.int .u8 0), (.int .u8 0), (.int .u8 0), (.int .u8 0), (.int .u8 0), (.int .u8 0), (.int .u8 0), (.int .u8 0), (.int .u8 0), (.int .u8 0), (.int .u8 0), (.int .u8 0), (.int .u8 0), (.int .u8 0), (.int .u8 0), (.int .u8 0), (.int .u8 0), (.int .u8 0), (.int .u8 0)]) := ⟨by kernel_rfl⟩
instance ul_172 : Ul prog 172 (.array 32 5) := ⟨by kernel_rfl⟩
instance aggC_173 : AggC prog 173 64 := ⟨fun w => by kernel_rfl, by kernel_rfl⟩
instance zeroC_173 : ZeroC prog 173 (.agg #[(.int .u8 0), (.int .u8 0), (.int .u8 0), (.int .u8 0), (.int .u8 0), (.int .u8 0), (.int .u8 0), (.int .u8 0), (.int .u8 0), (.int .u8 0), (.int .u8 0), (.int .u8 0), (.int .u8 0), (.int .u8 0), (.int .u8 0), (.int .u8 0), (.int .u8 0), (.int .u8 0), (.int .u8 0), (.int .u8 0), (.int .u8 0), (.int .u8 0), (.int .u8 0), (.int .u8 0), (.int .u8 0), (.int .u8 0), (.int .u8 0), (.int .u8 0), (.int .u8 0), (.int .u8 0), (.int .u8 0), (.int .u8 0), (.int .u8 0), (.int .u8 0), (.int .u8 0), (.int .u8 0), (.int .u8 0), (.int .u8 0), (.int .u8 0), (.int .u8 0), (.int .u8 0), (.int .u8 0), (.int .u8 0), (.int .u8 0), (.int .u8 0), (.int .u8 0), (.int .u8 0), (.int .u8 0), (.int .u8 0), (.int .u8 0), (.int .u8 0), (.int .u8 0), (.int .u8 0), (.int .u8 0), (.int .u8 0), (.int .u8 0), (.int .u8 0), (.int .u8 0), (.int .u8 0), (.int .u8 0), (.int .u8 0), (.int .u8 0), (.int .u8 0), (.int .u8 0)]) := ⟨by kernel_rfl⟩
instance ul_173 : Ul prog 173 (.array 64 5) := ⟨by kernel_rfl⟩
instance aggC_175 : AggC prog 175 4 := ⟨fun w => by kernel_rfl, by kernel_rfl⟩
instance zeroC_175 : ZeroC prog 175 (.agg #[(.pointer none), (.pointer none), (.pointer none), (.string ⟨#[]⟩)]) := ⟨by kernel_rfl⟩
instance fld_175_0 : FldOff prog 175 0 0 := ⟨fun b o w => by kernel_rfl⟩
instance fld_175_1 : FldOff prog 175 1 1 := ⟨fun b o w => by kernel_rfl⟩
instance fld_175_2 : FldOff prog 175 2 2 := ⟨fun b o w => by kernel_rfl⟩
instance fld_175_3 : FldOff prog 175 3 3 := ⟨fun b o w => by kernel_rfl⟩
instance aggC_176 : AggC prog 176 4 := ⟨fun w => by kernel_rfl, by kernel_rfl⟩
instance zeroC_176 : ZeroC prog 176 (.agg #[(.pointer none), (.pointer none), (.pointer none), (.string ⟨#[]⟩)]) := ⟨by kernel_rfl⟩
instance fld_176_0 : FldOff prog 176 0 0 := ⟨fun b o w => by kernel_rfl⟩
instance fld_176_1 : FldOff prog 176 1 1 := ⟨fun b o w => by kernel_rfl⟩
instance fld_176_2 : FldOff prog 176 2 2 := ⟨fun b o w => by kernel_rfl⟩
instance fld_176_3 : FldOff prog 176 3 3 := ⟨fun b o w => by kernel_rfl⟩
instance aggC_177 : AggC prog 177 0 := ⟨fun w => by kernel_rfl, by kernel_rfl⟩
instance zeroC_177 : ZeroC prog 177 (.agg #[]) := ⟨by kernel_rfl⟩
instance ul_177 : Ul prog 177 (.array 0 16) := ⟨by kernel_rfl⟩
instance aggC_178 : AggC prog 178 0 := ⟨fun w => by kernel_rfl, by kernel_rfl⟩
instance zeroC_178 : ZeroC prog 178 (.agg #[]) := ⟨by kernel_rfl⟩
instance aggC_179 : AggC prog 179 0 := ⟨fun w => by kernel_rfl, by kernel_rfl⟩
instance zeroC_179 : ZeroC prog 179 (.agg #[]) := ⟨by kernel_rfl⟩
instance oneC_181 : OneC prog 181 := ⟨fun w => by kernel_rfl, by kernel_rfl⟩
instance zeroC_181 : ZeroC prog 181 (.int .u8 0) := ⟨by kernel_rfl⟩
instance ul_181 : Ul prog 181 (.int .u8) := ⟨by kernel_rfl⟩
instance oneC_182 : OneC prog 182 := ⟨fun w => by kernel_rfl, by kernel_rfl⟩
instance zeroC_182 : ZeroC prog 182 (.int .u8 0) := ⟨by kernel_rfl⟩
instance ul_182 : Ul prog 182 (.int .u8) := ⟨by kernel_rfl⟩
instance oneC_184 : OneC prog 184 := ⟨fun w => by kernel_rfl, by kernel_rfl⟩
instance zeroC_184 : ZeroC prog 184 (.pointer none) := ⟨by kernel_rfl⟩
instance ul_184 : Ul prog 184 (.pointer 5) := ⟨by kernel_rfl⟩
instance oneC_185 : OneC prog 185 := ⟨fun w => by kernel_rfl, by kernel_rfl⟩
instance zeroC_185 : ZeroC prog 185 (.int .i32 0) := ⟨by kernel_rfl⟩
instance ul_185 : Ul prog 185 (.int .i32) := ⟨by kernel_rfl⟩
instance oneC_186 : OneC prog 186 := ⟨fun w => by kernel_rfl, by kernel_rfl⟩
instance zeroC_186 : ZeroC prog 186 (.int .i32 0) := ⟨by kernel_rfl⟩
instance ul_186 : Ul prog 186 (.int .i32) := ⟨by kernel_rfl⟩
instance aggC_187 : AggC prog 187 11 := ⟨fun w => by kernel_rfl, by kernel_rfl⟩
instance zeroC_187 : ZeroC prog 187 (.agg #[(.int .u64 0), (.int .u64 0), (.int .u32 0), (.int .u8 0), (.int .u8 0), (.int .u8 0), (.int .u8 0), .nilFunc, (.pointer none), (.int .i32 0), (.int .i32 0)]) := ⟨by kernel_rfl⟩
instance fld_187_0 : FldOff prog 187 0 0 := ⟨fun b o w => by kernel_rfl⟩
instance fld_187_1 : FldOff prog 187 1 1 := ⟨fun b o w => by kernel_rfl⟩
instance fld_187_2 : FldOff prog 187 2 2 := ⟨fun b o w => by kernel_rfl⟩
instance fld_187_3 : FldOff prog 187 3 3 := ⟨fun b o w => by kernel_rfl⟩
instance fld_187_4 : FldOff prog 187 4 4 := ⟨fun b o w => by kernel_rfl⟩
instance fld_187_5 : FldOff prog 187 5 5 := ⟨fun b o w => by kernel_rfl⟩
instance fld_187_6 : FldOff prog 187 6 6 := ⟨fun b o w => by kernel_rfl⟩
instance fld_187_7 : FldOff prog 187 7 7 := ⟨fun b o w => by kernel_rfl⟩
instance fld_187_8 : FldOff prog 187 8 8 := ⟨fun b o w => by kernel_rfl⟩
instance fld_187_9 : FldOff prog 187 9 9 := ⟨fun b o w => by kernel_rfl⟩
instance fld_187_10 : FldOff prog 187 10 10 := ⟨fun b o w => by kernel_rfl⟩
instance aggC_188 : AggC prog 188 11 := ⟨fun w => by kernel_rfl, by kernel_rfl⟩
instance zeroC_188 : ZeroC prog 188 (.agg #[(.int .u64 0), (.int .u64 0), (.int .u32 0), (.int .u8 0), (.int .u8 0), (.int .u8 0), (.int .u8 0), .nilFunc, (.pointer none), (.int .i32 0), (.int .i32 0)]) := ⟨by kernel_rfl⟩
instance fld_188_0 : FldOff prog 188 0 0 := ⟨fun b o w => by kernel_rfl⟩
instance fld_188_1 : FldOff prog 188 1 1 := ⟨fun b o w => by kernel_rfl⟩
instance fld_188_2 : FldOff prog 188 2 2 := ⟨fun b o w => by kernel_rfl⟩
instance fld_188_3 : FldOff prog 188 3 3 := ⟨fun b o w => by kernel_rfl⟩
instance fld_188_4 : FldOff prog 188 4 4 := ⟨fun b o w => by kernel_rfl⟩
instance fld_188_5 : FldOff prog 188 5 5 := ⟨fun b o w => by kernel_rfl⟩
instance fld_188_6 : FldOff prog 188 6 6 := ⟨fun b o w => by kernel_rfl⟩
instance fld_188_7 : FldOff prog 188 7 7 := ⟨fun b o w => by kernel_rfl⟩
instance fld_188_8 : FldOff prog 188 8 8 := ⟨fun b o w => by kernel_rfl⟩
instance fld_188_9 : FldOff prog 188 9 9 := ⟨fun b o w => by kernel_rfl⟩
instance fld_188_10 : FldOff prog 188 10 10 := ⟨fun b o w => by kernel_rfl⟩
instance oneC_189 : OneC prog 189 := ⟨fun w => by kernel_rfl, by kernel_rfl⟩
instance zeroC_189 : ZeroC prog 189 (.pointer none) := ⟨by kernel_rfl⟩

end Go.Proofs.YtbcimkjgpplcpaaGreatDoor
