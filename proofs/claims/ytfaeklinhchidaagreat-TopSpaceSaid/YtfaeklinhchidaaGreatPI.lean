import Derived.Test.YtfaeklinhchidaaGreatProg
import Derived.Test.YtfaeklinhchidaaGreatStrs
import Derived.KernelRfl
set_option linter.all false
set_option maxRecDepth 100000
namespace Go.Proofs.YtfaeklinhchidaaGreat
open Go Hold
noncomputable abbrev prog : Program := Tryz.prog
instance oneC_2 : OneC prog 2 := ⟨fun w => by kernel_rfl, by kernel_rfl⟩
instance zeroC_2 : ZeroC prog 2 (.int .i64 0) := ⟨by kernel_rfl⟩
instance ul_2 : Ul prog 2 (.int .i64) := ⟨by kernel_rfl⟩
instance oneC_3 : OneC prog 3 := ⟨fun w => by kernel_rfl, by kernel_rfl⟩
instance zeroC_3 : ZeroC prog 3 (.int .i64 0) := ⟨by kernel_rfl⟩
instance ul_3 : Ul prog 3 (.int .i64) := ⟨by kernel_rfl⟩
instance oneC_4 : OneC prog 4 := ⟨fun w => by kernel_rfl, by kernel_rfl⟩
instance zeroC_4 : ZeroC prog 4 (.bool false) := ⟨by kernel_rfl⟩
instance ul_4 : Ul prog 4 .bool := ⟨by kernel_rfl⟩
instance oneC_5 : OneC prog 5 := ⟨fun w => by kernel_rfl, by kernel_rfl⟩
instance zeroC_5 : ZeroC prog 5 (.int .u8 0) := ⟨by kernel_rfl⟩
instance ul_5 : Ul prog 5 (.int .u8) := ⟨by kernel_rfl⟩
instance oneC_6 : OneC prog 6 := ⟨fun w => by kernel_rfl, by kernel_rfl⟩
instance zeroC_6 : ZeroC prog 6 (.int .u8 0) := ⟨by kernel_rfl⟩
instance ul_6 : Ul prog 6 (.int .u8) := ⟨by kernel_rfl⟩
instance aggC_7 : AggC prog 7 4 := ⟨fun w => by kernel_rfl, by kernel_rfl⟩
instance zeroC_7 : ZeroC prog 7 (.agg #[(.int .i64 0), (.int .i64 0), (.bool false), (.int .u8 0)]) := ⟨by kernel_rfl⟩
instance fld_7_0 : FldOff prog 7 0 0 := ⟨fun b o w => by kernel_rfl⟩
instance fld_7_1 : FldOff prog 7 1 1 := ⟨fun b o w => by kernel_rfl⟩
instance fld_7_2 : FldOff prog 7 2 2 := ⟨fun b o w => by kernel_rfl⟩
instance fld_7_3 : FldOff prog 7 3 3 := ⟨fun b o w => by kernel_rfl⟩
instance aggC_8 : AggC prog 8 4 := ⟨fun w => by kernel_rfl, by kernel_rfl⟩
instance zeroC_8 : ZeroC prog 8 (.agg #[(.int .i64 0), (.int .i64 0), (.bool false), (.int .u8 0)]) := ⟨by kernel_rfl⟩
instance fld_8_0 : FldOff prog 8 0 0 := ⟨fun b o w => by kernel_rfl⟩
instance fld_8_1 : FldOff prog 8 1 1 := ⟨fun b o w => by kernel_rfl⟩
instance fld_8_2 : FldOff prog 8 2 2 := ⟨fun b o w => by kernel_rfl⟩
instance fld_8_3 : FldOff prog 8 3 3 := ⟨fun b o w => by kernel_rfl⟩
instance oneC_9 : OneC prog 9 := ⟨fun w => by kernel_rfl, by kernel_rfl⟩
instance zeroC_9 : ZeroC prog 9 (.string ⟨#[]⟩) := ⟨by kernel_rfl⟩
instance ul_9 : Ul prog 9 .string := ⟨by kernel_rfl⟩
instance oneC_10 : OneC prog 10 := ⟨fun w => by kernel_rfl, by kernel_rfl⟩
instance zeroC_10 : ZeroC prog 10 (.string ⟨#[]⟩) := ⟨by kernel_rfl⟩
instance ul_10 : Ul prog 10 .string := ⟨by kernel_rfl⟩
instance oneC_11 : OneC prog 11 := ⟨fun w => by kernel_rfl, by kernel_rfl⟩
instance zeroC_11 : ZeroC prog 11 (.string ⟨#[]⟩) := ⟨by kernel_rfl⟩
instance ul_11 : Ul prog 11 .string := ⟨by kernel_rfl⟩
instance oneC_12 : OneC prog 12 := ⟨fun w => by kernel_rfl, by kernel_rfl⟩
instance zeroC_12 : ZeroC prog 12 (.int .u64 0) := ⟨by kernel_rfl⟩
instance ul_12 : Ul prog 12 (.int .u64) := ⟨by kernel_rfl⟩
instance aggC_13 : AggC prog 13 2 := ⟨fun w => by kernel_rfl, by kernel_rfl⟩
instance zeroC_13 : ZeroC prog 13 (.agg #[(.string ⟨#[]⟩), (.int .u64 0)]) := ⟨by kernel_rfl⟩
instance fld_13_0 : FldOff prog 13 0 0 := ⟨fun b o w => by kernel_rfl⟩
instance fld_13_1 : FldOff prog 13 1 1 := ⟨fun b o w => by kernel_rfl⟩
instance aggC_14 : AggC prog 14 2 := ⟨fun w => by kernel_rfl, by kernel_rfl⟩
instance zeroC_14 : ZeroC prog 14 (.agg #[(.string ⟨#[]⟩), (.int .u64 0)]) := ⟨by kernel_rfl⟩
instance fld_14_0 : FldOff prog 14 0 0 := ⟨fun b o w => by kernel_rfl⟩
instance fld_14_1 : FldOff prog 14 1 1 := ⟨fun b o w => by kernel_rfl⟩
instance oneC_15 : OneC prog 15 := ⟨fun w => by kernel_rfl, by kernel_rfl⟩
instance zeroC_15 : ZeroC prog 15 (.pointer none) := ⟨by kernel_rfl⟩
instance ul_15 : Ul prog 15 (.pointer 211) := ⟨by kernel_rfl⟩
instance oneC_16 : OneC prog 16 := ⟨fun w => by kernel_rfl, by kernel_rfl⟩
instance zeroC_16 : ZeroC prog 16 (.pointer none) := ⟨by kernel_rfl⟩
instance ul_16 : Ul prog 16 (.pointer 214) := ⟨by kernel_rfl⟩
instance oneC_17 : OneC prog 17 := ⟨fun w => by kernel_rfl, by kernel_rfl⟩
instance zeroC_17 : ZeroC prog 17 (.pointer none) := ⟨by kernel_rfl⟩
instance ul_17 : Ul prog 17 (.pointer 222) := ⟨by kernel_rfl⟩
instance aggC_18 : AggC prog 18 1 := ⟨fun w => by kernel_rfl, by kernel_rfl⟩
instance zeroC_18 : ZeroC prog 18 (.agg #[(.pointer none)]) := ⟨by kernel_rfl⟩
instance fld_18_0 : FldOff prog 18 0 0 := ⟨fun b o w => by kernel_rfl⟩
instance aggC_19 : AggC prog 19 1 := ⟨fun w => by kernel_rfl, by kernel_rfl⟩
instance zeroC_19 : ZeroC prog 19 (.agg #[(.pointer none)]) := ⟨by kernel_rfl⟩
instance fld_19_0 : FldOff prog 19 0 0 := ⟨fun b o w => by kernel_rfl⟩
instance oneC_20 : OneC prog 20 := ⟨fun w => by kernel_rfl, by kernel_rfl⟩
instance zeroC_20 : ZeroC prog 20 .nilIface := ⟨by kernel_rfl⟩
instance oneC_21 : OneC prog 21 := ⟨fun w => by kernel_rfl, by kernel_rfl⟩
instance zeroC_21 : ZeroC prog 21 (.int .i32 0) := ⟨by kernel_rfl⟩
instance ul_21 : Ul prog 21 (.int .i32) := ⟨by kernel_rfl⟩
instance oneC_22 : OneC prog 22 := ⟨fun w => by kernel_rfl, by kernel_rfl⟩
instance zeroC_22 : ZeroC prog 22 (.slice none 0 0) := ⟨by kernel_rfl⟩
instance sliceT_22 : SliceT prog 22 5 1 1 (.int .u8 0) := ⟨by kernel_rfl, by kernel_rfl, rfl, by decide⟩
instance ul_22 : Ul prog 22 (.slice 5) := ⟨by kernel_rfl⟩
instance oneC_23 : OneC prog 23 := ⟨fun w => by kernel_rfl, by kernel_rfl⟩
instance zeroC_23 : ZeroC prog 23 (.pointer none) := ⟨by kernel_rfl⟩
instance ul_23 : Ul prog 23 (.pointer 73) := ⟨by kernel_rfl⟩
instance oneC_24 : OneC prog 24 := ⟨fun w => by kernel_rfl, by kernel_rfl⟩
instance zeroC_24 : ZeroC prog 24 (.int .i64 0) := ⟨by kernel_rfl⟩
instance ul_24 : Ul prog 24 (.int .i64) := ⟨by kernel_rfl⟩
instance oneC_29 : OneC prog 29 := ⟨fun w => by kernel_rfl, by kernel_rfl⟩
instance zeroC_29 : ZeroC prog 29 (.slice none 0 0) := ⟨by kernel_rfl⟩
instance sliceT_29 : SliceT prog 29 3 1 8 (.int .i64 0) := ⟨by kernel_rfl, by kernel_rfl, rfl, by decide⟩
instance ul_29 : Ul prog 29 (.slice 3) := ⟨by kernel_rfl⟩
instance aggC_30 : AggC prog 30 5 := ⟨fun w => by kernel_rfl, by kernel_rfl⟩
instance zeroC_30 : ZeroC prog 30 (.agg #[(.int .i64 0), (.slice none 0 0), (.slice none 0 0), (.slice none 0 0), (.int .i64 0)]) := ⟨by kernel_rfl⟩
instance fld_30_0 : FldOff prog 30 0 0 := ⟨fun b o w => by kernel_rfl⟩
instance fld_30_1 : FldOff prog 30 1 1 := ⟨fun b o w => by kernel_rfl⟩
instance fld_30_2 : FldOff prog 30 2 2 := ⟨fun b o w => by kernel_rfl⟩
instance fld_30_3 : FldOff prog 30 3 3 := ⟨fun b o w => by kernel_rfl⟩
instance fld_30_4 : FldOff prog 30 4 4 := ⟨fun b o w => by kernel_rfl⟩
instance aggC_31 : AggC prog 31 5 := ⟨fun w => by kernel_rfl, by kernel_rfl⟩
instance zeroC_31 : ZeroC prog 31 (.agg #[(.int .i64 0), (.slice none 0 0), (.slice none 0 0), (.slice none 0 0), (.int .i64 0)]) := ⟨by kernel_rfl⟩
instance fld_31_0 : FldOff prog 31 0 0 := ⟨fun b o w => by kernel_rfl⟩
instance fld_31_1 : FldOff prog 31 1 1 := ⟨fun b o w => by kernel_rfl⟩
instance fld_31_2 : FldOff prog 31 2 2 := ⟨fun b o w => by kernel_rfl⟩
instance fld_31_3 : FldOff prog 31 3 3 := ⟨fun b o w => by kernel_rfl⟩
instance fld_31_4 : FldOff prog 31 4 4 := ⟨fun b o w => by kernel_rfl⟩
instance oneC_36 : OneC prog 36 := ⟨fun w => by kernel_rfl, by kernel_rfl⟩
instance zeroC_36 : ZeroC prog 36 (.slice none 0 0) := ⟨by kernel_rfl⟩
instance sliceT_36 : SliceT prog 36 22 1 24 (.slice none 0 0) := ⟨by kernel_rfl, by kernel_rfl, rfl, by decide⟩
instance ul_36 : Ul prog 36 (.slice 22) := ⟨by kernel_rfl⟩
instance aggC_37 : AggC prog 37 32 := ⟨fun w => by kernel_rfl, by kernel_rfl⟩
instance zeroC_37 : ZeroC prog 37 (.agg #[(.int .u8 0), (.int .u8 0), (.int .u8 0), (.int .u8 0), (.int .u8 0), (.int .u8 0), (.int .u8 0), (.int .u8 0), (.int .u8 0), (.int .u8 0), (.int .u8 0), (.int .u8 0), (.int .u8 0), (.int .u8 0), (.int .u8 0), (.int .u8 0), (.int .u8 0), (.int .u8 0), (.int .u8 0), (.int .u8 0), (.int .u8 0), (.int .u8 0), (.int .u8 0), (.int .u8 0), (.int .u8 0), (.int .u8 0), (.int .u8 0), (.int .u8 0), (.int .u8 0), (.int .u8 0), (.int .u8 0), (.int .u8 0)]) := ⟨by kernel_rfl⟩
instance ul_37 : Ul prog 37 (.array 32 5) := ⟨by kernel_rfl⟩
instance aggC_38 : AggC prog 38 32 := ⟨fun w => by kernel_rfl, by kernel_rfl⟩
instance zeroC_38 : ZeroC prog 38 (.agg #[(.int .u8 0), (.int .u8 0), (.int .u8 0), (.int .u8 0), (.int .u8 0), (.int .u8 0), (.int .u8 0), (.int .u8 0), (.int .u8 0), (.int .u8 0), (.int .u8 0), (.int .u8 0), (.int .u8 0), (.int .u8 0), (.int .u8 0), (.int .u8 0), (.int .u8 0), (.int .u8 0), (.int .u8 0), (.int .u8 0), (.int .u8 0), (.int .u8 0), (.int .u8 0), (.int .u8 0), (.int .u8 0), (.int .u8 0), (.int .u8 0), (.int .u8 0), (.int .u8 0), (.int .u8 0), (.int .u8 0), (.int .u8 0)]) := ⟨by kernel_rfl⟩
instance ul_38 : Ul prog 38 (.array 32 5) := ⟨by kernel_rfl⟩
instance oneC_43 : OneC prog 43 := ⟨fun w => by kernel_rfl, by kernel_rfl⟩
instance zeroC_43 : ZeroC prog 43 (.slice none 0 0) := ⟨by kernel_rfl⟩
instance sliceT_43 : SliceT prog 43 47 2 48 (.agg #[(.slice none 0 0), (.slice none 0 0)]) := ⟨by kernel_rfl, by kernel_rfl, rfl, by decide⟩
instance ul_43 : Ul prog 43 (.slice 47) := ⟨by kernel_rfl⟩
instance aggC_46 : AggC prog 46 2 := ⟨fun w => by kernel_rfl, by kernel_rfl⟩
instance zeroC_46 : ZeroC prog 46 (.agg #[(.slice none 0 0), (.slice none 0 0)]) := ⟨by kernel_rfl⟩
instance fld_46_0 : FldOff prog 46 0 0 := ⟨fun b o w => by kernel_rfl⟩
instance fld_46_1 : FldOff prog 46 1 1 := ⟨fun b o w => by kernel_rfl⟩
instance aggC_47 : AggC prog 47 2 := ⟨fun w => by kernel_rfl, by kernel_rfl⟩
instance zeroC_47 : ZeroC prog 47 (.agg #[(.slice none 0 0), (.slice none 0 0)]) := ⟨by kernel_rfl⟩
instance fld_47_0 : FldOff prog 47 0 0 := ⟨fun b o w => by kernel_rfl⟩
instance fld_47_1 : FldOff prog 47 1 1 := ⟨fun b o w => by kernel_rfl⟩
instance oneC_49 : OneC prog 49 := ⟨fun w => by kernel_rfl, by kernel_rfl⟩
instance zeroC_49 : ZeroC prog 49 (.pointer none) := ⟨by kernel_rfl⟩
instance ul_49 : Ul prog 49 (.pointer 107) := ⟨by kernel_rfl⟩
instance oneC_52 : OneC prog 52 := ⟨fun w => by kernel_rfl, by kernel_rfl⟩
instance zeroC_52 : ZeroC prog 52 (.pointer none) := ⟨by kernel_rfl⟩
instance ul_52 : Ul prog 52 (.pointer 114) := ⟨by kernel_rfl⟩
instance oneC_55 : OneC prog 55 := ⟨fun w => by kernel_rfl, by kernel_rfl⟩
instance zeroC_55 : ZeroC prog 55 (.pointer none) := ⟨by kernel_rfl⟩
instance ul_55 : Ul prog 55 (.pointer 119) := ⟨by kernel_rfl⟩
instance oneC_61 : OneC prog 61 := ⟨fun w => by kernel_rfl, by kernel_rfl⟩
instance zeroC_61 : ZeroC prog 61 (.slice none 0 0) := ⟨by kernel_rfl⟩
instance sliceT_61 : SliceT prog 61 67 3 56 (.agg #[(.slice none 0 0), (.slice none 0 0), (.int .i64 0)]) := ⟨by kernel_rfl, by kernel_rfl, rfl, by decide⟩
instance ul_61 : Ul prog 61 (.slice 67) := ⟨by kernel_rfl⟩
instance aggC_62 : AggC prog 62 2 := ⟨fun w => by kernel_rfl, by kernel_rfl⟩
instance zeroC_62 : ZeroC prog 62 (.agg #[(.bool false), (.slice none 0 0)]) := ⟨by kernel_rfl⟩
instance fld_62_0 : FldOff prog 62 0 0 := ⟨fun b o w => by kernel_rfl⟩
instance fld_62_1 : FldOff prog 62 1 1 := ⟨fun b o w => by kernel_rfl⟩
instance aggC_63 : AggC prog 63 2 := ⟨fun w => by kernel_rfl, by kernel_rfl⟩
instance zeroC_63 : ZeroC prog 63 (.agg #[(.bool false), (.slice none 0 0)]) := ⟨by kernel_rfl⟩
instance fld_63_0 : FldOff prog 63 0 0 := ⟨fun b o w => by kernel_rfl⟩
instance fld_63_1 : FldOff prog 63 1 1 := ⟨fun b o w => by kernel_rfl⟩
instance aggC_66 : AggC prog 66 3 := ⟨fun w => by kernel_rfl, by kernel_rfl⟩
instance zeroC_66 : ZeroC prog 66 (.agg #[(.slice none 0 0), (.slice none 0 0), (.int .i64 0)]) := ⟨by kernel_rfl⟩
instance fld_66_0 : FldOff prog 66 0 0 := ⟨fun b o w => by kernel_rfl⟩
instance fld_66_1 : FldOff prog 66 1 1 := ⟨fun b o w => by kernel_rfl⟩
instance fld_66_2 : FldOff prog 66 2 2 := ⟨fun b o w => by kernel_rfl⟩
instance aggC_67 : AggC prog 67 3 := ⟨fun w => by kernel_rfl, by kernel_rfl⟩
instance zeroC_67 : ZeroC prog 67 (.agg #[(.slice none 0 0), (.slice none 0 0), (.int .i64 0)]) := ⟨by kernel_rfl⟩
instance fld_67_0 : FldOff prog 67 0 0 := ⟨fun b o w => by kernel_rfl⟩
instance fld_67_1 : FldOff prog 67 1 1 := ⟨fun b o w => by kernel_rfl⟩
instance fld_67_2 : FldOff prog 67 2 2 := ⟨fun b o w => by kernel_rfl⟩
instance aggC_70 : AggC prog 70 3 := ⟨fun w => by kernel_rfl, by kernel_rfl⟩
instance zeroC_70 : ZeroC prog 70 (.agg #[(.int .i64 0), (.int .i64 0), (.int .i64 0)]) := ⟨by kernel_rfl⟩
instance fld_70_0 : FldOff prog 70 0 0 := ⟨fun b o w => by kernel_rfl⟩
instance fld_70_1 : FldOff prog 70 1 1 := ⟨fun b o w => by kernel_rfl⟩
instance fld_70_2 : FldOff prog 70 2 2 := ⟨fun b o w => by kernel_rfl⟩
instance aggC_71 : AggC prog 71 3 := ⟨fun w => by kernel_rfl, by kernel_rfl⟩
instance zeroC_71 : ZeroC prog 71 (.agg #[(.int .i64 0), (.int .i64 0), (.int .i64 0)]) := ⟨by kernel_rfl⟩
instance fld_71_0 : FldOff prog 71 0 0 := ⟨fun b o w => by kernel_rfl⟩
instance fld_71_1 : FldOff prog 71 1 1 := ⟨fun b o w => by kernel_rfl⟩
instance fld_71_2 : FldOff prog 71 2 2 := ⟨fun b o w => by kernel_rfl⟩
instance aggC_72 : AggC prog 72 4 := ⟨fun w => by kernel_rfl, by kernel_rfl⟩
instance zeroC_72 : ZeroC prog 72 (.agg #[(.int .i64 0), (.int .i64 0), (.int .i64 0), (.pointer none)]) := ⟨by kernel_rfl⟩
instance fld_72_0 : FldOff prog 72 0 0 := ⟨fun b o w => by kernel_rfl⟩
instance fld_72_1 : FldOff prog 72 1 3 := ⟨fun b o w => by kernel_rfl⟩
instance aggC_73 : AggC prog 73 4 := ⟨fun w => by kernel_rfl, by kernel_rfl⟩
instance zeroC_73 : ZeroC prog 73 (.agg #[(.int .i64 0), (.int .i64 0), (.int .i64 0), (.pointer none)]) := ⟨by kernel_rfl⟩
instance fld_73_0 : FldOff prog 73 0 0 := ⟨fun b o w => by kernel_rfl⟩
instance fld_73_1 : FldOff prog 73 1 3 := ⟨fun b o w => by kernel_rfl⟩
instance aggC_74 : AggC prog 74 1 := ⟨fun w => by kernel_rfl, by kernel_rfl⟩
instance zeroC_74 : ZeroC prog 74 (.agg #[(.int .i64 0)]) := ⟨by kernel_rfl⟩
instance fld_74_0 : FldOff prog 74 0 0 := ⟨fun b o w => by kernel_rfl⟩
instance aggC_75 : AggC prog 75 1 := ⟨fun w => by kernel_rfl, by kernel_rfl⟩
instance zeroC_75 : ZeroC prog 75 (.agg #[(.int .i64 0)]) := ⟨by kernel_rfl⟩
instance fld_75_0 : FldOff prog 75 0 0 := ⟨fun b o w => by kernel_rfl⟩
instance oneC_76 : OneC prog 76 := ⟨fun w => by kernel_rfl, by kernel_rfl⟩
instance zeroC_76 : ZeroC prog 76 (.map none) := ⟨by kernel_rfl⟩
instance ul_76 : Ul prog 76 (.map 3 4) := ⟨by kernel_rfl⟩
instance oneC_78 : OneC prog 78 := ⟨fun w => by kernel_rfl, by kernel_rfl⟩
instance zeroC_78 : ZeroC prog 78 (.pointer none) := ⟨by kernel_rfl⟩
instance ul_78 : Ul prog 78 (.pointer 31) := ⟨by kernel_rfl⟩
instance oneC_79 : OneC prog 79 := ⟨fun w => by kernel_rfl, by kernel_rfl⟩
instance zeroC_79 : ZeroC prog 79 (.pointer none) := ⟨by kernel_rfl⟩
instance ul_79 : Ul prog 79 (.pointer 22) := ⟨by kernel_rfl⟩
instance oneC_81 : OneC prog 81 := ⟨fun w => by kernel_rfl, by kernel_rfl⟩
instance zeroC_81 : ZeroC prog 81 (.int .u64 0) := ⟨by kernel_rfl⟩
instance ul_81 : Ul prog 81 (.int .u64) := ⟨by kernel_rfl⟩
instance oneC_88 : OneC prog 88 := ⟨fun w => by kernel_rfl, by kernel_rfl⟩
instance zeroC_88 : ZeroC prog 88 (.int .u32 0) := ⟨by kernel_rfl⟩
instance ul_88 : Ul prog 88 (.int .u32) := ⟨by kernel_rfl⟩
instance aggC_89 : AggC prog 89 8 := ⟨fun w => by kernel_rfl, by kernel_rfl⟩
instance zeroC_89 : ZeroC prog 89 (.agg #[(.int .u32 0), (.int .u32 0), (.int .u32 0), (.int .u32 0), (.int .u32 0), (.int .u32 0), (.int .u32 0), (.int .u32 0)]) := ⟨by kernel_rfl⟩
instance ul_89 : Ul prog 89 (.array 8 88) := ⟨by kernel_rfl⟩
instance aggC_90 : AggC prog 90 8 := ⟨fun w => by kernel_rfl, by kernel_rfl⟩
instance zeroC_90 : ZeroC prog 90 (.agg #[(.int .u32 0), (.int .u32 0), (.int .u32 0), (.int .u32 0), (.int .u32 0), (.int .u32 0), (.int .u32 0), (.int .u32 0)]) := ⟨by kernel_rfl⟩
instance ul_90 : Ul prog 90 (.array 8 88) := ⟨by kernel_rfl⟩
instance oneC_91 : OneC prog 91 := ⟨fun w => by kernel_rfl, by kernel_rfl⟩
instance zeroC_91 : ZeroC prog 91 (.pointer none) := ⟨by kernel_rfl⟩
instance ul_91 : Ul prog 91 (.pointer 143) := ⟨by kernel_rfl⟩
instance oneC_93 : OneC prog 93 := ⟨fun w => by kernel_rfl, by kernel_rfl⟩
instance zeroC_93 : ZeroC prog 93 (.int .u64 0) := ⟨by kernel_rfl⟩
instance ul_93 : Ul prog 93 (.int .u64) := ⟨by kernel_rfl⟩
instance oneC_100 : OneC prog 100 := ⟨fun w => by kernel_rfl, by kernel_rfl⟩
instance zeroC_100 : ZeroC prog 100 (.slice none 0 0) := ⟨by kernel_rfl⟩
instance sliceT_100 : SliceT prog 100 190 2 32 (.agg #[(.int .i64 0), (.slice none 0 0)]) := ⟨by kernel_rfl, by kernel_rfl, rfl, by decide⟩
instance ul_100 : Ul prog 100 (.slice 190) := ⟨by kernel_rfl⟩
instance aggC_101 : AggC prog 101 0 := ⟨fun w => by kernel_rfl, by kernel_rfl⟩
instance zeroC_101 : ZeroC prog 101 (.agg #[]) := ⟨by kernel_rfl⟩
instance aggC_102 : AggC prog 102 0 := ⟨fun w => by kernel_rfl, by kernel_rfl⟩
instance zeroC_102 : ZeroC prog 102 (.agg #[]) := ⟨by kernel_rfl⟩
instance aggC_103 : AggC prog 103 0 := ⟨fun w => by kernel_rfl, by kernel_rfl⟩
instance zeroC_103 : ZeroC prog 103 (.agg #[]) := ⟨by kernel_rfl⟩
instance aggC_104 : AggC prog 104 1 := ⟨fun w => by kernel_rfl, by kernel_rfl⟩
instance zeroC_104 : ZeroC prog 104 (.agg #[(.int .i64 0)]) := ⟨by kernel_rfl⟩
instance fld_104_2 : FldOff prog 104 2 0 := ⟨fun b o w => by kernel_rfl⟩
instance aggC_105 : AggC prog 105 1 := ⟨fun w => by kernel_rfl, by kernel_rfl⟩
instance zeroC_105 : ZeroC prog 105 (.agg #[(.int .i64 0)]) := ⟨by kernel_rfl⟩
instance fld_105_2 : FldOff prog 105 2 0 := ⟨fun b o w => by kernel_rfl⟩
instance aggC_106 : AggC prog 106 3 := ⟨fun w => by kernel_rfl, by kernel_rfl⟩
instance zeroC_106 : ZeroC prog 106 (.agg #[(.slice none 0 0), (.slice none 0 0), (.int .i64 0)]) := ⟨by kernel_rfl⟩
instance fld_106_0 : FldOff prog 106 0 0 := ⟨fun b o w => by kernel_rfl⟩
instance fld_106_1 : FldOff prog 106 1 1 := ⟨fun b o w => by kernel_rfl⟩
instance fld_106_2 : FldOff prog 106 2 2 := ⟨fun b o w => by kernel_rfl⟩
instance aggC_107 : AggC prog 107 3 := ⟨fun w => by kernel_rfl, by kernel_rfl⟩
instance zeroC_107 : ZeroC prog 107 (.agg #[(.slice none 0 0), (.slice none 0 0), (.int .i64 0)]) := ⟨by kernel_rfl⟩
instance fld_107_0 : FldOff prog 107 0 0 := ⟨fun b o w => by kernel_rfl⟩
instance fld_107_1 : FldOff prog 107 1 1 := ⟨fun b o w => by kernel_rfl⟩
instance fld_107_2 : FldOff prog 107 2 2 := ⟨fun b o w => by kernel_rfl⟩
instance aggC_110 : AggC prog 110 1 := ⟨fun w => by kernel_rfl, by kernel_rfl⟩
instance zeroC_110 : ZeroC prog 110 (.agg #[(.pointer none)]) := ⟨by kernel_rfl⟩
instance fld_110_0 : FldOff prog 110 0 0 := ⟨fun b o w => by kernel_rfl⟩
instance aggC_111 : AggC prog 111 1 := ⟨fun w => by kernel_rfl, by kernel_rfl⟩
instance zeroC_111 : ZeroC prog 111 (.agg #[(.pointer none)]) := ⟨by kernel_rfl⟩
instance fld_111_0 : FldOff prog 111 0 0 := ⟨fun b o w => by kernel_rfl⟩
instance oneC_112 : OneC prog 112 := ⟨fun w => by kernel_rfl, by kernel_rfl⟩
instance zeroC_112 : ZeroC prog 112 (.map none) := ⟨by kernel_rfl⟩
instance ul_112 : Ul prog 112 (.map 3 3) := ⟨by kernel_rfl⟩
instance aggC_113 : AggC prog 113 5 := ⟨fun w => by kernel_rfl, by kernel_rfl⟩
instance zeroC_113 : ZeroC prog 113 (.agg #[(.pointer none), (.int .i64 0), (.int .i64 0), (.int .i64 0), (.map none)]) := ⟨by kernel_rfl⟩
instance fld_113_0 : FldOff prog 113 0 0 := ⟨fun b o w => by kernel_rfl⟩
instance fld_113_1 : FldOff prog 113 1 1 := ⟨fun b o w => by kernel_rfl⟩
instance fld_113_2 : FldOff prog 113 2 2 := ⟨fun b o w => by kernel_rfl⟩
instance fld_113_3 : FldOff prog 113 3 3 := ⟨fun b o w => by kernel_rfl⟩
instance fld_113_4 : FldOff prog 113 4 4 := ⟨fun b o w => by kernel_rfl⟩
instance aggC_114 : AggC prog 114 5 := ⟨fun w => by kernel_rfl, by kernel_rfl⟩
instance zeroC_114 : ZeroC prog 114 (.agg #[(.pointer none), (.int .i64 0), (.int .i64 0), (.int .i64 0), (.map none)]) := ⟨by kernel_rfl⟩
instance fld_114_0 : FldOff prog 114 0 0 := ⟨fun b o w => by kernel_rfl⟩
instance fld_114_1 : FldOff prog 114 1 1 := ⟨fun b o w => by kernel_rfl⟩
instance fld_114_2 : FldOff prog 114 2 2 := ⟨fun b o w => by kernel_rfl⟩
instance fld_114_3 : FldOff prog 114 3 3 := ⟨fun b o w => by kernel_rfl⟩
instance fld_114_4 : FldOff prog 114 4 4 := ⟨fun b o w => by kernel_rfl⟩
instance oneC_117 : OneC prog 117 := ⟨fun w => by kernel_rfl, by kernel_rfl⟩
instance zeroC_117 : ZeroC prog 117 (.map none) := ⟨by kernel_rfl⟩
instance ul_117 : Ul prog 117 (.map 3 22) := ⟨by kernel_rfl⟩
instance aggC_118 : AggC prog 118 8 := ⟨fun w => by kernel_rfl, by kernel_rfl⟩
instance zeroC_118 : ZeroC prog 118 (.agg #[(.pointer none), (.int .i64 0), (.map none), (.map none), (.slice none 0 0), (.map none), (.int .i64 0), (.int .i64 0)]) := ⟨by kernel_rfl⟩
instance fld_118_0 : FldOff prog 118 0 0 := ⟨fun b o w => by kernel_rfl⟩
instance fld_118_1 : FldOff prog 118 1 1 := ⟨fun b o w => by kernel_rfl⟩
instance fld_118_2 : FldOff prog 118 2 2 := ⟨fun b o w => by kernel_rfl⟩
instance fld_118_3 : FldOff prog 118 3 3 := ⟨fun b o w => by kernel_rfl⟩
instance fld_118_4 : FldOff prog 118 4 4 := ⟨fun b o w => by kernel_rfl⟩
instance fld_118_5 : FldOff prog 118 5 5 := ⟨fun b o w => by kernel_rfl⟩
instance fld_118_6 : FldOff prog 118 6 6 := ⟨fun b o w => by kernel_rfl⟩
instance fld_118_7 : FldOff prog 118 7 7 := ⟨fun b o w => by kernel_rfl⟩
instance aggC_119 : AggC prog 119 8 := ⟨fun w => by kernel_rfl, by kernel_rfl⟩
instance zeroC_119 : ZeroC prog 119 (.agg #[(.pointer none), (.int .i64 0), (.map none), (.map none), (.slice none 0 0), (.map none), (.int .i64 0), (.int .i64 0)]) := ⟨by kernel_rfl⟩
instance fld_119_0 : FldOff prog 119 0 0 := ⟨fun b o w => by kernel_rfl⟩
instance fld_119_1 : FldOff prog 119 1 1 := ⟨fun b o w => by kernel_rfl⟩
instance fld_119_2 : FldOff prog 119 2 2 := ⟨fun b o w => by kernel_rfl⟩
instance fld_119_3 : FldOff prog 119 3 3 := ⟨fun b o w => by kernel_rfl⟩
instance fld_119_4 : FldOff prog 119 4 4 := ⟨fun b o w => by kernel_rfl⟩
instance fld_119_5 : FldOff prog 119 5 5 := ⟨fun b o w => by kernel_rfl⟩
instance fld_119_6 : FldOff prog 119 6 6 := ⟨fun b o w => by kernel_rfl⟩
instance fld_119_7 : FldOff prog 119 7 7 := ⟨fun b o w => by kernel_rfl⟩
instance oneC_122 : OneC prog 122 := ⟨fun w => by kernel_rfl, by kernel_rfl⟩
instance zeroC_122 : ZeroC prog 122 (.pointer none) := ⟨by kernel_rfl⟩
instance ul_122 : Ul prog 122 (.pointer 124) := ⟨by kernel_rfl⟩
instance aggC_123 : AggC prog 123 5 := ⟨fun w => by kernel_rfl, by kernel_rfl⟩
instance zeroC_123 : ZeroC prog 123 (.agg #[(.int .i64 0), (.int .i64 0), (.int .i64 0), (.pointer none), (.map none)]) := ⟨by kernel_rfl⟩
instance fld_123_0 : FldOff prog 123 0 0 := ⟨fun b o w => by kernel_rfl⟩
instance fld_123_1 : FldOff prog 123 1 3 := ⟨fun b o w => by kernel_rfl⟩
instance fld_123_2 : FldOff prog 123 2 4 := ⟨fun b o w => by kernel_rfl⟩
instance aggC_124 : AggC prog 124 5 := ⟨fun w => by kernel_rfl, by kernel_rfl⟩
instance zeroC_124 : ZeroC prog 124 (.agg #[(.int .i64 0), (.int .i64 0), (.int .i64 0), (.pointer none), (.map none)]) := ⟨by kernel_rfl⟩
instance fld_124_0 : FldOff prog 124 0 0 := ⟨fun b o w => by kernel_rfl⟩
instance fld_124_1 : FldOff prog 124 1 3 := ⟨fun b o w => by kernel_rfl⟩
instance fld_124_2 : FldOff prog 124 2 4 := ⟨fun b o w => by kernel_rfl⟩
instance oneC_134 : OneC prog 134 := ⟨fun w => by kernel_rfl, by kernel_rfl⟩
instance zeroC_134 : ZeroC prog 134 (.slice none 0 0) := ⟨by kernel_rfl⟩
instance sliceT_134 : SliceT prog 134 136 2 32 (.agg #[(.int .i64 0), (.slice none 0 0)]) := ⟨by kernel_rfl, by kernel_rfl, rfl, by decide⟩
instance ul_134 : Ul prog 134 (.slice 136) := ⟨by kernel_rfl⟩
instance aggC_135 : AggC prog 135 2 := ⟨fun w => by kernel_rfl, by kernel_rfl⟩
instance zeroC_135 : ZeroC prog 135 (.agg #[(.int .i64 0), (.slice none 0 0)]) := ⟨by kernel_rfl⟩
instance fld_135_0 : FldOff prog 135 0 0 := ⟨fun b o w => by kernel_rfl⟩
instance fld_135_1 : FldOff prog 135 1 1 := ⟨fun b o w => by kernel_rfl⟩
instance aggC_136 : AggC prog 136 2 := ⟨fun w => by kernel_rfl, by kernel_rfl⟩
instance zeroC_136 : ZeroC prog 136 (.agg #[(.int .i64 0), (.slice none 0 0)]) := ⟨by kernel_rfl⟩
instance fld_136_0 : FldOff prog 136 0 0 := ⟨fun b o w => by kernel_rfl⟩
instance fld_136_1 : FldOff prog 136 1 1 := ⟨fun b o w => by kernel_rfl⟩
instance aggC_143 : AggC prog 143 64 := ⟨fun w => by kernel_rfl, by kernel_rfl⟩
instance zeroC_143 : ZeroC prog 143 (.agg #[(.int .u32 0), (.int .u32 0), (.int .u32 0), (.int .u32 0), (.int .u32 0), (.int .u32 0), (.int .u32 0), (.int .u32 0), (.int .u32 0), (.int .u32 0), (.int .u32 0), (.int .u32 0), (.int .u32 0), (.int .u32 0), (.int .u32 0), (.int .u32 0), (.int .u32 0), (.int .u32 0), (.int .u32 0), (.int .u32 0), (.int .u32 0), (.int .u32 0), (.int .u32 0), (.int .u32 0), (.int .u32 0), (.int .u32 0), (.int .u32 0), (.int .u32 0), (.int .u32 0), (.int .u32 0), (.int .u32 0), (.int .u32 0), (.int .u32 0), (.int .u32 0), (.int .u32 0), (.int .u32 0), (.int .u32 0), (.int .u32 0), (.int .u32 0), (.int .u32 0), (.int .u32 0), (.int .u32 0), (.int .u32 0), (.int .u32 0), (.int .u32 0), (.int .u32 0), (.int .u32 0), (.int .u32 0), (.int .u32 0), (.int .u32 0), (.int .u32 0), (.int .u32 0), (.int .u32 0), (.int .u32 0), (.int .u32 0), (.int .u32 0), (.int .u32 0), (.int .u32 0), (.int .u32 0), (.int .u32 0), (.int .u32 0), (.int .u32 0), (.int .u32 0), (.int .u32 0)]) := ⟨by kernel_rfl⟩
instance ul_143 : Ul prog 143 (.array 64 88) := ⟨by kernel_rfl⟩
instance oneC_145 : OneC prog 145 := ⟨fun w => by kernel_rfl, by kernel_rfl⟩
instance zeroC_145 : ZeroC prog 145 (.slice none 0 0) := ⟨by kernel_rfl⟩
instance sliceT_145 : SliceT prog 145 88 1 4 (.int .u32 0) := ⟨by kernel_rfl, by kernel_rfl, rfl, by decide⟩
instance ul_145 : Ul prog 145 (.slice 88) := ⟨by kernel_rfl⟩
instance oneC_172 : OneC prog 172 := ⟨fun w => by kernel_rfl, by kernel_rfl⟩
instance zeroC_172 : ZeroC prog 172 (.int .i64 0) := ⟨by kernel_rfl⟩
instance ul_172 : Ul prog 172 (.int .i64) := ⟨by kernel_rfl⟩
instance aggC_189 : AggC prog 189 2 := ⟨fun w => by kernel_rfl, by kernel_rfl⟩
instance zeroC_189 : ZeroC prog 189 (.agg #[(.int .i64 0), (.slice none 0 0)]) := ⟨by kernel_rfl⟩
instance fld_189_0 : FldOff prog 189 0 0 := ⟨fun b o w => by kernel_rfl⟩
instance fld_189_1 : FldOff prog 189 1 1 := ⟨fun b o w => by kernel_rfl⟩
instance aggC_190 : AggC prog 190 2 := ⟨fun w => by kernel_rfl, by kernel_rfl⟩
instance zeroC_190 : ZeroC prog 190 (.agg #[(.int .i64 0), (.slice none 0 0)]) := ⟨by kernel_rfl⟩
instance fld_190_0 : FldOff prog 190 0 0 := ⟨fun b o w => by kernel_rfl⟩
instance fld_190_1 : FldOff prog 190 1 1 := ⟨fun b o w => by kernel_rfl⟩
instance oneC_192 : OneC prog 192 := ⟨fun w => by kernel_rfl, by kernel_rfl⟩
instance zeroC_192 : ZeroC prog 192 (.pointer none) := ⟨by kernel_rfl⟩
instance ul_192 : Ul prog 192 (.pointer 105) := ⟨by kernel_rfl⟩
instance oneC_194 : OneC prog 194 := ⟨fun w => by kernel_rfl, by kernel_rfl⟩
instance zeroC_194 : ZeroC prog 194 (.pointer none) := ⟨by kernel_rfl⟩
instance ul_194 : Ul prog 194 (.pointer 2) := ⟨by kernel_rfl⟩
instance oneC_196 : OneC prog 196 := ⟨fun w => by kernel_rfl, by kernel_rfl⟩
instance zeroC_196 : ZeroC prog 196 (.int .u64 0) := ⟨by kernel_rfl⟩
instance ul_196 : Ul prog 196 (.int .u64) := ⟨by kernel_rfl⟩
instance oneC_200 : OneC prog 200 := ⟨fun w => by kernel_rfl, by kernel_rfl⟩
instance zeroC_200 : ZeroC prog 200 (.pointer none) := ⟨by kernel_rfl⟩
instance ul_200 : Ul prog 200 (.pointer 3) := ⟨by kernel_rfl⟩
instance oneC_203 : OneC prog 203 := ⟨fun w => by kernel_rfl, by kernel_rfl⟩
instance zeroC_203 : ZeroC prog 203 (.pointer none) := ⟨by kernel_rfl⟩
instance ul_203 : Ul prog 203 (.pointer 67) := ⟨by kernel_rfl⟩
instance oneC_204 : OneC prog 204 := ⟨fun w => by kernel_rfl, by kernel_rfl⟩
instance zeroC_204 : ZeroC prog 204 (.slice none 0 0) := ⟨by kernel_rfl⟩
instance sliceT_204 : SliceT prog 204 61 1 24 (.slice none 0 0) := ⟨by kernel_rfl, by kernel_rfl, rfl, by decide⟩
instance ul_204 : Ul prog 204 (.slice 61) := ⟨by kernel_rfl⟩
instance oneC_206 : OneC prog 206 := ⟨fun w => by kernel_rfl, by kernel_rfl⟩
instance zeroC_206 : ZeroC prog 206 (.pointer none) := ⟨by kernel_rfl⟩
instance ul_206 : Ul prog 206 (.pointer 196) := ⟨by kernel_rfl⟩
instance aggC_210 : AggC prog 210 4 := ⟨fun w => by kernel_rfl, by kernel_rfl⟩
instance zeroC_210 : ZeroC prog 210 (.agg #[(.pointer none), (.pointer none), (.pointer none), (.string ⟨#[]⟩)]) := ⟨by kernel_rfl⟩
instance fld_210_0 : FldOff prog 210 0 0 := ⟨fun b o w => by kernel_rfl⟩
instance fld_210_1 : FldOff prog 210 1 1 := ⟨fun b o w => by kernel_rfl⟩
instance fld_210_2 : FldOff prog 210 2 2 := ⟨fun b o w => by kernel_rfl⟩
instance fld_210_3 : FldOff prog 210 3 3 := ⟨fun b o w => by kernel_rfl⟩
instance aggC_211 : AggC prog 211 4 := ⟨fun w => by kernel_rfl, by kernel_rfl⟩
instance zeroC_211 : ZeroC prog 211 (.agg #[(.pointer none), (.pointer none), (.pointer none), (.string ⟨#[]⟩)]) := ⟨by kernel_rfl⟩
instance fld_211_0 : FldOff prog 211 0 0 := ⟨fun b o w => by kernel_rfl⟩
instance fld_211_1 : FldOff prog 211 1 1 := ⟨fun b o w => by kernel_rfl⟩
instance fld_211_2 : FldOff prog 211 2 2 := ⟨fun b o w => by kernel_rfl⟩
instance fld_211_3 : FldOff prog 211 3 3 := ⟨fun b o w => by kernel_rfl⟩
instance aggC_212 : AggC prog 212 0 := ⟨fun w => by kernel_rfl, by kernel_rfl⟩
instance zeroC_212 : ZeroC prog 212 (.agg #[]) := ⟨by kernel_rfl⟩
instance ul_212 : Ul prog 212 (.array 0 16) := ⟨by kernel_rfl⟩
instance aggC_213 : AggC prog 213 0 := ⟨fun w => by kernel_rfl, by kernel_rfl⟩
instance zeroC_213 : ZeroC prog 213 (.agg #[]) := ⟨by kernel_rfl⟩
instance aggC_214 : AggC prog 214 0 := ⟨fun w => by kernel_rfl, by kernel_rfl⟩
instance zeroC_214 : ZeroC prog 214 (.agg #[]) := ⟨by kernel_rfl⟩
instance oneC_215 : OneC prog 215 := ⟨fun w => by kernel_rfl, by kernel_rfl⟩
instance zeroC_215 : ZeroC prog 215 (.int .u8 0) := ⟨by kernel_rfl⟩
instance ul_215 : Ul prog 215 (.int .u8) := ⟨by kernel_rfl⟩
instance oneC_216 : OneC prog 216 := ⟨fun w => by kernel_rfl, by kernel_rfl⟩
instance zeroC_216 : ZeroC prog 216 (.int .u8 0) := ⟨by kernel_rfl⟩
instance ul_216 : Ul prog 216 (.int .u8) := ⟨by kernel_rfl⟩
instance oneC_218 : OneC prog 218 := ⟨fun w => by kernel_rfl, by kernel_rfl⟩
instance zeroC_218 : ZeroC prog 218 (.pointer none) := ⟨by kernel_rfl⟩
instance ul_218 : Ul prog 218 (.pointer 5) := ⟨by kernel_rfl⟩
instance oneC_219 : OneC prog 219 := ⟨fun w => by kernel_rfl, by kernel_rfl⟩
instance zeroC_219 : ZeroC prog 219 (.int .i32 0) := ⟨by kernel_rfl⟩
instance ul_219 : Ul prog 219 (.int .i32) := ⟨by kernel_rfl⟩
instance oneC_220 : OneC prog 220 := ⟨fun w => by kernel_rfl, by kernel_rfl⟩
instance zeroC_220 : ZeroC prog 220 (.int .i32 0) := ⟨by kernel_rfl⟩
instance ul_220 : Ul prog 220 (.int .i32) := ⟨by kernel_rfl⟩
instance aggC_221 : AggC prog 221 11 := ⟨fun w => by kernel_rfl, by kernel_rfl⟩
instance zeroC_221 : ZeroC prog 221 (.agg #[(.int .u64 0), (.int .u64 0), (.int .u32 0), (.int .u8 0), (.int .u8 0), (.int .u8 0), (.int .u8 0), .nilFunc, (.pointer none), (.int .i32 0), (.int .i32 0)]) := ⟨by kernel_rfl⟩
instance fld_221_0 : FldOff prog 221 0 0 := ⟨fun b o w => by kernel_rfl⟩
instance fld_221_1 : FldOff prog 221 1 1 := ⟨fun b o w => by kernel_rfl⟩
instance fld_221_2 : FldOff prog 221 2 2 := ⟨fun b o w => by kernel_rfl⟩
instance fld_221_3 : FldOff prog 221 3 3 := ⟨fun b o w => by kernel_rfl⟩
instance fld_221_4 : FldOff prog 221 4 4 := ⟨fun b o w => by kernel_rfl⟩
instance fld_221_5 : FldOff prog 221 5 5 := ⟨fun b o w => by kernel_rfl⟩
instance fld_221_6 : FldOff prog 221 6 6 := ⟨fun b o w => by kernel_rfl⟩
instance fld_221_7 : FldOff prog 221 7 7 := ⟨fun b o w => by kernel_rfl⟩
instance fld_221_8 : FldOff prog 221 8 8 := ⟨fun b o w => by kernel_rfl⟩
instance fld_221_9 : FldOff prog 221 9 9 := ⟨fun b o w => by kernel_rfl⟩
instance fld_221_10 : FldOff prog 221 10 10 := ⟨fun b o w => by kernel_rfl⟩
instance aggC_222 : AggC prog 222 11 := ⟨fun w => by kernel_rfl, by kernel_rfl⟩
instance zeroC_222 : ZeroC prog 222 (.agg #[(.int .u64 0), (.int .u64 0), (.int .u32 0), (.int .u8 0), (.int .u8 0), (.int .u8 0), (.int .u8 0), .nilFunc, (.pointer none), (.int .i32 0), (.int .i32 0)]) := ⟨by kernel_rfl⟩
instance fld_222_0 : FldOff prog 222 0 0 := ⟨fun b o w => by kernel_rfl⟩
instance fld_222_1 : FldOff prog 222 1 1 := ⟨fun b o w => by kernel_rfl⟩
instance fld_222_2 : FldOff prog 222 2 2 := ⟨fun b o w => by kernel_rfl⟩
instance fld_222_3 : FldOff prog 222 3 3 := ⟨fun b o w => by kernel_rfl⟩
instance fld_222_4 : FldOff prog 222 4 4 := ⟨fun b o w => by kernel_rfl⟩
instance fld_222_5 : FldOff prog 222 5 5 := ⟨fun b o w => by kernel_rfl⟩
instance fld_222_6 : FldOff prog 222 6 6 := ⟨fun b o w => by kernel_rfl⟩
instance fld_222_7 : FldOff prog 222 7 7 := ⟨fun b o w => by kernel_rfl⟩
instance fld_222_8 : FldOff prog 222 8 8 := ⟨fun b o w => by kernel_rfl⟩
instance fld_222_9 : FldOff prog 222 9 9 := ⟨fun b o w => by kernel_rfl⟩
instance fld_222_10 : FldOff prog 222 10 10 := ⟨fun b o w => by kernel_rfl⟩
instance oneC_224 : OneC prog 224 := ⟨fun w => by kernel_rfl, by kernel_rfl⟩
instance zeroC_224 : ZeroC prog 224 (.pointer none) := ⟨by kernel_rfl⟩

end Go.Proofs.YtfaeklinhchidaaGreat
