import Derived.Test.YtgkeplodfkmnlaaProg
import Derived.Test.YtgkeplodfkmnlaaVc
import Derived.KernelRfl
set_option linter.all false
set_option maxRecDepth 100000
namespace Go.Proofs.Ytgkeplodfkmnlaa
open Go Hold
noncomputable abbrev prog : Program := Try.prog
instance oneC_2 : OneC prog 2 := ⟨fun w => by kernel_rfl, by kernel_rfl⟩
instance zeroC_2 : ZeroC prog 2 (.int .i64 0) := ⟨by kernel_rfl⟩
instance ul_2 : Ul prog 2 (.int .i64) := ⟨by kernel_rfl⟩
instance oneC_3 : OneC prog 3 := ⟨fun w => by kernel_rfl, by kernel_rfl⟩
instance zeroC_3 : ZeroC prog 3 (.int .i64 0) := ⟨by kernel_rfl⟩
instance ul_3 : Ul prog 3 (.int .i64) := ⟨by kernel_rfl⟩
instance oneC_4 : OneC prog 4 := ⟨fun w => by kernel_rfl, by kernel_rfl⟩
instance zeroC_4 : ZeroC prog 4 (.bool false) := ⟨by kernel_rfl⟩
instance ul_4 : Ul prog 4 .bool := ⟨by kernel_rfl⟩
instance oneC_5 : OneC prog 5 := ⟨fun w => by kernel_rfl, by kernel_rfl⟩
instance zeroC_5 : ZeroC prog 5 (.int .u8 0) := ⟨by kernel_rfl⟩
instance ul_5 : Ul prog 5 (.int .u8) := ⟨by kernel_rfl⟩
instance oneC_6 : OneC prog 6 := ⟨fun w => by kernel_rfl, by kernel_rfl⟩
instance zeroC_6 : ZeroC prog 6 (.int .u8 0) := ⟨by kernel_rfl⟩
instance ul_6 : Ul prog 6 (.int .u8) := ⟨by kernel_rfl⟩
instance aggC_7 : AggC prog 7 4 := ⟨fun w => by kernel_rfl, by kernel_rfl⟩
instance zeroC_7 : ZeroC prog 7 (.agg #[(.int .i64 0), (.int .i64 0), (.bool false), (.int .u8 0)]) := ⟨by kernel_rfl⟩
instance fld_7_0 : FldOff prog 7 0 0 := ⟨fun b o w => by kernel_rfl⟩
instance fld_7_1 : FldOff prog 7 1 1 := ⟨fun b o w => by kernel_rfl⟩
instance fld_7_2 : FldOff prog 7 2 2 := ⟨fun b o w => by kernel_rfl⟩
instance fld_7_3 : FldOff prog 7 3 3 := ⟨fun b o w => by kernel_rfl⟩
instance aggC_8 : AggC prog 8 4 := ⟨fun w => by kernel_rfl, by kernel_rfl⟩
instance zeroC_8 : ZeroC prog 8 (.agg #[(.int .i64 0), (.int .i64 0), (.bool false), (.int .u8 0)]) := ⟨by kernel_rfl⟩
instance fld_8_0 : FldOff prog 8 0 0 := ⟨fun b o w => by kernel_rfl⟩
instance fld_8_1 : FldOff prog 8 1 1 := ⟨fun b o w => by kernel_rfl⟩
instance fld_8_2 : FldOff prog 8 2 2 := ⟨fun b o w => by kernel_rfl⟩
instance fld_8_3 : FldOff prog 8 3 3 := ⟨fun b o w => by kernel_rfl⟩
instance oneC_9 : OneC prog 9 := ⟨fun w => by kernel_rfl, by kernel_rfl⟩
instance zeroC_9 : ZeroC prog 9 (.string ⟨#[]⟩) := ⟨by kernel_rfl⟩
instance ul_9 : Ul prog 9 .string := ⟨by kernel_rfl⟩
instance oneC_10 : OneC prog 10 := ⟨fun w => by kernel_rfl, by kernel_rfl⟩
instance zeroC_10 : ZeroC prog 10 (.string ⟨#[]⟩) := ⟨by kernel_rfl⟩
instance ul_10 : Ul prog 10 .string := ⟨by kernel_rfl⟩
instance oneC_11 : OneC prog 11 := ⟨fun w => by kernel_rfl, by kernel_rfl⟩
instance zeroC_11 : ZeroC prog 11 (.string ⟨#[]⟩) := ⟨by kernel_rfl⟩
instance ul_11 : Ul prog 11 .string := ⟨by kernel_rfl⟩
instance oneC_12 : OneC prog 12 := ⟨fun w => by kernel_rfl, by kernel_rfl⟩
instance zeroC_12 : ZeroC prog 12 (.int .u64 0) := ⟨by kernel_rfl⟩
instance ul_12 : Ul prog 12 (.int .u64) := ⟨by kernel_rfl⟩
instance aggC_13 : AggC prog 13 2 := ⟨fun w => by kernel_rfl, by kernel_rfl⟩
instance zeroC_13 : ZeroC prog 13 (.agg #[(.string ⟨#[]⟩), (.int .u64 0)]) := ⟨by kernel_rfl⟩
instance fld_13_0 : FldOff prog 13 0 0 := ⟨fun b o w => by kernel_rfl⟩
instance fld_13_1 : FldOff prog 13 1 1 := ⟨fun b o w => by kernel_rfl⟩
instance aggC_14 : AggC prog 14 2 := ⟨fun w => by kernel_rfl, by kernel_rfl⟩
instance zeroC_14 : ZeroC prog 14 (.agg #[(.string ⟨#[]⟩), (.int .u64 0)]) := ⟨by kernel_rfl⟩
instance fld_14_0 : FldOff prog 14 0 0 := ⟨fun b o w => by kernel_rfl⟩
instance fld_14_1 : FldOff prog 14 1 1 := ⟨fun b o w => by kernel_rfl⟩
instance oneC_15 : OneC prog 15 := ⟨fun w => by kernel_rfl, by kernel_rfl⟩
instance zeroC_15 : ZeroC prog 15 (.pointer none) := ⟨by kernel_rfl⟩
instance ul_15 : Ul prog 15 (.pointer 162) := ⟨by kernel_rfl⟩
instance oneC_16 : OneC prog 16 := ⟨fun w => by kernel_rfl, by kernel_rfl⟩
instance zeroC_16 : ZeroC prog 16 (.pointer none) := ⟨by kernel_rfl⟩
instance ul_16 : Ul prog 16 (.pointer 165) := ⟨by kernel_rfl⟩
instance oneC_17 : OneC prog 17 := ⟨fun w => by kernel_rfl, by kernel_rfl⟩
instance zeroC_17 : ZeroC prog 17 (.pointer none) := ⟨by kernel_rfl⟩
instance ul_17 : Ul prog 17 (.pointer 173) := ⟨by kernel_rfl⟩
instance aggC_18 : AggC prog 18 1 := ⟨fun w => by kernel_rfl, by kernel_rfl⟩
instance zeroC_18 : ZeroC prog 18 (.agg #[(.pointer none)]) := ⟨by kernel_rfl⟩
instance fld_18_0 : FldOff prog 18 0 0 := ⟨fun b o w => by kernel_rfl⟩
instance aggC_19 : AggC prog 19 1 := ⟨fun w => by kernel_rfl, by kernel_rfl⟩
instance zeroC_19 : ZeroC prog 19 (.agg #[(.pointer none)]) := ⟨by kernel_rfl⟩
instance fld_19_0 : FldOff prog 19 0 0 := ⟨fun b o w => by kernel_rfl⟩
instance oneC_20 : OneC prog 20 := ⟨fun w => by kernel_rfl, by kernel_rfl⟩
instance zeroC_20 : ZeroC prog 20 .nilIface := ⟨by kernel_rfl⟩
instance oneC_21 : OneC prog 21 := ⟨fun w => by kernel_rfl, by kernel_rfl⟩
instance zeroC_21 : ZeroC prog 21 (.int .i32 0) := ⟨by kernel_rfl⟩
instance ul_21 : Ul prog 21 (.int .i32) := ⟨by kernel_rfl⟩
instance oneC_22 : OneC prog 22 := ⟨fun w => by kernel_rfl, by kernel_rfl⟩
instance zeroC_22 : ZeroC prog 22 (.slice none 0 0) := ⟨by kernel_rfl⟩
instance sliceT_22 : SliceT prog 22 31 4 40 (.agg #[(.bool false), (.bool false), (.slice none 0 0), (.int .u8 0)]) := ⟨by kernel_rfl, by kernel_rfl, rfl, by decide⟩
instance ul_22 : Ul prog 22 (.slice 31) := ⟨by kernel_rfl⟩
instance oneC_23 : OneC prog 23 := ⟨fun w => by kernel_rfl, by kernel_rfl⟩
instance zeroC_23 : ZeroC prog 23 (.pointer none) := ⟨by kernel_rfl⟩
instance ul_23 : Ul prog 23 (.pointer 71) := ⟨by kernel_rfl⟩
instance oneC_24 : OneC prog 24 := ⟨fun w => by kernel_rfl, by kernel_rfl⟩
instance zeroC_24 : ZeroC prog 24 (.pointer none) := ⟨by kernel_rfl⟩
instance ul_24 : Ul prog 24 (.pointer 105) := ⟨by kernel_rfl⟩
instance oneC_28 : OneC prog 28 := ⟨fun w => by kernel_rfl, by kernel_rfl⟩
instance zeroC_28 : ZeroC prog 28 (.slice none 0 0) := ⟨by kernel_rfl⟩
instance sliceT_28 : SliceT prog 28 35 2 32 (.agg #[(.int .i64 0), (.slice none 0 0)]) := ⟨by kernel_rfl, by kernel_rfl, rfl, by decide⟩
instance ul_28 : Ul prog 28 (.slice 35) := ⟨by kernel_rfl⟩
instance oneC_29 : OneC prog 29 := ⟨fun w => by kernel_rfl, by kernel_rfl⟩
instance zeroC_29 : ZeroC prog 29 (.slice none 0 0) := ⟨by kernel_rfl⟩
instance sliceT_29 : SliceT prog 29 3 1 8 (.int .i64 0) := ⟨by kernel_rfl, by kernel_rfl, rfl, by decide⟩
instance ul_29 : Ul prog 29 (.slice 3) := ⟨by kernel_rfl⟩
instance aggC_30 : AggC prog 30 4 := ⟨fun w => by kernel_rfl, by kernel_rfl⟩
instance zeroC_30 : ZeroC prog 30 (.agg #[(.bool false), (.bool false), (.slice none 0 0), (.int .u8 0)]) := ⟨by kernel_rfl⟩
instance fld_30_0 : FldOff prog 30 0 0 := ⟨fun b o w => by kernel_rfl⟩
instance fld_30_1 : FldOff prog 30 1 1 := ⟨fun b o w => by kernel_rfl⟩
instance fld_30_2 : FldOff prog 30 2 2 := ⟨fun b o w => by kernel_rfl⟩
instance fld_30_3 : FldOff prog 30 3 3 := ⟨fun b o w => by kernel_rfl⟩
instance aggC_31 : AggC prog 31 4 := ⟨fun w => by kernel_rfl, by kernel_rfl⟩
instance zeroC_31 : ZeroC prog 31 (.agg #[(.bool false), (.bool false), (.slice none 0 0), (.int .u8 0)]) := ⟨by kernel_rfl⟩
instance fld_31_0 : FldOff prog 31 0 0 := ⟨fun b o w => by kernel_rfl⟩
instance fld_31_1 : FldOff prog 31 1 1 := ⟨fun b o w => by kernel_rfl⟩
instance fld_31_2 : FldOff prog 31 2 2 := ⟨fun b o w => by kernel_rfl⟩
instance fld_31_3 : FldOff prog 31 3 3 := ⟨fun b o w => by kernel_rfl⟩
instance oneC_33 : OneC prog 33 := ⟨fun w => by kernel_rfl, by kernel_rfl⟩
instance zeroC_33 : ZeroC prog 33 (.slice none 0 0) := ⟨by kernel_rfl⟩
instance sliceT_33 : SliceT prog 33 5 1 1 (.int .u8 0) := ⟨by kernel_rfl, by kernel_rfl, rfl, by decide⟩
instance ul_33 : Ul prog 33 (.slice 5) := ⟨by kernel_rfl⟩
instance aggC_34 : AggC prog 34 2 := ⟨fun w => by kernel_rfl, by kernel_rfl⟩
instance zeroC_34 : ZeroC prog 34 (.agg #[(.int .i64 0), (.slice none 0 0)]) := ⟨by kernel_rfl⟩
instance fld_34_0 : FldOff prog 34 0 0 := ⟨fun b o w => by kernel_rfl⟩
instance fld_34_1 : FldOff prog 34 1 1 := ⟨fun b o w => by kernel_rfl⟩
instance aggC_35 : AggC prog 35 2 := ⟨fun w => by kernel_rfl, by kernel_rfl⟩
instance zeroC_35 : ZeroC prog 35 (.agg #[(.int .i64 0), (.slice none 0 0)]) := ⟨by kernel_rfl⟩
instance fld_35_0 : FldOff prog 35 0 0 := ⟨fun b o w => by kernel_rfl⟩
instance fld_35_1 : FldOff prog 35 1 1 := ⟨fun b o w => by kernel_rfl⟩
instance oneC_36 : OneC prog 36 := ⟨fun w => by kernel_rfl, by kernel_rfl⟩
instance zeroC_36 : ZeroC prog 36 (.int .i64 0) := ⟨by kernel_rfl⟩
instance ul_36 : Ul prog 36 (.int .i64) := ⟨by kernel_rfl⟩
instance oneC_39 : OneC prog 39 := ⟨fun w => by kernel_rfl, by kernel_rfl⟩
instance zeroC_39 : ZeroC prog 39 (.pointer none) := ⟨by kernel_rfl⟩
instance ul_39 : Ul prog 39 (.pointer 86) := ⟨by kernel_rfl⟩
instance oneC_53 : OneC prog 53 := ⟨fun w => by kernel_rfl, by kernel_rfl⟩
instance zeroC_53 : ZeroC prog 53 (.pointer none) := ⟨by kernel_rfl⟩
instance ul_53 : Ul prog 53 (.pointer 95) := ⟨by kernel_rfl⟩
instance oneC_58 : OneC prog 58 := ⟨fun w => by kernel_rfl, by kernel_rfl⟩
instance zeroC_58 : ZeroC prog 58 (.pointer none) := ⟨by kernel_rfl⟩
instance ul_58 : Ul prog 58 (.pointer 102) := ⟨by kernel_rfl⟩
instance oneC_66 : OneC prog 66 := ⟨fun w => by kernel_rfl, by kernel_rfl⟩
instance zeroC_66 : ZeroC prog 66 (.map none) := ⟨by kernel_rfl⟩
instance ul_66 : Ul prog 66 (.map 3 33) := ⟨by kernel_rfl⟩
instance aggC_67 : AggC prog 67 1 := ⟨fun w => by kernel_rfl, by kernel_rfl⟩
instance zeroC_67 : ZeroC prog 67 (.agg #[(.pointer none)]) := ⟨by kernel_rfl⟩
instance fld_67_0 : FldOff prog 67 0 0 := ⟨fun b o w => by kernel_rfl⟩
instance aggC_68 : AggC prog 68 1 := ⟨fun w => by kernel_rfl, by kernel_rfl⟩
instance zeroC_68 : ZeroC prog 68 (.agg #[(.pointer none)]) := ⟨by kernel_rfl⟩
instance fld_68_0 : FldOff prog 68 0 0 := ⟨fun b o w => by kernel_rfl⟩
instance oneC_69 : OneC prog 69 := ⟨fun w => by kernel_rfl, by kernel_rfl⟩
instance zeroC_69 : ZeroC prog 69 (.map none) := ⟨by kernel_rfl⟩
instance ul_69 : Ul prog 69 (.map 3 3) := ⟨by kernel_rfl⟩
instance aggC_70 : AggC prog 70 5 := ⟨fun w => by kernel_rfl, by kernel_rfl⟩
instance zeroC_70 : ZeroC prog 70 (.agg #[(.pointer none), (.int .i64 0), (.int .i64 0), (.int .i64 0), (.map none)]) := ⟨by kernel_rfl⟩
instance fld_70_0 : FldOff prog 70 0 0 := ⟨fun b o w => by kernel_rfl⟩
instance fld_70_1 : FldOff prog 70 1 1 := ⟨fun b o w => by kernel_rfl⟩
instance fld_70_2 : FldOff prog 70 2 2 := ⟨fun b o w => by kernel_rfl⟩
instance fld_70_3 : FldOff prog 70 3 3 := ⟨fun b o w => by kernel_rfl⟩
instance fld_70_4 : FldOff prog 70 4 4 := ⟨fun b o w => by kernel_rfl⟩
instance aggC_71 : AggC prog 71 5 := ⟨fun w => by kernel_rfl, by kernel_rfl⟩
instance zeroC_71 : ZeroC prog 71 (.agg #[(.pointer none), (.int .i64 0), (.int .i64 0), (.int .i64 0), (.map none)]) := ⟨by kernel_rfl⟩
instance fld_71_0 : FldOff prog 71 0 0 := ⟨fun b o w => by kernel_rfl⟩
instance fld_71_1 : FldOff prog 71 1 1 := ⟨fun b o w => by kernel_rfl⟩
instance fld_71_2 : FldOff prog 71 2 2 := ⟨fun b o w => by kernel_rfl⟩
instance fld_71_3 : FldOff prog 71 3 3 := ⟨fun b o w => by kernel_rfl⟩
instance fld_71_4 : FldOff prog 71 4 4 := ⟨fun b o w => by kernel_rfl⟩
instance oneC_78 : OneC prog 78 := ⟨fun w => by kernel_rfl, by kernel_rfl⟩
instance zeroC_78 : ZeroC prog 78 (.slice none 0 0) := ⟨by kernel_rfl⟩
instance sliceT_78 : SliceT prog 78 33 1 24 (.slice none 0 0) := ⟨by kernel_rfl, by kernel_rfl, rfl, by decide⟩
instance ul_78 : Ul prog 78 (.slice 33) := ⟨by kernel_rfl⟩
instance oneC_79 : OneC prog 79 := ⟨fun w => by kernel_rfl, by kernel_rfl⟩
instance zeroC_79 : ZeroC prog 79 (.slice none 0 0) := ⟨by kernel_rfl⟩
instance sliceT_79 : SliceT prog 79 113 2 32 (.agg #[(.int .i64 0), (.slice none 0 0)]) := ⟨by kernel_rfl, by kernel_rfl, rfl, by decide⟩
instance ul_79 : Ul prog 79 (.slice 113) := ⟨by kernel_rfl⟩
instance aggC_80 : AggC prog 80 0 := ⟨fun w => by kernel_rfl, by kernel_rfl⟩
instance zeroC_80 : ZeroC prog 80 (.agg #[]) := ⟨by kernel_rfl⟩
instance aggC_81 : AggC prog 81 0 := ⟨fun w => by kernel_rfl, by kernel_rfl⟩
instance zeroC_81 : ZeroC prog 81 (.agg #[]) := ⟨by kernel_rfl⟩
instance aggC_82 : AggC prog 82 0 := ⟨fun w => by kernel_rfl, by kernel_rfl⟩
instance zeroC_82 : ZeroC prog 82 (.agg #[]) := ⟨by kernel_rfl⟩
instance aggC_83 : AggC prog 83 1 := ⟨fun w => by kernel_rfl, by kernel_rfl⟩
instance zeroC_83 : ZeroC prog 83 (.agg #[(.int .i64 0)]) := ⟨by kernel_rfl⟩
instance fld_83_2 : FldOff prog 83 2 0 := ⟨fun b o w => by kernel_rfl⟩
instance aggC_84 : AggC prog 84 1 := ⟨fun w => by kernel_rfl, by kernel_rfl⟩
instance zeroC_84 : ZeroC prog 84 (.agg #[(.int .i64 0)]) := ⟨by kernel_rfl⟩
instance fld_84_2 : FldOff prog 84 2 0 := ⟨fun b o w => by kernel_rfl⟩
instance aggC_85 : AggC prog 85 3 := ⟨fun w => by kernel_rfl, by kernel_rfl⟩
instance zeroC_85 : ZeroC prog 85 (.agg #[(.slice none 0 0), (.slice none 0 0), (.int .i64 0)]) := ⟨by kernel_rfl⟩
instance fld_85_0 : FldOff prog 85 0 0 := ⟨fun b o w => by kernel_rfl⟩
instance fld_85_1 : FldOff prog 85 1 1 := ⟨fun b o w => by kernel_rfl⟩
instance fld_85_2 : FldOff prog 85 2 2 := ⟨fun b o w => by kernel_rfl⟩
instance aggC_86 : AggC prog 86 3 := ⟨fun w => by kernel_rfl, by kernel_rfl⟩
instance zeroC_86 : ZeroC prog 86 (.agg #[(.slice none 0 0), (.slice none 0 0), (.int .i64 0)]) := ⟨by kernel_rfl⟩
instance fld_86_0 : FldOff prog 86 0 0 := ⟨fun b o w => by kernel_rfl⟩
instance fld_86_1 : FldOff prog 86 1 1 := ⟨fun b o w => by kernel_rfl⟩
instance fld_86_2 : FldOff prog 86 2 2 := ⟨fun b o w => by kernel_rfl⟩
instance oneC_93 : OneC prog 93 := ⟨fun w => by kernel_rfl, by kernel_rfl⟩
instance zeroC_93 : ZeroC prog 93 (.map none) := ⟨by kernel_rfl⟩
instance ul_93 : Ul prog 93 (.map 3 4) := ⟨by kernel_rfl⟩
instance aggC_94 : AggC prog 94 8 := ⟨fun w => by kernel_rfl, by kernel_rfl⟩
instance zeroC_94 : ZeroC prog 94 (.agg #[(.pointer none), (.int .i64 0), (.map none), (.map none), (.slice none 0 0), (.map none), (.int .i64 0), (.int .i64 0)]) := ⟨by kernel_rfl⟩
instance fld_94_0 : FldOff prog 94 0 0 := ⟨fun b o w => by kernel_rfl⟩
instance fld_94_1 : FldOff prog 94 1 1 := ⟨fun b o w => by kernel_rfl⟩
instance fld_94_2 : FldOff prog 94 2 2 := ⟨fun b o w => by kernel_rfl⟩
instance fld_94_3 : FldOff prog 94 3 3 := ⟨fun b o w => by kernel_rfl⟩
instance fld_94_4 : FldOff prog 94 4 4 := ⟨fun b o w => by kernel_rfl⟩
instance fld_94_5 : FldOff prog 94 5 5 := ⟨fun b o w => by kernel_rfl⟩
instance fld_94_6 : FldOff prog 94 6 6 := ⟨fun b o w => by kernel_rfl⟩
instance fld_94_7 : FldOff prog 94 7 7 := ⟨fun b o w => by kernel_rfl⟩
instance aggC_95 : AggC prog 95 8 := ⟨fun w => by kernel_rfl, by kernel_rfl⟩
instance zeroC_95 : ZeroC prog 95 (.agg #[(.pointer none), (.int .i64 0), (.map none), (.map none), (.slice none 0 0), (.map none), (.int .i64 0), (.int .i64 0)]) := ⟨by kernel_rfl⟩
instance fld_95_0 : FldOff prog 95 0 0 := ⟨fun b o w => by kernel_rfl⟩
instance fld_95_1 : FldOff prog 95 1 1 := ⟨fun b o w => by kernel_rfl⟩
instance fld_95_2 : FldOff prog 95 2 2 := ⟨fun b o w => by kernel_rfl⟩
instance fld_95_3 : FldOff prog 95 3 3 := ⟨fun b o w => by kernel_rfl⟩
instance fld_95_4 : FldOff prog 95 4 4 := ⟨fun b o w => by kernel_rfl⟩
instance fld_95_5 : FldOff prog 95 5 5 := ⟨fun b o w => by kernel_rfl⟩
instance fld_95_6 : FldOff prog 95 6 6 := ⟨fun b o w => by kernel_rfl⟩
instance fld_95_7 : FldOff prog 95 7 7 := ⟨fun b o w => by kernel_rfl⟩
instance oneC_100 : OneC prog 100 := ⟨fun w => by kernel_rfl, by kernel_rfl⟩
instance zeroC_100 : ZeroC prog 100 (.slice none 0 0) := ⟨by kernel_rfl⟩
instance sliceT_100 : SliceT prog 100 138 2 32 (.agg #[(.int .i64 0), (.slice none 0 0)]) := ⟨by kernel_rfl, by kernel_rfl, rfl, by decide⟩
instance ul_100 : Ul prog 100 (.slice 138) := ⟨by kernel_rfl⟩
instance aggC_101 : AggC prog 101 2 := ⟨fun w => by kernel_rfl, by kernel_rfl⟩
instance zeroC_101 : ZeroC prog 101 (.agg #[(.slice none 0 0), (.slice none 0 0)]) := ⟨by kernel_rfl⟩
instance fld_101_0 : FldOff prog 101 0 0 := ⟨fun b o w => by kernel_rfl⟩
instance fld_101_1 : FldOff prog 101 1 1 := ⟨fun b o w => by kernel_rfl⟩
instance aggC_102 : AggC prog 102 2 := ⟨fun w => by kernel_rfl, by kernel_rfl⟩
instance zeroC_102 : ZeroC prog 102 (.agg #[(.slice none 0 0), (.slice none 0 0)]) := ⟨by kernel_rfl⟩
instance fld_102_0 : FldOff prog 102 0 0 := ⟨fun b o w => by kernel_rfl⟩
instance fld_102_1 : FldOff prog 102 1 1 := ⟨fun b o w => by kernel_rfl⟩
instance aggC_104 : AggC prog 104 4 := ⟨fun w => by kernel_rfl, by kernel_rfl⟩
instance zeroC_104 : ZeroC prog 104 (.agg #[(.pointer none), (.int .i64 0), (.int .i64 0), (.int .i64 0)]) := ⟨by kernel_rfl⟩
instance fld_104_0 : FldOff prog 104 0 0 := ⟨fun b o w => by kernel_rfl⟩
instance fld_104_1 : FldOff prog 104 1 1 := ⟨fun b o w => by kernel_rfl⟩
instance fld_104_2 : FldOff prog 104 2 2 := ⟨fun b o w => by kernel_rfl⟩
instance fld_104_3 : FldOff prog 104 3 3 := ⟨fun b o w => by kernel_rfl⟩
instance aggC_105 : AggC prog 105 4 := ⟨fun w => by kernel_rfl, by kernel_rfl⟩
instance zeroC_105 : ZeroC prog 105 (.agg #[(.pointer none), (.int .i64 0), (.int .i64 0), (.int .i64 0)]) := ⟨by kernel_rfl⟩
instance fld_105_0 : FldOff prog 105 0 0 := ⟨fun b o w => by kernel_rfl⟩
instance fld_105_1 : FldOff prog 105 1 1 := ⟨fun b o w => by kernel_rfl⟩
instance fld_105_2 : FldOff prog 105 2 2 := ⟨fun b o w => by kernel_rfl⟩
instance fld_105_3 : FldOff prog 105 3 3 := ⟨fun b o w => by kernel_rfl⟩
instance oneC_108 : OneC prog 108 := ⟨fun w => by kernel_rfl, by kernel_rfl⟩
instance zeroC_108 : ZeroC prog 108 (.int .u64 0) := ⟨by kernel_rfl⟩
instance ul_108 : Ul prog 108 (.int .u64) := ⟨by kernel_rfl⟩
instance aggC_112 : AggC prog 112 2 := ⟨fun w => by kernel_rfl, by kernel_rfl⟩
instance zeroC_112 : ZeroC prog 112 (.agg #[(.int .i64 0), (.slice none 0 0)]) := ⟨by kernel_rfl⟩
instance fld_112_0 : FldOff prog 112 0 0 := ⟨fun b o w => by kernel_rfl⟩
instance fld_112_1 : FldOff prog 112 1 1 := ⟨fun b o w => by kernel_rfl⟩
instance aggC_113 : AggC prog 113 2 := ⟨fun w => by kernel_rfl, by kernel_rfl⟩
instance zeroC_113 : ZeroC prog 113 (.agg #[(.int .i64 0), (.slice none 0 0)]) := ⟨by kernel_rfl⟩
instance fld_113_0 : FldOff prog 113 0 0 := ⟨fun b o w => by kernel_rfl⟩
instance fld_113_1 : FldOff prog 113 1 1 := ⟨fun b o w => by kernel_rfl⟩
instance oneC_120 : OneC prog 120 := ⟨fun w => by kernel_rfl, by kernel_rfl⟩
instance zeroC_120 : ZeroC prog 120 (.pointer none) := ⟨by kernel_rfl⟩
instance ul_120 : Ul prog 120 (.pointer 84) := ⟨by kernel_rfl⟩
instance oneC_122 : OneC prog 122 := ⟨fun w => by kernel_rfl, by kernel_rfl⟩
instance zeroC_122 : ZeroC prog 122 (.pointer none) := ⟨by kernel_rfl⟩
instance ul_122 : Ul prog 122 (.pointer 2) := ⟨by kernel_rfl⟩
instance aggC_137 : AggC prog 137 2 := ⟨fun w => by kernel_rfl, by kernel_rfl⟩
instance zeroC_137 : ZeroC prog 137 (.agg #[(.int .i64 0), (.slice none 0 0)]) := ⟨by kernel_rfl⟩
instance fld_137_0 : FldOff prog 137 0 0 := ⟨fun b o w => by kernel_rfl⟩
instance fld_137_1 : FldOff prog 137 1 1 := ⟨fun b o w => by kernel_rfl⟩
instance aggC_138 : AggC prog 138 2 := ⟨fun w => by kernel_rfl, by kernel_rfl⟩
instance zeroC_138 : ZeroC prog 138 (.agg #[(.int .i64 0), (.slice none 0 0)]) := ⟨by kernel_rfl⟩
instance fld_138_0 : FldOff prog 138 0 0 := ⟨fun b o w => by kernel_rfl⟩
instance fld_138_1 : FldOff prog 138 1 1 := ⟨fun b o w => by kernel_rfl⟩
instance oneC_140 : OneC prog 140 := ⟨fun w => by kernel_rfl, by kernel_rfl⟩
instance zeroC_140 : ZeroC prog 140 (.int .i64 0) := ⟨by kernel_rfl⟩
instance ul_140 : Ul prog 140 (.int .i64) := ⟨by kernel_rfl⟩
instance oneC_148 : OneC prog 148 := ⟨fun w => by kernel_rfl, by kernel_rfl⟩
instance zeroC_148 : ZeroC prog 148 (.int .u32 0) := ⟨by kernel_rfl⟩
instance ul_148 : Ul prog 148 (.int .u32) := ⟨by kernel_rfl⟩
instance oneC_150 : OneC prog 150 := ⟨fun w => by kernel_rfl, by kernel_rfl⟩
instance zeroC_150 : ZeroC prog 150 (.int .u64 0) := ⟨by kernel_rfl⟩
instance ul_150 : Ul prog 150 (.int .u64) := ⟨by kernel_rfl⟩
instance oneC_151 : OneC prog 151 := ⟨fun w => by kernel_rfl, by kernel_rfl⟩
instance zeroC_151 : ZeroC prog 151 (.int .u64 0) := ⟨by kernel_rfl⟩
instance ul_151 : Ul prog 151 (.int .u64) := ⟨by kernel_rfl⟩
instance oneC_155 : OneC prog 155 := ⟨fun w => by kernel_rfl, by kernel_rfl⟩
instance zeroC_155 : ZeroC prog 155 (.pointer none) := ⟨by kernel_rfl⟩
instance ul_155 : Ul prog 155 (.pointer 3) := ⟨by kernel_rfl⟩
instance oneC_157 : OneC prog 157 := ⟨fun w => by kernel_rfl, by kernel_rfl⟩
instance zeroC_157 : ZeroC prog 157 (.pointer none) := ⟨by kernel_rfl⟩
instance ul_157 : Ul prog 157 (.pointer 151) := ⟨by kernel_rfl⟩
instance aggC_161 : AggC prog 161 4 := ⟨fun w => by kernel_rfl, by kernel_rfl⟩
instance zeroC_161 : ZeroC prog 161 (.agg #[(.pointer none), (.pointer none), (.pointer none), (.string ⟨#[]⟩)]) := ⟨by kernel_rfl⟩
instance fld_161_0 : FldOff prog 161 0 0 := ⟨fun b o w => by kernel_rfl⟩
instance fld_161_1 : FldOff prog 161 1 1 := ⟨fun b o w => by kernel_rfl⟩
instance fld_161_2 : FldOff prog 161 2 2 := ⟨fun b o w => by kernel_rfl⟩
instance fld_161_3 : FldOff prog 161 3 3 := ⟨fun b o w => by kernel_rfl⟩
instance aggC_162 : AggC prog 162 4 := ⟨fun w => by kernel_rfl, by kernel_rfl⟩
instance zeroC_162 : ZeroC prog 162 (.agg #[(.pointer none), (.pointer none), (.pointer none), (.string ⟨#[]⟩)]) := ⟨by kernel_rfl⟩
instance fld_162_0 : FldOff prog 162 0 0 := ⟨fun b o w => by kernel_rfl⟩
instance fld_162_1 : FldOff prog 162 1 1 := ⟨fun b o w => by kernel_rfl⟩
instance fld_162_2 : FldOff prog 162 2 2 := ⟨fun b o w => by kernel_rfl⟩
instance fld_162_3 : FldOff prog 162 3 3 := ⟨fun b o w => by kernel_rfl⟩
instance aggC_163 : AggC prog 163 0 := ⟨fun w => by kernel_rfl, by kernel_rfl⟩
instance zeroC_163 : ZeroC prog 163 (.agg #[]) := ⟨by kernel_rfl⟩
instance ul_163 : Ul prog 163 (.array 0 16) := ⟨by kernel_rfl⟩
instance aggC_164 : AggC prog 164 0 := ⟨fun w => by kernel_rfl, by kernel_rfl⟩
instance zeroC_164 : ZeroC prog 164 (.agg #[]) := ⟨by kernel_rfl⟩
instance aggC_165 : AggC prog 165 0 := ⟨fun w => by kernel_rfl, by kernel_rfl⟩
instance zeroC_165 : ZeroC prog 165 (.agg #[]) := ⟨by kernel_rfl⟩
instance oneC_166 : OneC prog 166 := ⟨fun w => by kernel_rfl, by kernel_rfl⟩
instance zeroC_166 : ZeroC prog 166 (.int .u8 0) := ⟨by kernel_rfl⟩
instance ul_166 : Ul prog 166 (.int .u8) := ⟨by kernel_rfl⟩
instance oneC_167 : OneC prog 167 := ⟨fun w => by kernel_rfl, by kernel_rfl⟩
instance zeroC_167 : ZeroC prog 167 (.int .u8 0) := ⟨by kernel_rfl⟩
instance ul_167 : Ul prog 167 (.int .u8) := ⟨by kernel_rfl⟩
instance oneC_169 : OneC prog 169 := ⟨fun w => by kernel_rfl, by kernel_rfl⟩
instance zeroC_169 : ZeroC prog 169 (.pointer none) := ⟨by kernel_rfl⟩
instance ul_169 : Ul prog 169 (.pointer 5) := ⟨by kernel_rfl⟩
instance oneC_170 : OneC prog 170 := ⟨fun w => by kernel_rfl, by kernel_rfl⟩
instance zeroC_170 : ZeroC prog 170 (.int .i32 0) := ⟨by kernel_rfl⟩
instance ul_170 : Ul prog 170 (.int .i32) := ⟨by kernel_rfl⟩
instance oneC_171 : OneC prog 171 := ⟨fun w => by kernel_rfl, by kernel_rfl⟩
instance zeroC_171 : ZeroC prog 171 (.int .i32 0) := ⟨by kernel_rfl⟩
instance ul_171 : Ul prog 171 (.int .i32) := ⟨by kernel_rfl⟩
instance aggC_172 : AggC prog 172 11 := ⟨fun w => by kernel_rfl, by kernel_rfl⟩
instance zeroC_172 : ZeroC prog 172 (.agg #[(.int .u64 0), (.int .u64 0), (.int .u32 0), (.int .u8 0), (.int .u8 0), (.int .u8 0), (.int .u8 0), .nilFunc, (.pointer none), (.int .i32 0), (.int .i32 0)]) := ⟨by kernel_rfl⟩
instance fld_172_0 : FldOff prog 172 0 0 := ⟨fun b o w => by kernel_rfl⟩
instance fld_172_1 : FldOff prog 172 1 1 := ⟨fun b o w => by kernel_rfl⟩
instance fld_172_2 : FldOff prog 172 2 2 := ⟨fun b o w => by kernel_rfl⟩
instance fld_172_3 : FldOff prog 172 3 3 := ⟨fun b o w => by kernel_rfl⟩
instance fld_172_4 : FldOff prog 172 4 4 := ⟨fun b o w => by kernel_rfl⟩
instance fld_172_5 : FldOff prog 172 5 5 := ⟨fun b o w => by kernel_rfl⟩
instance fld_172_6 : FldOff prog 172 6 6 := ⟨fun b o w => by kernel_rfl⟩
instance fld_172_7 : FldOff prog 172 7 7 := ⟨fun b o w => by kernel_rfl⟩
instance fld_172_8 : FldOff prog 172 8 8 := ⟨fun b o w => by kernel_rfl⟩
instance fld_172_9 : FldOff prog 172 9 9 := ⟨fun b o w => by kernel_rfl⟩
instance fld_172_10 : FldOff prog 172 10 10 := ⟨fun b o w => by kernel_rfl⟩
instance aggC_173 : AggC prog 173 11 := ⟨fun w => by kernel_rfl, by kernel_rfl⟩
instance zeroC_173 : ZeroC prog 173 (.agg #[(.int .u64 0), (.int .u64 0), (.int .u32 0), (.int .u8 0), (.int .u8 0), (.int .u8 0), (.int .u8 0), .nilFunc, (.pointer none), (.int .i32 0), (.int .i32 0)]) := ⟨by kernel_rfl⟩
instance fld_173_0 : FldOff prog 173 0 0 := ⟨fun b o w => by kernel_rfl⟩
instance fld_173_1 : FldOff prog 173 1 1 := ⟨fun b o w => by kernel_rfl⟩
instance fld_173_2 : FldOff prog 173 2 2 := ⟨fun b o w => by kernel_rfl⟩
instance fld_173_3 : FldOff prog 173 3 3 := ⟨fun b o w => by kernel_rfl⟩
instance fld_173_4 : FldOff prog 173 4 4 := ⟨fun b o w => by kernel_rfl⟩
instance fld_173_5 : FldOff prog 173 5 5 := ⟨fun b o w => by kernel_rfl⟩
instance fld_173_6 : FldOff prog 173 6 6 := ⟨fun b o w => by kernel_rfl⟩
instance fld_173_7 : FldOff prog 173 7 7 := ⟨fun b o w => by kernel_rfl⟩
instance fld_173_8 : FldOff prog 173 8 8 := ⟨fun b o w => by kernel_rfl⟩
instance fld_173_9 : FldOff prog 173 9 9 := ⟨fun b o w => by kernel_rfl⟩
instance fld_173_10 : FldOff prog 173 10 10 := ⟨fun b o w => by kernel_rfl⟩
instance oneC_174 : OneC prog 174 := ⟨fun w => by kernel_rfl, by kernel_rfl⟩
instance zeroC_174 : ZeroC prog 174 (.pointer none) := ⟨by kernel_rfl⟩

end Go.Proofs.Ytgkeplodfkmnlaa
