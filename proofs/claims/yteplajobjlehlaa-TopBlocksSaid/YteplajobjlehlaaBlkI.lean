import Derived.Test.YteplajobjlehlaaProg
import Derived.Test.YteplajobjlehlaaVc
import Derived.KernelRfl
set_option linter.all false
set_option maxRecDepth 100000
namespace Go.Proofs.Yteplajobjlehlaa
open Go Hold
noncomputable abbrev prog : Program := Try.prog
instance oneC_2 : OneC prog 2 := ⟨fun w => by kernel_rfl, by kernel_rfl⟩
instance zeroC_2 : ZeroC prog 2 (.int .i64 0) := ⟨by kernel_rfl⟩
instance ul_2 : Ul prog 2 (.int .i64) := ⟨by kernel_rfl⟩
instance oneC_3 : OneC prog 3 := ⟨fun w => by kernel_rfl, by kernel_rfl⟩
instance zeroC_3 : ZeroC prog 3 (.int .i64 0) := ⟨by kernel_rfl⟩
instance ul_3 : Ul prog 3 (.int .i64) := ⟨by kernel_rfl⟩
instance oneC_4 : OneC prog 4 := ⟨fun w => by kernel_rfl, by kernel_rfl⟩
instance zeroC_4 : ZeroC prog 4 (.bool false) := ⟨by kernel_rfl⟩
instance ul_4 : Ul prog 4 .bool := ⟨by kernel_rfl⟩
instance oneC_5 : OneC prog 5 := ⟨fun w => by kernel_rfl, by kernel_rfl⟩
instance zeroC_5 : ZeroC prog 5 (.int .u8 0) := ⟨by kernel_rfl⟩
instance ul_5 : Ul prog 5 (.int .u8) := ⟨by kernel_rfl⟩
instance oneC_6 : OneC prog 6 := ⟨fun w => by kernel_rfl, by kernel_rfl⟩
instance zeroC_6 : ZeroC prog 6 (.int .u8 0) := ⟨by kernel_rfl⟩
instance ul_6 : Ul prog 6 (.int .u8) := ⟨by kernel_rfl⟩
instance aggC_7 : AggC prog 7 4 := ⟨fun w => by kernel_rfl, by kernel_rfl⟩
instance zeroC_7 : ZeroC prog 7 (.agg #[(.int .i64 0), (.int .i64 0), (.bool false), (.int .u8 0)]) := ⟨by kernel_rfl⟩
instance fld_7_0 : FldOff prog 7 0 0 := ⟨fun b o w => by kernel_rfl⟩
instance fld_7_1 : FldOff prog 7 1 1 := ⟨fun b o w => by kernel_rfl⟩
instance fld_7_2 : FldOff prog 7 2 2 := ⟨fun b o w => by kernel_rfl⟩
instance fld_7_3 : FldOff prog 7 3 3 := ⟨fun b o w => by kernel_rfl⟩
instance aggC_8 : AggC prog 8 4 := ⟨fun w => by kernel_rfl, by kernel_rfl⟩
instance zeroC_8 : ZeroC prog 8 (.agg #[(.int .i64 0), (.int .i64 0), (.bool false), (.int .u8 0)]) := ⟨by kernel_rfl⟩
instance fld_8_0 : FldOff prog 8 0 0 := ⟨fun b o w => by kernel_rfl⟩
instance fld_8_1 : FldOff prog 8 1 1 := ⟨fun b o w => by kernel_rfl⟩
instance fld_8_2 : FldOff prog 8 2 2 := ⟨fun b o w => by kernel_rfl⟩
instance fld_8_3 : FldOff prog 8 3 3 := ⟨fun b o w => by kernel_rfl⟩
instance oneC_9 : OneC prog 9 := ⟨fun w => by kernel_rfl, by kernel_rfl⟩
instance zeroC_9 : ZeroC prog 9 (.string ⟨#[]⟩) := ⟨by kernel_rfl⟩
instance ul_9 : Ul prog 9 .string := ⟨by kernel_rfl⟩
instance oneC_10 : OneC prog 10 := ⟨fun w => by kernel_rfl, by kernel_rfl⟩
instance zeroC_10 : ZeroC prog 10 (.string ⟨#[]⟩) := ⟨by kernel_rfl⟩
instance ul_10 : Ul prog 10 .string := ⟨by kernel_rfl⟩
instance oneC_11 : OneC prog 11 := ⟨fun w => by kernel_rfl, by kernel_rfl⟩
instance zeroC_11 : ZeroC prog 11 (.string ⟨#[]⟩) := ⟨by kernel_rfl⟩
instance ul_11 : Ul prog 11 .string := ⟨by kernel_rfl⟩
instance oneC_12 : OneC prog 12 := ⟨fun w => by kernel_rfl, by kernel_rfl⟩
instance zeroC_12 : ZeroC prog 12 (.int .u64 0) := ⟨by kernel_rfl⟩
instance ul_12 : Ul prog 12 (.int .u64) := ⟨by kernel_rfl⟩
instance aggC_13 : AggC prog 13 2 := ⟨fun w => by kernel_rfl, by kernel_rfl⟩
instance zeroC_13 : ZeroC prog 13 (.agg #[(.string ⟨#[]⟩), (.int .u64 0)]) := ⟨by kernel_rfl⟩
instance fld_13_0 : FldOff prog 13 0 0 := ⟨fun b o w => by kernel_rfl⟩
instance fld_13_1 : FldOff prog 13 1 1 := ⟨fun b o w => by kernel_rfl⟩
instance aggC_14 : AggC prog 14 2 := ⟨fun w => by kernel_rfl, by kernel_rfl⟩
instance zeroC_14 : ZeroC prog 14 (.agg #[(.string ⟨#[]⟩), (.int .u64 0)]) := ⟨by kernel_rfl⟩
instance fld_14_0 : FldOff prog 14 0 0 := ⟨fun b o w => by kernel_rfl⟩
instance fld_14_1 : FldOff prog 14 1 1 := ⟨fun b o w => by kernel_rfl⟩
instance oneC_15 : OneC prog 15 := ⟨fun w => by kernel_rfl, by kernel_rfl⟩
instance zeroC_15 : ZeroC prog 15 (.pointer none) := ⟨by kernel_rfl⟩
instance ul_15 : Ul prog 15 (.pointer 103) := ⟨by kernel_rfl⟩
instance oneC_16 : OneC prog 16 := ⟨fun w => by kernel_rfl, by kernel_rfl⟩
instance zeroC_16 : ZeroC prog 16 (.pointer none) := ⟨by kernel_rfl⟩
instance ul_16 : Ul prog 16 (.pointer 106) := ⟨by kernel_rfl⟩
instance oneC_17 : OneC prog 17 := ⟨fun w => by kernel_rfl, by kernel_rfl⟩
instance zeroC_17 : ZeroC prog 17 (.pointer none) := ⟨by kernel_rfl⟩
instance ul_17 : Ul prog 17 (.pointer 115) := ⟨by kernel_rfl⟩
instance aggC_18 : AggC prog 18 1 := ⟨fun w => by kernel_rfl, by kernel_rfl⟩
instance zeroC_18 : ZeroC prog 18 (.agg #[(.pointer none)]) := ⟨by kernel_rfl⟩
instance fld_18_0 : FldOff prog 18 0 0 := ⟨fun b o w => by kernel_rfl⟩
instance aggC_19 : AggC prog 19 1 := ⟨fun w => by kernel_rfl, by kernel_rfl⟩
instance zeroC_19 : ZeroC prog 19 (.agg #[(.pointer none)]) := ⟨by kernel_rfl⟩
instance fld_19_0 : FldOff prog 19 0 0 := ⟨fun b o w => by kernel_rfl⟩
instance oneC_20 : OneC prog 20 := ⟨fun w => by kernel_rfl, by kernel_rfl⟩
instance zeroC_20 : ZeroC prog 20 .nilIface := ⟨by kernel_rfl⟩
instance oneC_21 : OneC prog 21 := ⟨fun w => by kernel_rfl, by kernel_rfl⟩
instance zeroC_21 : ZeroC prog 21 (.int .i32 0) := ⟨by kernel_rfl⟩
instance ul_21 : Ul prog 21 (.int .i32) := ⟨by kernel_rfl⟩
instance oneC_22 : OneC prog 22 := ⟨fun w => by kernel_rfl, by kernel_rfl⟩
instance zeroC_22 : ZeroC prog 22 (.slice none 0 0) := ⟨by kernel_rfl⟩
instance sliceT_22 : SliceT prog 22 24 3 24 (.agg #[(.int .i64 0), (.int .i64 0), (.int .u8 0)]) := ⟨by kernel_rfl, by kernel_rfl, rfl, by decide⟩
instance ul_22 : Ul prog 22 (.slice 24) := ⟨by kernel_rfl⟩
instance aggC_23 : AggC prog 23 3 := ⟨fun w => by kernel_rfl, by kernel_rfl⟩
instance zeroC_23 : ZeroC prog 23 (.agg #[(.int .i64 0), (.int .i64 0), (.int .u8 0)]) := ⟨by kernel_rfl⟩
instance fld_23_0 : FldOff prog 23 0 0 := ⟨fun b o w => by kernel_rfl⟩
instance fld_23_1 : FldOff prog 23 1 1 := ⟨fun b o w => by kernel_rfl⟩
instance fld_23_2 : FldOff prog 23 2 2 := ⟨fun b o w => by kernel_rfl⟩
instance aggC_24 : AggC prog 24 3 := ⟨fun w => by kernel_rfl, by kernel_rfl⟩
instance zeroC_24 : ZeroC prog 24 (.agg #[(.int .i64 0), (.int .i64 0), (.int .u8 0)]) := ⟨by kernel_rfl⟩
instance fld_24_0 : FldOff prog 24 0 0 := ⟨fun b o w => by kernel_rfl⟩
instance fld_24_1 : FldOff prog 24 1 1 := ⟨fun b o w => by kernel_rfl⟩
instance fld_24_2 : FldOff prog 24 2 2 := ⟨fun b o w => by kernel_rfl⟩
instance oneC_25 : OneC prog 25 := ⟨fun w => by kernel_rfl, by kernel_rfl⟩
instance zeroC_25 : ZeroC prog 25 (.pointer none) := ⟨by kernel_rfl⟩
instance ul_25 : Ul prog 25 (.pointer 79) := ⟨by kernel_rfl⟩
instance oneC_26 : OneC prog 26 := ⟨fun w => by kernel_rfl, by kernel_rfl⟩
instance zeroC_26 : ZeroC prog 26 (.pointer none) := ⟨by kernel_rfl⟩
instance ul_26 : Ul prog 26 (.pointer 50) := ⟨by kernel_rfl⟩
instance oneC_30 : OneC prog 30 := ⟨fun w => by kernel_rfl, by kernel_rfl⟩
instance zeroC_30 : ZeroC prog 30 (.slice none 0 0) := ⟨by kernel_rfl⟩
instance sliceT_30 : SliceT prog 30 32 1 24 (.slice none 0 0) := ⟨by kernel_rfl, by kernel_rfl, rfl, by decide⟩
instance ul_30 : Ul prog 30 (.slice 32) := ⟨by kernel_rfl⟩
instance oneC_32 : OneC prog 32 := ⟨fun w => by kernel_rfl, by kernel_rfl⟩
instance zeroC_32 : ZeroC prog 32 (.slice none 0 0) := ⟨by kernel_rfl⟩
instance sliceT_32 : SliceT prog 32 5 1 1 (.int .u8 0) := ⟨by kernel_rfl, by kernel_rfl, rfl, by decide⟩
instance ul_32 : Ul prog 32 (.slice 5) := ⟨by kernel_rfl⟩
instance oneC_34 : OneC prog 34 := ⟨fun w => by kernel_rfl, by kernel_rfl⟩
instance zeroC_34 : ZeroC prog 34 (.int .i64 0) := ⟨by kernel_rfl⟩
instance ul_34 : Ul prog 34 (.int .i64) := ⟨by kernel_rfl⟩
instance oneC_42 : OneC prog 42 := ⟨fun w => by kernel_rfl, by kernel_rfl⟩
instance zeroC_42 : ZeroC prog 42 (.slice none 0 0) := ⟨by kernel_rfl⟩
instance sliceT_42 : SliceT prog 42 3 1 8 (.int .i64 0) := ⟨by kernel_rfl, by kernel_rfl, rfl, by decide⟩
instance ul_42 : Ul prog 42 (.slice 3) := ⟨by kernel_rfl⟩
instance oneC_48 : OneC prog 48 := ⟨fun w => by kernel_rfl, by kernel_rfl⟩
instance zeroC_48 : ZeroC prog 48 (.slice none 0 0) := ⟨by kernel_rfl⟩
instance sliceT_48 : SliceT prog 48 52 2 32 (.agg #[(.int .i64 0), (.slice none 0 0)]) := ⟨by kernel_rfl, by kernel_rfl, rfl, by decide⟩
instance ul_48 : Ul prog 48 (.slice 52) := ⟨by kernel_rfl⟩
instance aggC_49 : AggC prog 49 2 := ⟨fun w => by kernel_rfl, by kernel_rfl⟩
instance zeroC_49 : ZeroC prog 49 (.agg #[(.slice none 0 0), (.slice none 0 0)]) := ⟨by kernel_rfl⟩
instance fld_49_0 : FldOff prog 49 0 0 := ⟨fun b o w => by kernel_rfl⟩
instance fld_49_1 : FldOff prog 49 1 1 := ⟨fun b o w => by kernel_rfl⟩
instance aggC_50 : AggC prog 50 2 := ⟨fun w => by kernel_rfl, by kernel_rfl⟩
instance zeroC_50 : ZeroC prog 50 (.agg #[(.slice none 0 0), (.slice none 0 0)]) := ⟨by kernel_rfl⟩
instance fld_50_0 : FldOff prog 50 0 0 := ⟨fun b o w => by kernel_rfl⟩
instance fld_50_1 : FldOff prog 50 1 1 := ⟨fun b o w => by kernel_rfl⟩
instance aggC_51 : AggC prog 51 2 := ⟨fun w => by kernel_rfl, by kernel_rfl⟩
instance zeroC_51 : ZeroC prog 51 (.agg #[(.int .i64 0), (.slice none 0 0)]) := ⟨by kernel_rfl⟩
instance fld_51_0 : FldOff prog 51 0 0 := ⟨fun b o w => by kernel_rfl⟩
instance fld_51_1 : FldOff prog 51 1 1 := ⟨fun b o w => by kernel_rfl⟩
instance aggC_52 : AggC prog 52 2 := ⟨fun w => by kernel_rfl, by kernel_rfl⟩
instance zeroC_52 : ZeroC prog 52 (.agg #[(.int .i64 0), (.slice none 0 0)]) := ⟨by kernel_rfl⟩
instance fld_52_0 : FldOff prog 52 0 0 := ⟨fun b o w => by kernel_rfl⟩
instance fld_52_1 : FldOff prog 52 1 1 := ⟨fun b o w => by kernel_rfl⟩
instance oneC_65 : OneC prog 65 := ⟨fun w => by kernel_rfl, by kernel_rfl⟩
instance zeroC_65 : ZeroC prog 65 (.slice none 0 0) := ⟨by kernel_rfl⟩
instance sliceT_65 : SliceT prog 65 9 1 16 (.string ⟨#[]⟩) := ⟨by kernel_rfl, by kernel_rfl, rfl, by decide⟩
instance ul_65 : Ul prog 65 (.slice 9) := ⟨by kernel_rfl⟩
instance oneC_72 : OneC prog 72 := ⟨fun w => by kernel_rfl, by kernel_rfl⟩
instance zeroC_72 : ZeroC prog 72 (.slice none 0 0) := ⟨by kernel_rfl⟩
instance sliceT_72 : SliceT prog 72 81 2 32 (.agg #[(.int .i64 0), (.slice none 0 0)]) := ⟨by kernel_rfl, by kernel_rfl, rfl, by decide⟩
instance ul_72 : Ul prog 72 (.slice 81) := ⟨by kernel_rfl⟩
instance aggC_73 : AggC prog 73 0 := ⟨fun w => by kernel_rfl, by kernel_rfl⟩
instance zeroC_73 : ZeroC prog 73 (.agg #[]) := ⟨by kernel_rfl⟩
instance aggC_74 : AggC prog 74 0 := ⟨fun w => by kernel_rfl, by kernel_rfl⟩
instance zeroC_74 : ZeroC prog 74 (.agg #[]) := ⟨by kernel_rfl⟩
instance aggC_75 : AggC prog 75 0 := ⟨fun w => by kernel_rfl, by kernel_rfl⟩
instance zeroC_75 : ZeroC prog 75 (.agg #[]) := ⟨by kernel_rfl⟩
instance aggC_76 : AggC prog 76 1 := ⟨fun w => by kernel_rfl, by kernel_rfl⟩
instance zeroC_76 : ZeroC prog 76 (.agg #[(.int .i64 0)]) := ⟨by kernel_rfl⟩
instance fld_76_2 : FldOff prog 76 2 0 := ⟨fun b o w => by kernel_rfl⟩
instance aggC_77 : AggC prog 77 1 := ⟨fun w => by kernel_rfl, by kernel_rfl⟩
instance zeroC_77 : ZeroC prog 77 (.agg #[(.int .i64 0)]) := ⟨by kernel_rfl⟩
instance fld_77_2 : FldOff prog 77 2 0 := ⟨fun b o w => by kernel_rfl⟩
instance aggC_78 : AggC prog 78 3 := ⟨fun w => by kernel_rfl, by kernel_rfl⟩
instance zeroC_78 : ZeroC prog 78 (.agg #[(.slice none 0 0), (.slice none 0 0), (.int .i64 0)]) := ⟨by kernel_rfl⟩
instance fld_78_0 : FldOff prog 78 0 0 := ⟨fun b o w => by kernel_rfl⟩
instance fld_78_1 : FldOff prog 78 1 1 := ⟨fun b o w => by kernel_rfl⟩
instance fld_78_2 : FldOff prog 78 2 2 := ⟨fun b o w => by kernel_rfl⟩
instance aggC_79 : AggC prog 79 3 := ⟨fun w => by kernel_rfl, by kernel_rfl⟩
instance zeroC_79 : ZeroC prog 79 (.agg #[(.slice none 0 0), (.slice none 0 0), (.int .i64 0)]) := ⟨by kernel_rfl⟩
instance fld_79_0 : FldOff prog 79 0 0 := ⟨fun b o w => by kernel_rfl⟩
instance fld_79_1 : FldOff prog 79 1 1 := ⟨fun b o w => by kernel_rfl⟩
instance fld_79_2 : FldOff prog 79 2 2 := ⟨fun b o w => by kernel_rfl⟩
instance aggC_80 : AggC prog 80 2 := ⟨fun w => by kernel_rfl, by kernel_rfl⟩
instance zeroC_80 : ZeroC prog 80 (.agg #[(.int .i64 0), (.slice none 0 0)]) := ⟨by kernel_rfl⟩
instance fld_80_0 : FldOff prog 80 0 0 := ⟨fun b o w => by kernel_rfl⟩
instance fld_80_1 : FldOff prog 80 1 1 := ⟨fun b o w => by kernel_rfl⟩
instance aggC_81 : AggC prog 81 2 := ⟨fun w => by kernel_rfl, by kernel_rfl⟩
instance zeroC_81 : ZeroC prog 81 (.agg #[(.int .i64 0), (.slice none 0 0)]) := ⟨by kernel_rfl⟩
instance fld_81_0 : FldOff prog 81 0 0 := ⟨fun b o w => by kernel_rfl⟩
instance fld_81_1 : FldOff prog 81 1 1 := ⟨fun b o w => by kernel_rfl⟩
instance oneC_94 : OneC prog 94 := ⟨fun w => by kernel_rfl, by kernel_rfl⟩
instance zeroC_94 : ZeroC prog 94 (.pointer none) := ⟨by kernel_rfl⟩
instance ul_94 : Ul prog 94 (.pointer 77) := ⟨by kernel_rfl⟩
instance oneC_96 : OneC prog 96 := ⟨fun w => by kernel_rfl, by kernel_rfl⟩
instance zeroC_96 : ZeroC prog 96 (.pointer none) := ⟨by kernel_rfl⟩
instance ul_96 : Ul prog 96 (.pointer 2) := ⟨by kernel_rfl⟩
instance aggC_102 : AggC prog 102 4 := ⟨fun w => by kernel_rfl, by kernel_rfl⟩
instance zeroC_102 : ZeroC prog 102 (.agg #[(.pointer none), (.pointer none), (.pointer none), (.string ⟨#[]⟩)]) := ⟨by kernel_rfl⟩
instance fld_102_0 : FldOff prog 102 0 0 := ⟨fun b o w => by kernel_rfl⟩
instance fld_102_1 : FldOff prog 102 1 1 := ⟨fun b o w => by kernel_rfl⟩
instance fld_102_2 : FldOff prog 102 2 2 := ⟨fun b o w => by kernel_rfl⟩
instance fld_102_3 : FldOff prog 102 3 3 := ⟨fun b o w => by kernel_rfl⟩
instance aggC_103 : AggC prog 103 4 := ⟨fun w => by kernel_rfl, by kernel_rfl⟩
instance zeroC_103 : ZeroC prog 103 (.agg #[(.pointer none), (.pointer none), (.pointer none), (.string ⟨#[]⟩)]) := ⟨by kernel_rfl⟩
instance fld_103_0 : FldOff prog 103 0 0 := ⟨fun b o w => by kernel_rfl⟩
instance fld_103_1 : FldOff prog 103 1 1 := ⟨fun b o w => by kernel_rfl⟩
instance fld_103_2 : FldOff prog 103 2 2 := ⟨fun b o w => by kernel_rfl⟩
instance fld_103_3 : FldOff prog 103 3 3 := ⟨fun b o w => by kernel_rfl⟩
instance aggC_104 : AggC prog 104 0 := ⟨fun w => by kernel_rfl, by kernel_rfl⟩
instance zeroC_104 : ZeroC prog 104 (.agg #[]) := ⟨by kernel_rfl⟩
instance ul_104 : Ul prog 104 (.array 0 16) := ⟨by kernel_rfl⟩
instance aggC_105 : AggC prog 105 0 := ⟨fun w => by kernel_rfl, by kernel_rfl⟩
instance zeroC_105 : ZeroC prog 105 (.agg #[]) := ⟨by kernel_rfl⟩
instance aggC_106 : AggC prog 106 0 := ⟨fun w => by kernel_rfl, by kernel_rfl⟩
instance zeroC_106 : ZeroC prog 106 (.agg #[]) := ⟨by kernel_rfl⟩
instance oneC_107 : OneC prog 107 := ⟨fun w => by kernel_rfl, by kernel_rfl⟩
instance zeroC_107 : ZeroC prog 107 (.int .u32 0) := ⟨by kernel_rfl⟩
instance ul_107 : Ul prog 107 (.int .u32) := ⟨by kernel_rfl⟩
instance oneC_108 : OneC prog 108 := ⟨fun w => by kernel_rfl, by kernel_rfl⟩
instance zeroC_108 : ZeroC prog 108 (.int .u8 0) := ⟨by kernel_rfl⟩
instance ul_108 : Ul prog 108 (.int .u8) := ⟨by kernel_rfl⟩
instance oneC_109 : OneC prog 109 := ⟨fun w => by kernel_rfl, by kernel_rfl⟩
instance zeroC_109 : ZeroC prog 109 (.int .u8 0) := ⟨by kernel_rfl⟩
instance ul_109 : Ul prog 109 (.int .u8) := ⟨by kernel_rfl⟩
instance oneC_111 : OneC prog 111 := ⟨fun w => by kernel_rfl, by kernel_rfl⟩
instance zeroC_111 : ZeroC prog 111 (.pointer none) := ⟨by kernel_rfl⟩
instance ul_111 : Ul prog 111 (.pointer 5) := ⟨by kernel_rfl⟩
instance oneC_112 : OneC prog 112 := ⟨fun w => by kernel_rfl, by kernel_rfl⟩
instance zeroC_112 : ZeroC prog 112 (.int .i32 0) := ⟨by kernel_rfl⟩
instance ul_112 : Ul prog 112 (.int .i32) := ⟨by kernel_rfl⟩
instance oneC_113 : OneC prog 113 := ⟨fun w => by kernel_rfl, by kernel_rfl⟩
instance zeroC_113 : ZeroC prog 113 (.int .i32 0) := ⟨by kernel_rfl⟩
instance ul_113 : Ul prog 113 (.int .i32) := ⟨by kernel_rfl⟩
instance aggC_114 : AggC prog 114 11 := ⟨fun w => by kernel_rfl, by kernel_rfl⟩
instance zeroC_114 : ZeroC prog 114 (.agg #[(.int .u64 0), (.int .u64 0), (.int .u32 0), (.int .u8 0), (.int .u8 0), (.int .u8 0), (.int .u8 0), .nilFunc, (.pointer none), (.int .i32 0), (.int .i32 0)]) := ⟨by kernel_rfl⟩
instance fld_114_0 : FldOff prog 114 0 0 := ⟨fun b o w => by kernel_rfl⟩
instance fld_114_1 : FldOff prog 114 1 1 := ⟨fun b o w => by kernel_rfl⟩
instance fld_114_2 : FldOff prog 114 2 2 := ⟨fun b o w => by kernel_rfl⟩
instance fld_114_3 : FldOff prog 114 3 3 := ⟨fun b o w => by kernel_rfl⟩
instance fld_114_4 : FldOff prog 114 4 4 := ⟨fun b o w => by kernel_rfl⟩
instance fld_114_5 : FldOff prog 114 5 5 := ⟨fun b o w => by kernel_rfl⟩
instance fld_114_6 : FldOff prog 114 6 6 := ⟨fun b o w => by kernel_rfl⟩
instance fld_114_7 : FldOff prog 114 7 7 := ⟨fun b o w => by kernel_rfl⟩
instance fld_114_8 : FldOff prog 114 8 8 := ⟨fun b o w => by kernel_rfl⟩
instance fld_114_9 : FldOff prog 114 9 9 := ⟨fun b o w => by kernel_rfl⟩
instance fld_114_10 : FldOff prog 114 10 10 := ⟨fun b o w => by kernel_rfl⟩
instance aggC_115 : AggC prog 115 11 := ⟨fun w => by kernel_rfl, by kernel_rfl⟩
instance zeroC_115 : ZeroC prog 115 (.agg #[(.int .u64 0), (.int .u64 0), (.int .u32 0), (.int .u8 0), (.int .u8 0), (.int .u8 0), (.int .u8 0), .nilFunc, (.pointer none), (.int .i32 0), (.int .i32 0)]) := ⟨by kernel_rfl⟩
instance fld_115_0 : FldOff prog 115 0 0 := ⟨fun b o w => by kernel_rfl⟩
instance fld_115_1 : FldOff prog 115 1 1 := ⟨fun b o w => by kernel_rfl⟩
instance fld_115_2 : FldOff prog 115 2 2 := ⟨fun b o w => by kernel_rfl⟩
instance fld_115_3 : FldOff prog 115 3 3 := ⟨fun b o w => by kernel_rfl⟩
instance fld_115_4 : FldOff prog 115 4 4 := ⟨fun b o w => by kernel_rfl⟩
instance fld_115_5 : FldOff prog 115 5 5 := ⟨fun b o w => by kernel_rfl⟩
instance fld_115_6 : FldOff prog 115 6 6 := ⟨fun b o w => by kernel_rfl⟩
instance fld_115_7 : FldOff prog 115 7 7 := ⟨fun b o w => by kernel_rfl⟩
instance fld_115_8 : FldOff prog 115 8 8 := ⟨fun b o w => by kernel_rfl⟩
instance fld_115_9 : FldOff prog 115 9 9 := ⟨fun b o w => by kernel_rfl⟩
instance fld_115_10 : FldOff prog 115 10 10 := ⟨fun b o w => by kernel_rfl⟩
instance oneC_116 : OneC prog 116 := ⟨fun w => by kernel_rfl, by kernel_rfl⟩
instance zeroC_116 : ZeroC prog 116 (.pointer none) := ⟨by kernel_rfl⟩

end Go.Proofs.Yteplajobjlehlaa
