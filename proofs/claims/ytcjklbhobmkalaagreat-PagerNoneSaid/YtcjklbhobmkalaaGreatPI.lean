import Derived.Test.YtcjklbhobmkalaaGreatProg
import Derived.Test.YtcjklbhobmkalaaGreatVc
import Derived.KernelRfl
set_option linter.all false
set_option maxRecDepth 100000
namespace Go.Proofs.YtcjklbhobmkalaaGreat
open Go Hold
noncomputable abbrev prog : Program := Tryz.prog
instance oneC_2 : OneC prog 2 := ⟨fun w => by kernel_rfl, by kernel_rfl⟩
instance zeroC_2 : ZeroC prog 2 (.int .i64 0) := ⟨by kernel_rfl⟩
instance ul_2 : Ul prog 2 (.int .i64) := ⟨by kernel_rfl⟩
instance oneC_3 : OneC prog 3 := ⟨fun w => by kernel_rfl, by kernel_rfl⟩
instance zeroC_3 : ZeroC prog 3 (.int .i64 0) := ⟨by kernel_rfl⟩
instance ul_3 : Ul prog 3 (.int .i64) := ⟨by kernel_rfl⟩
instance oneC_4 : OneC prog 4 := ⟨fun w => by kernel_rfl, by kernel_rfl⟩
instance zeroC_4 : ZeroC prog 4 (.bool false) := ⟨by kernel_rfl⟩
instance ul_4 : Ul prog 4 .bool := ⟨by kernel_rfl⟩
instance oneC_5 : OneC prog 5 := ⟨fun w => by kernel_rfl, by kernel_rfl⟩
instance zeroC_5 : ZeroC prog 5 (.int .u8 0) := ⟨by kernel_rfl⟩
instance ul_5 : Ul prog 5 (.int .u8) := ⟨by kernel_rfl⟩
instance oneC_6 : OneC prog 6 := ⟨fun w => by kernel_rfl, by kernel_rfl⟩
instance zeroC_6 : ZeroC prog 6 (.int .u8 0) := ⟨by kernel_rfl⟩
instance ul_6 : Ul prog 6 (.int .u8) := ⟨by kernel_rfl⟩
instance aggC_7 : AggC prog 7 4 := ⟨fun w => by kernel_rfl, by kernel_rfl⟩
instance zeroC_7 : ZeroC prog 7 (.agg #[(.int .i64 0), (.int .i64 0), (.bool false), (.int .u8 0)]) := ⟨by kernel_rfl⟩
instance fld_7_0 : FldOff prog 7 0 0 := ⟨fun b o w => by kernel_rfl⟩
instance fld_7_1 : FldOff prog 7 1 1 := ⟨fun b o w => by kernel_rfl⟩
instance fld_7_2 : FldOff prog 7 2 2 := ⟨fun b o w => by kernel_rfl⟩
instance fld_7_3 : FldOff prog 7 3 3 := ⟨fun b o w => by kernel_rfl⟩
instance aggC_8 : AggC prog 8 4 := ⟨fun w => by kernel_rfl, by kernel_rfl⟩
instance zeroC_8 : ZeroC prog 8 (.agg #[(.int .i64 0), (.int .i64 0), (.bool false), (.int .u8 0)]) := ⟨by kernel_rfl⟩
instance fld_8_0 : FldOff prog 8 0 0 := ⟨fun b o w => by kernel_rfl⟩
instance fld_8_1 : FldOff prog 8 1 1 := ⟨fun b o w => by kernel_rfl⟩
instance fld_8_2 : FldOff prog 8 2 2 := ⟨fun b o w => by kernel_rfl⟩
instance fld_8_3 : FldOff prog 8 3 3 := ⟨fun b o w => by kernel_rfl⟩
instance oneC_9 : OneC prog 9 := ⟨fun w => by kernel_rfl, by kernel_rfl⟩
instance zeroC_9 : ZeroC prog 9 (.string ⟨#[]⟩) := ⟨by kernel_rfl⟩
instance ul_9 : Ul prog 9 .string := ⟨by kernel_rfl⟩
instance oneC_10 : OneC prog 10 := ⟨fun w => by kernel_rfl, by kernel_rfl⟩
instance zeroC_10 : ZeroC prog 10 (.string ⟨#[]⟩) := ⟨by kernel_rfl⟩
instance ul_10 : Ul prog 10 .string := ⟨by kernel_rfl⟩
instance oneC_11 : OneC prog 11 := ⟨fun w => by kernel_rfl, by kernel_rfl⟩
instance zeroC_11 : ZeroC prog 11 (.string ⟨#[]⟩) := ⟨by kernel_rfl⟩
instance ul_11 : Ul prog 11 .string := ⟨by kernel_rfl⟩
instance oneC_12 : OneC prog 12 := ⟨fun w => by kernel_rfl, by kernel_rfl⟩
instance zeroC_12 : ZeroC prog 12 (.int .u64 0) := ⟨by kernel_rfl⟩
instance ul_12 : Ul prog 12 (.int .u64) := ⟨by kernel_rfl⟩
instance aggC_13 : AggC prog 13 2 := ⟨fun w => by kernel_rfl, by kernel_rfl⟩
instance zeroC_13 : ZeroC prog 13 (.agg #[(.string ⟨#[]⟩), (.int .u64 0)]) := ⟨by kernel_rfl⟩
instance fld_13_0 : FldOff prog 13 0 0 := ⟨fun b o w => by kernel_rfl⟩
instance fld_13_1 : FldOff prog 13 1 1 := ⟨fun b o w => by kernel_rfl⟩
instance aggC_14 : AggC prog 14 2 := ⟨fun w => by kernel_rfl, by kernel_rfl⟩
instance zeroC_14 : ZeroC prog 14 (.agg #[(.string ⟨#[]⟩), (.int .u64 0)]) := ⟨by kernel_rfl⟩
instance fld_14_0 : FldOff prog 14 0 0 := ⟨fun b o w => by kernel_rfl⟩
instance fld_14_1 : FldOff prog 14 1 1 := ⟨fun b o w => by kernel_rfl⟩
instance oneC_15 : OneC prog 15 := ⟨fun w => by kernel_rfl, by kernel_rfl⟩
instance zeroC_15 : ZeroC prog 15 (.pointer none) := ⟨by kernel_rfl⟩
instance ul_15 : Ul prog 15 (.pointer 179) := ⟨by kernel_rfl⟩
instance oneC_16 : OneC prog 16 := ⟨fun w => by kernel_rfl, by kernel_rfl⟩
instance zeroC_16 : ZeroC prog 16 (.pointer none) := ⟨by kernel_rfl⟩
instance ul_16 : Ul prog 16 (.pointer 182) := ⟨by kernel_rfl⟩
instance oneC_17 : OneC prog 17 := ⟨fun w => by kernel_rfl, by kernel_rfl⟩
instance zeroC_17 : ZeroC prog 17 (.pointer none) := ⟨by kernel_rfl⟩
instance ul_17 : Ul prog 17 (.pointer 190) := ⟨by kernel_rfl⟩
instance aggC_18 : AggC prog 18 1 := ⟨fun w => by kernel_rfl, by kernel_rfl⟩
instance zeroC_18 : ZeroC prog 18 (.agg #[(.pointer none)]) := ⟨by kernel_rfl⟩
instance fld_18_0 : FldOff prog 18 0 0 := ⟨fun b o w => by kernel_rfl⟩
instance aggC_19 : AggC prog 19 1 := ⟨fun w => by kernel_rfl, by kernel_rfl⟩
instance zeroC_19 : ZeroC prog 19 (.agg #[(.pointer none)]) := ⟨by kernel_rfl⟩
instance fld_19_0 : FldOff prog 19 0 0 := ⟨fun b o w => by kernel_rfl⟩
instance oneC_20 : OneC prog 20 := ⟨fun w => by kernel_rfl, by kernel_rfl⟩
instance zeroC_20 : ZeroC prog 20 .nilIface := ⟨by kernel_rfl⟩
instance oneC_21 : OneC prog 21 := ⟨fun w => by kernel_rfl, by kernel_rfl⟩
instance zeroC_21 : ZeroC prog 21 (.int .i32 0) := ⟨by kernel_rfl⟩
instance ul_21 : Ul prog 21 (.int .i32) := ⟨by kernel_rfl⟩
instance oneC_22 : OneC prog 22 := ⟨fun w => by kernel_rfl, by kernel_rfl⟩
instance zeroC_22 : ZeroC prog 22 (.slice none 0 0) := ⟨by kernel_rfl⟩
instance sliceT_22 : SliceT prog 22 3 1 8 (.int .i64 0) := ⟨by kernel_rfl, by kernel_rfl, rfl, by decide⟩
instance ul_22 : Ul prog 22 (.slice 3) := ⟨by kernel_rfl⟩
instance aggC_23 : AggC prog 23 4 := ⟨fun w => by kernel_rfl, by kernel_rfl⟩
instance zeroC_23 : ZeroC prog 23 (.agg #[(.int .i64 0), (.slice none 0 0), (.int .u8 0), (.bool false)]) := ⟨by kernel_rfl⟩
instance fld_23_0 : FldOff prog 23 0 0 := ⟨fun b o w => by kernel_rfl⟩
instance fld_23_1 : FldOff prog 23 1 1 := ⟨fun b o w => by kernel_rfl⟩
instance fld_23_2 : FldOff prog 23 2 2 := ⟨fun b o w => by kernel_rfl⟩
instance fld_23_3 : FldOff prog 23 3 3 := ⟨fun b o w => by kernel_rfl⟩
instance aggC_24 : AggC prog 24 4 := ⟨fun w => by kernel_rfl, by kernel_rfl⟩
instance zeroC_24 : ZeroC prog 24 (.agg #[(.int .i64 0), (.slice none 0 0), (.int .u8 0), (.bool false)]) := ⟨by kernel_rfl⟩
instance fld_24_0 : FldOff prog 24 0 0 := ⟨fun b o w => by kernel_rfl⟩
instance fld_24_1 : FldOff prog 24 1 1 := ⟨fun b o w => by kernel_rfl⟩
instance fld_24_2 : FldOff prog 24 2 2 := ⟨fun b o w => by kernel_rfl⟩
instance fld_24_3 : FldOff prog 24 3 3 := ⟨fun b o w => by kernel_rfl⟩
instance oneC_25 : OneC prog 25 := ⟨fun w => by kernel_rfl, by kernel_rfl⟩
instance zeroC_25 : ZeroC prog 25 (.pointer none) := ⟨by kernel_rfl⟩
instance ul_25 : Ul prog 25 (.pointer 80) := ⟨by kernel_rfl⟩
instance oneC_26 : OneC prog 26 := ⟨fun w => by kernel_rfl, by kernel_rfl⟩
instance zeroC_26 : ZeroC prog 26 (.pointer none) := ⟨by kernel_rfl⟩
instance ul_26 : Ul prog 26 (.pointer 125) := ⟨by kernel_rfl⟩
instance oneC_30 : OneC prog 30 := ⟨fun w => by kernel_rfl, by kernel_rfl⟩
instance zeroC_30 : ZeroC prog 30 (.slice none 0 0) := ⟨by kernel_rfl⟩
instance sliceT_30 : SliceT prog 30 5 1 1 (.int .u8 0) := ⟨by kernel_rfl, by kernel_rfl, rfl, by decide⟩
instance ul_30 : Ul prog 30 (.slice 5) := ⟨by kernel_rfl⟩
instance oneC_32 : OneC prog 32 := ⟨fun w => by kernel_rfl, by kernel_rfl⟩
instance zeroC_32 : ZeroC prog 32 (.int .i64 0) := ⟨by kernel_rfl⟩
instance ul_32 : Ul prog 32 (.int .i64) := ⟨by kernel_rfl⟩
instance oneC_39 : OneC prog 39 := ⟨fun w => by kernel_rfl, by kernel_rfl⟩
instance zeroC_39 : ZeroC prog 39 (.slice none 0 0) := ⟨by kernel_rfl⟩
instance sliceT_39 : SliceT prog 39 24 4 40 (.agg #[(.int .i64 0), (.slice none 0 0), (.int .u8 0), (.bool false)]) := ⟨by kernel_rfl, by kernel_rfl, rfl, by decide⟩
instance ul_39 : Ul prog 39 (.slice 24) := ⟨by kernel_rfl⟩
instance oneC_40 : OneC prog 40 := ⟨fun w => by kernel_rfl, by kernel_rfl⟩
instance zeroC_40 : ZeroC prog 40 (.slice none 0 0) := ⟨by kernel_rfl⟩
instance sliceT_40 : SliceT prog 40 30 1 24 (.slice none 0 0) := ⟨by kernel_rfl, by kernel_rfl, rfl, by decide⟩
instance ul_40 : Ul prog 40 (.slice 30) := ⟨by kernel_rfl⟩
instance oneC_42 : OneC prog 42 := ⟨fun w => by kernel_rfl, by kernel_rfl⟩
instance zeroC_42 : ZeroC prog 42 (.pointer none) := ⟨by kernel_rfl⟩
instance ul_42 : Ul prog 42 (.pointer 97) := ⟨by kernel_rfl⟩
instance oneC_48 : OneC prog 48 := ⟨fun w => by kernel_rfl, by kernel_rfl⟩
instance zeroC_48 : ZeroC prog 48 (.pointer none) := ⟨by kernel_rfl⟩
instance ul_48 : Ul prog 48 (.pointer 101) := ⟨by kernel_rfl⟩
instance oneC_53 : OneC prog 53 := ⟨fun w => by kernel_rfl, by kernel_rfl⟩
instance zeroC_53 : ZeroC prog 53 (.int .u16 0) := ⟨by kernel_rfl⟩
instance ul_53 : Ul prog 53 (.int .u16) := ⟨by kernel_rfl⟩
instance oneC_62 : OneC prog 62 := ⟨fun w => by kernel_rfl, by kernel_rfl⟩
instance zeroC_62 : ZeroC prog 62 (.pointer none) := ⟨by kernel_rfl⟩
instance ul_62 : Ul prog 62 (.pointer 115) := ⟨by kernel_rfl⟩
instance oneC_65 : OneC prog 65 := ⟨fun w => by kernel_rfl, by kernel_rfl⟩
instance zeroC_65 : ZeroC prog 65 (.pointer none) := ⟨by kernel_rfl⟩
instance ul_65 : Ul prog 65 (.pointer 118) := ⟨by kernel_rfl⟩
instance oneC_72 : OneC prog 72 := ⟨fun w => by kernel_rfl, by kernel_rfl⟩
instance zeroC_72 : ZeroC prog 72 (.map none) := ⟨by kernel_rfl⟩
instance ul_72 : Ul prog 72 (.map 3 30) := ⟨by kernel_rfl⟩
instance oneC_73 : OneC prog 73 := ⟨fun w => by kernel_rfl, by kernel_rfl⟩
instance zeroC_73 : ZeroC prog 73 (.map none) := ⟨by kernel_rfl⟩
instance ul_73 : Ul prog 73 (.map 3 4) := ⟨by kernel_rfl⟩
instance aggC_74 : AggC prog 74 0 := ⟨fun w => by kernel_rfl, by kernel_rfl⟩
instance zeroC_74 : ZeroC prog 74 (.agg #[]) := ⟨by kernel_rfl⟩
instance aggC_75 : AggC prog 75 0 := ⟨fun w => by kernel_rfl, by kernel_rfl⟩
instance zeroC_75 : ZeroC prog 75 (.agg #[]) := ⟨by kernel_rfl⟩
instance aggC_76 : AggC prog 76 0 := ⟨fun w => by kernel_rfl, by kernel_rfl⟩
instance zeroC_76 : ZeroC prog 76 (.agg #[]) := ⟨by kernel_rfl⟩
instance aggC_77 : AggC prog 77 1 := ⟨fun w => by kernel_rfl, by kernel_rfl⟩
instance zeroC_77 : ZeroC prog 77 (.agg #[(.int .i64 0)]) := ⟨by kernel_rfl⟩
instance fld_77_2 : FldOff prog 77 2 0 := ⟨fun b o w => by kernel_rfl⟩
instance aggC_78 : AggC prog 78 1 := ⟨fun w => by kernel_rfl, by kernel_rfl⟩
instance zeroC_78 : ZeroC prog 78 (.agg #[(.int .i64 0)]) := ⟨by kernel_rfl⟩
instance fld_78_2 : FldOff prog 78 2 0 := ⟨fun b o w => by kernel_rfl⟩
instance aggC_79 : AggC prog 79 8 := ⟨fun w => by kernel_rfl, by kernel_rfl⟩
instance zeroC_79 : ZeroC prog 79 (.agg #[(.pointer none), (.int .i64 0), (.map none), (.map none), (.slice none 0 0), (.map none), (.int .i64 0), (.int .i64 0)]) := ⟨by kernel_rfl⟩
instance fld_79_0 : FldOff prog 79 0 0 := ⟨fun b o w => by kernel_rfl⟩
instance fld_79_1 : FldOff prog 79 1 1 := ⟨fun b o w => by kernel_rfl⟩
instance fld_79_2 : FldOff prog 79 2 2 := ⟨fun b o w => by kernel_rfl⟩
instance fld_79_3 : FldOff prog 79 3 3 := ⟨fun b o w => by kernel_rfl⟩
instance fld_79_4 : FldOff prog 79 4 4 := ⟨fun b o w => by kernel_rfl⟩
instance fld_79_5 : FldOff prog 79 5 5 := ⟨fun b o w => by kernel_rfl⟩
instance fld_79_6 : FldOff prog 79 6 6 := ⟨fun b o w => by kernel_rfl⟩
instance fld_79_7 : FldOff prog 79 7 7 := ⟨fun b o w => by kernel_rfl⟩
instance aggC_80 : AggC prog 80 8 := ⟨fun w => by kernel_rfl, by kernel_rfl⟩
instance zeroC_80 : ZeroC prog 80 (.agg #[(.pointer none), (.int .i64 0), (.map none), (.map none), (.slice none 0 0), (.map none), (.int .i64 0), (.int .i64 0)]) := ⟨by kernel_rfl⟩
instance fld_80_0 : FldOff prog 80 0 0 := ⟨fun b o w => by kernel_rfl⟩
instance fld_80_1 : FldOff prog 80 1 1 := ⟨fun b o w => by kernel_rfl⟩
instance fld_80_2 : FldOff prog 80 2 2 := ⟨fun b o w => by kernel_rfl⟩
instance fld_80_3 : FldOff prog 80 3 3 := ⟨fun b o w => by kernel_rfl⟩
instance fld_80_4 : FldOff prog 80 4 4 := ⟨fun b o w => by kernel_rfl⟩
instance fld_80_5 : FldOff prog 80 5 5 := ⟨fun b o w => by kernel_rfl⟩
instance fld_80_6 : FldOff prog 80 6 6 := ⟨fun b o w => by kernel_rfl⟩
instance fld_80_7 : FldOff prog 80 7 7 := ⟨fun b o w => by kernel_rfl⟩
instance oneC_84 : OneC prog 84 := ⟨fun w => by kernel_rfl, by kernel_rfl⟩
instance zeroC_84 : ZeroC prog 84 (.slice none 0 0) := ⟨by kernel_rfl⟩
instance sliceT_84 : SliceT prog 84 86 2 32 (.agg #[(.int .i64 0), (.slice none 0 0)]) := ⟨by kernel_rfl, by kernel_rfl, rfl, by decide⟩
instance ul_84 : Ul prog 84 (.slice 86) := ⟨by kernel_rfl⟩
instance aggC_85 : AggC prog 85 2 := ⟨fun w => by kernel_rfl, by kernel_rfl⟩
instance zeroC_85 : ZeroC prog 85 (.agg #[(.int .i64 0), (.slice none 0 0)]) := ⟨by kernel_rfl⟩
instance fld_85_0 : FldOff prog 85 0 0 := ⟨fun b o w => by kernel_rfl⟩
instance fld_85_1 : FldOff prog 85 1 1 := ⟨fun b o w => by kernel_rfl⟩
instance aggC_86 : AggC prog 86 2 := ⟨fun w => by kernel_rfl, by kernel_rfl⟩
instance zeroC_86 : ZeroC prog 86 (.agg #[(.int .i64 0), (.slice none 0 0)]) := ⟨by kernel_rfl⟩
instance fld_86_0 : FldOff prog 86 0 0 := ⟨fun b o w => by kernel_rfl⟩
instance fld_86_1 : FldOff prog 86 1 1 := ⟨fun b o w => by kernel_rfl⟩
instance aggC_93 : AggC prog 93 1 := ⟨fun w => by kernel_rfl, by kernel_rfl⟩
instance zeroC_93 : ZeroC prog 93 (.agg #[(.pointer none)]) := ⟨by kernel_rfl⟩
instance fld_93_0 : FldOff prog 93 0 0 := ⟨fun b o w => by kernel_rfl⟩
instance aggC_94 : AggC prog 94 1 := ⟨fun w => by kernel_rfl, by kernel_rfl⟩
instance zeroC_94 : ZeroC prog 94 (.agg #[(.pointer none)]) := ⟨by kernel_rfl⟩
instance fld_94_0 : FldOff prog 94 0 0 := ⟨fun b o w => by kernel_rfl⟩
instance oneC_95 : OneC prog 95 := ⟨fun w => by kernel_rfl, by kernel_rfl⟩
instance zeroC_95 : ZeroC prog 95 (.map none) := ⟨by kernel_rfl⟩
instance ul_95 : Ul prog 95 (.map 3 3) := ⟨by kernel_rfl⟩
instance aggC_96 : AggC prog 96 5 := ⟨fun w => by kernel_rfl, by kernel_rfl⟩
instance zeroC_96 : ZeroC prog 96 (.agg #[(.pointer none), (.int .i64 0), (.int .i64 0), (.int .i64 0), (.map none)]) := ⟨by kernel_rfl⟩
instance fld_96_0 : FldOff prog 96 0 0 := ⟨fun b o w => by kernel_rfl⟩
instance fld_96_1 : FldOff prog 96 1 1 := ⟨fun b o w => by kernel_rfl⟩
instance fld_96_2 : FldOff prog 96 2 2 := ⟨fun b o w => by kernel_rfl⟩
instance fld_96_3 : FldOff prog 96 3 3 := ⟨fun b o w => by kernel_rfl⟩
instance fld_96_4 : FldOff prog 96 4 4 := ⟨fun b o w => by kernel_rfl⟩
instance aggC_97 : AggC prog 97 5 := ⟨fun w => by kernel_rfl, by kernel_rfl⟩
instance zeroC_97 : ZeroC prog 97 (.agg #[(.pointer none), (.int .i64 0), (.int .i64 0), (.int .i64 0), (.map none)]) := ⟨by kernel_rfl⟩
instance fld_97_0 : FldOff prog 97 0 0 := ⟨fun b o w => by kernel_rfl⟩
instance fld_97_1 : FldOff prog 97 1 1 := ⟨fun b o w => by kernel_rfl⟩
instance fld_97_2 : FldOff prog 97 2 2 := ⟨fun b o w => by kernel_rfl⟩
instance fld_97_3 : FldOff prog 97 3 3 := ⟨fun b o w => by kernel_rfl⟩
instance fld_97_4 : FldOff prog 97 4 4 := ⟨fun b o w => by kernel_rfl⟩
instance oneC_99 : OneC prog 99 := ⟨fun w => by kernel_rfl, by kernel_rfl⟩
instance zeroC_99 : ZeroC prog 99 (.slice none 0 0) := ⟨by kernel_rfl⟩
instance sliceT_99 : SliceT prog 99 108 2 32 (.agg #[(.int .i64 0), (.slice none 0 0)]) := ⟨by kernel_rfl, by kernel_rfl, rfl, by decide⟩
instance ul_99 : Ul prog 99 (.slice 108) := ⟨by kernel_rfl⟩
instance aggC_100 : AggC prog 100 3 := ⟨fun w => by kernel_rfl, by kernel_rfl⟩
instance zeroC_100 : ZeroC prog 100 (.agg #[(.slice none 0 0), (.slice none 0 0), (.int .i64 0)]) := ⟨by kernel_rfl⟩
instance fld_100_0 : FldOff prog 100 0 0 := ⟨fun b o w => by kernel_rfl⟩
instance fld_100_1 : FldOff prog 100 1 1 := ⟨fun b o w => by kernel_rfl⟩
instance fld_100_2 : FldOff prog 100 2 2 := ⟨fun b o w => by kernel_rfl⟩
instance aggC_101 : AggC prog 101 3 := ⟨fun w => by kernel_rfl, by kernel_rfl⟩
instance zeroC_101 : ZeroC prog 101 (.agg #[(.slice none 0 0), (.slice none 0 0), (.int .i64 0)]) := ⟨by kernel_rfl⟩
instance fld_101_0 : FldOff prog 101 0 0 := ⟨fun b o w => by kernel_rfl⟩
instance fld_101_1 : FldOff prog 101 1 1 := ⟨fun b o w => by kernel_rfl⟩
instance fld_101_2 : FldOff prog 101 2 2 := ⟨fun b o w => by kernel_rfl⟩
instance aggC_107 : AggC prog 107 2 := ⟨fun w => by kernel_rfl, by kernel_rfl⟩
instance zeroC_107 : ZeroC prog 107 (.agg #[(.int .i64 0), (.slice none 0 0)]) := ⟨by kernel_rfl⟩
instance fld_107_0 : FldOff prog 107 0 0 := ⟨fun b o w => by kernel_rfl⟩
instance fld_107_1 : FldOff prog 107 1 1 := ⟨fun b o w => by kernel_rfl⟩
instance aggC_108 : AggC prog 108 2 := ⟨fun w => by kernel_rfl, by kernel_rfl⟩
instance zeroC_108 : ZeroC prog 108 (.agg #[(.int .i64 0), (.slice none 0 0)]) := ⟨by kernel_rfl⟩
instance fld_108_0 : FldOff prog 108 0 0 := ⟨fun b o w => by kernel_rfl⟩
instance fld_108_1 : FldOff prog 108 1 1 := ⟨fun b o w => by kernel_rfl⟩
instance oneC_113 : OneC prog 113 := ⟨fun w => by kernel_rfl, by kernel_rfl⟩
instance zeroC_113 : ZeroC prog 113 (.slice none 0 0) := ⟨by kernel_rfl⟩
instance sliceT_113 : SliceT prog 113 155 2 32 (.agg #[(.int .i64 0), (.slice none 0 0)]) := ⟨by kernel_rfl, by kernel_rfl, rfl, by decide⟩
instance ul_113 : Ul prog 113 (.slice 155) := ⟨by kernel_rfl⟩
instance aggC_114 : AggC prog 114 2 := ⟨fun w => by kernel_rfl, by kernel_rfl⟩
instance zeroC_114 : ZeroC prog 114 (.agg #[(.slice none 0 0), (.slice none 0 0)]) := ⟨by kernel_rfl⟩
instance fld_114_0 : FldOff prog 114 0 0 := ⟨fun b o w => by kernel_rfl⟩
instance fld_114_1 : FldOff prog 114 1 1 := ⟨fun b o w => by kernel_rfl⟩
instance aggC_115 : AggC prog 115 2 := ⟨fun w => by kernel_rfl, by kernel_rfl⟩
instance zeroC_115 : ZeroC prog 115 (.agg #[(.slice none 0 0), (.slice none 0 0)]) := ⟨by kernel_rfl⟩
instance fld_115_0 : FldOff prog 115 0 0 := ⟨fun b o w => by kernel_rfl⟩
instance fld_115_1 : FldOff prog 115 1 1 := ⟨fun b o w => by kernel_rfl⟩
instance aggC_117 : AggC prog 117 4 := ⟨fun w => by kernel_rfl, by kernel_rfl⟩
instance zeroC_117 : ZeroC prog 117 (.agg #[(.pointer none), (.int .i64 0), (.int .i64 0), (.int .i64 0)]) := ⟨by kernel_rfl⟩
instance fld_117_0 : FldOff prog 117 0 0 := ⟨fun b o w => by kernel_rfl⟩
instance fld_117_1 : FldOff prog 117 1 1 := ⟨fun b o w => by kernel_rfl⟩
instance fld_117_2 : FldOff prog 117 2 2 := ⟨fun b o w => by kernel_rfl⟩
instance fld_117_3 : FldOff prog 117 3 3 := ⟨fun b o w => by kernel_rfl⟩
instance aggC_118 : AggC prog 118 4 := ⟨fun w => by kernel_rfl, by kernel_rfl⟩
instance zeroC_118 : ZeroC prog 118 (.agg #[(.pointer none), (.int .i64 0), (.int .i64 0), (.int .i64 0)]) := ⟨by kernel_rfl⟩
instance fld_118_0 : FldOff prog 118 0 0 := ⟨fun b o w => by kernel_rfl⟩
instance fld_118_1 : FldOff prog 118 1 1 := ⟨fun b o w => by kernel_rfl⟩
instance fld_118_2 : FldOff prog 118 2 2 := ⟨fun b o w => by kernel_rfl⟩
instance fld_118_3 : FldOff prog 118 3 3 := ⟨fun b o w => by kernel_rfl⟩
instance oneC_120 : OneC prog 120 := ⟨fun w => by kernel_rfl, by kernel_rfl⟩
instance zeroC_120 : ZeroC prog 120 (.int .u64 0) := ⟨by kernel_rfl⟩
instance ul_120 : Ul prog 120 (.int .u64) := ⟨by kernel_rfl⟩
instance aggC_124 : AggC prog 124 7 := ⟨fun w => by kernel_rfl, by kernel_rfl⟩
instance zeroC_124 : ZeroC prog 124 (.agg #[(.pointer none), (.int .i64 0), (.slice none 0 0), (.slice none 0 0), (.slice none 0 0), (.int .i64 0), (.int .i64 0)]) := ⟨by kernel_rfl⟩
instance fld_124_0 : FldOff prog 124 0 0 := ⟨fun b o w => by kernel_rfl⟩
instance fld_124_1 : FldOff prog 124 1 1 := ⟨fun b o w => by kernel_rfl⟩
instance fld_124_2 : FldOff prog 124 2 2 := ⟨fun b o w => by kernel_rfl⟩
instance fld_124_3 : FldOff prog 124 3 3 := ⟨fun b o w => by kernel_rfl⟩
instance fld_124_4 : FldOff prog 124 4 4 := ⟨fun b o w => by kernel_rfl⟩
instance fld_124_5 : FldOff prog 124 5 5 := ⟨fun b o w => by kernel_rfl⟩
instance fld_124_6 : FldOff prog 124 6 6 := ⟨fun b o w => by kernel_rfl⟩
instance aggC_125 : AggC prog 125 7 := ⟨fun w => by kernel_rfl, by kernel_rfl⟩
instance zeroC_125 : ZeroC prog 125 (.agg #[(.pointer none), (.int .i64 0), (.slice none 0 0), (.slice none 0 0), (.slice none 0 0), (.int .i64 0), (.int .i64 0)]) := ⟨by kernel_rfl⟩
instance fld_125_0 : FldOff prog 125 0 0 := ⟨fun b o w => by kernel_rfl⟩
instance fld_125_1 : FldOff prog 125 1 1 := ⟨fun b o w => by kernel_rfl⟩
instance fld_125_2 : FldOff prog 125 2 2 := ⟨fun b o w => by kernel_rfl⟩
instance fld_125_3 : FldOff prog 125 3 3 := ⟨fun b o w => by kernel_rfl⟩
instance fld_125_4 : FldOff prog 125 4 4 := ⟨fun b o w => by kernel_rfl⟩
instance fld_125_5 : FldOff prog 125 5 5 := ⟨fun b o w => by kernel_rfl⟩
instance fld_125_6 : FldOff prog 125 6 6 := ⟨fun b o w => by kernel_rfl⟩
instance oneC_136 : OneC prog 136 := ⟨fun w => by kernel_rfl, by kernel_rfl⟩
instance zeroC_136 : ZeroC prog 136 (.pointer none) := ⟨by kernel_rfl⟩
instance ul_136 : Ul prog 136 (.pointer 78) := ⟨by kernel_rfl⟩
instance oneC_138 : OneC prog 138 := ⟨fun w => by kernel_rfl, by kernel_rfl⟩
instance zeroC_138 : ZeroC prog 138 (.pointer none) := ⟨by kernel_rfl⟩
instance ul_138 : Ul prog 138 (.pointer 2) := ⟨by kernel_rfl⟩
instance aggC_154 : AggC prog 154 2 := ⟨fun w => by kernel_rfl, by kernel_rfl⟩
instance zeroC_154 : ZeroC prog 154 (.agg #[(.int .i64 0), (.slice none 0 0)]) := ⟨by kernel_rfl⟩
instance fld_154_0 : FldOff prog 154 0 0 := ⟨fun b o w => by kernel_rfl⟩
instance fld_154_1 : FldOff prog 154 1 1 := ⟨fun b o w => by kernel_rfl⟩
instance aggC_155 : AggC prog 155 2 := ⟨fun w => by kernel_rfl, by kernel_rfl⟩
instance zeroC_155 : ZeroC prog 155 (.agg #[(.int .i64 0), (.slice none 0 0)]) := ⟨by kernel_rfl⟩
instance fld_155_0 : FldOff prog 155 0 0 := ⟨fun b o w => by kernel_rfl⟩
instance fld_155_1 : FldOff prog 155 1 1 := ⟨fun b o w => by kernel_rfl⟩
instance oneC_157 : OneC prog 157 := ⟨fun w => by kernel_rfl, by kernel_rfl⟩
instance zeroC_157 : ZeroC prog 157 (.int .i64 0) := ⟨by kernel_rfl⟩
instance ul_157 : Ul prog 157 (.int .i64) := ⟨by kernel_rfl⟩
instance oneC_165 : OneC prog 165 := ⟨fun w => by kernel_rfl, by kernel_rfl⟩
instance zeroC_165 : ZeroC prog 165 (.int .u32 0) := ⟨by kernel_rfl⟩
instance ul_165 : Ul prog 165 (.int .u32) := ⟨by kernel_rfl⟩
instance oneC_167 : OneC prog 167 := ⟨fun w => by kernel_rfl, by kernel_rfl⟩
instance zeroC_167 : ZeroC prog 167 (.int .u64 0) := ⟨by kernel_rfl⟩
instance ul_167 : Ul prog 167 (.int .u64) := ⟨by kernel_rfl⟩
instance oneC_168 : OneC prog 168 := ⟨fun w => by kernel_rfl, by kernel_rfl⟩
instance zeroC_168 : ZeroC prog 168 (.int .u64 0) := ⟨by kernel_rfl⟩
instance ul_168 : Ul prog 168 (.int .u64) := ⟨by kernel_rfl⟩
instance oneC_172 : OneC prog 172 := ⟨fun w => by kernel_rfl, by kernel_rfl⟩
instance zeroC_172 : ZeroC prog 172 (.pointer none) := ⟨by kernel_rfl⟩
instance ul_172 : Ul prog 172 (.pointer 3) := ⟨by kernel_rfl⟩
instance oneC_174 : OneC prog 174 := ⟨fun w => by kernel_rfl, by kernel_rfl⟩
instance zeroC_174 : ZeroC prog 174 (.pointer none) := ⟨by kernel_rfl⟩
instance ul_174 : Ul prog 174 (.pointer 168) := ⟨by kernel_rfl⟩
instance aggC_178 : AggC prog 178 4 := ⟨fun w => by kernel_rfl, by kernel_rfl⟩
instance zeroC_178 : ZeroC prog 178 (.agg #[(.pointer none), (.pointer none), (.pointer none), (.string ⟨#[]⟩)]) := ⟨by kernel_rfl⟩
instance fld_178_0 : FldOff prog 178 0 0 := ⟨fun b o w => by kernel_rfl⟩
instance fld_178_1 : FldOff prog 178 1 1 := ⟨fun b o w => by kernel_rfl⟩
instance fld_178_2 : FldOff prog 178 2 2 := ⟨fun b o w => by kernel_rfl⟩
instance fld_178_3 : FldOff prog 178 3 3 := ⟨fun b o w => by kernel_rfl⟩
instance aggC_179 : AggC prog 179 4 := ⟨fun w => by kernel_rfl, by kernel_rfl⟩
instance zeroC_179 : ZeroC prog 179 (.agg #[(.pointer none), (.pointer none), (.pointer none), (.string ⟨#[]⟩)]) := ⟨by kernel_rfl⟩
instance fld_179_0 : FldOff prog 179 0 0 := ⟨fun b o w => by kernel_rfl⟩
instance fld_179_1 : FldOff prog 179 1 1 := ⟨fun b o w => by kernel_rfl⟩
instance fld_179_2 : FldOff prog 179 2 2 := ⟨fun b o w => by kernel_rfl⟩
instance fld_179_3 : FldOff prog 179 3 3 := ⟨fun b o w => by kernel_rfl⟩
instance aggC_180 : AggC prog 180 0 := ⟨fun w => by kernel_rfl, by kernel_rfl⟩
instance zeroC_180 : ZeroC prog 180 (.agg #[]) := ⟨by kernel_rfl⟩
instance ul_180 : Ul prog 180 (.array 0 16) := ⟨by kernel_rfl⟩
instance aggC_181 : AggC prog 181 0 := ⟨fun w => by kernel_rfl, by kernel_rfl⟩
instance zeroC_181 : ZeroC prog 181 (.agg #[]) := ⟨by kernel_rfl⟩
instance aggC_182 : AggC prog 182 0 := ⟨fun w => by kernel_rfl, by kernel_rfl⟩
instance zeroC_182 : ZeroC prog 182 (.agg #[]) := ⟨by kernel_rfl⟩
instance oneC_183 : OneC prog 183 := ⟨fun w => by kernel_rfl, by kernel_rfl⟩
instance zeroC_183 : ZeroC prog 183 (.int .u8 0) := ⟨by kernel_rfl⟩
instance ul_183 : Ul prog 183 (.int .u8) := ⟨by kernel_rfl⟩
instance oneC_184 : OneC prog 184 := ⟨fun w => by kernel_rfl, by kernel_rfl⟩
instance zeroC_184 : ZeroC prog 184 (.int .u8 0) := ⟨by kernel_rfl⟩
instance ul_184 : Ul prog 184 (.int .u8) := ⟨by kernel_rfl⟩
instance oneC_186 : OneC prog 186 := ⟨fun w => by kernel_rfl, by kernel_rfl⟩
instance zeroC_186 : ZeroC prog 186 (.pointer none) := ⟨by kernel_rfl⟩
instance ul_186 : Ul prog 186 (.pointer 5) := ⟨by kernel_rfl⟩
instance oneC_187 : OneC prog 187 := ⟨fun w => by kernel_rfl, by kernel_rfl⟩
instance zeroC_187 : ZeroC prog 187 (.int .i32 0) := ⟨by kernel_rfl⟩
instance ul_187 : Ul prog 187 (.int .i32) := ⟨by kernel_rfl⟩
instance oneC_188 : OneC prog 188 := ⟨fun w => by kernel_rfl, by kernel_rfl⟩
instance zeroC_188 : ZeroC prog 188 (.int .i32 0) := ⟨by kernel_rfl⟩
instance ul_188 : Ul prog 188 (.int .i32) := ⟨by kernel_rfl⟩
instance aggC_189 : AggC prog 189 11 := ⟨fun w => by kernel_rfl, by kernel_rfl⟩
instance zeroC_189 : ZeroC prog 189 (.agg #[(.int .u64 0), (.int .u64 0), (.int .u32 0), (.int .u8 0), (.int .u8 0), (.int .u8 0), (.int .u8 0), .nilFunc, (.pointer none), (.int .i32 0), (.int .i32 0)]) := ⟨by kernel_rfl⟩
instance fld_189_0 : FldOff prog 189 0 0 := ⟨fun b o w => by kernel_rfl⟩
instance fld_189_1 : FldOff prog 189 1 1 := ⟨fun b o w => by kernel_rfl⟩
instance fld_189_2 : FldOff prog 189 2 2 := ⟨fun b o w => by kernel_rfl⟩
instance fld_189_3 : FldOff prog 189 3 3 := ⟨fun b o w => by kernel_rfl⟩
instance fld_189_4 : FldOff prog 189 4 4 := ⟨fun b o w => by kernel_rfl⟩
instance fld_189_5 : FldOff prog 189 5 5 := ⟨fun b o w => by kernel_rfl⟩
instance fld_189_6 : FldOff prog 189 6 6 := ⟨fun b o w => by kernel_rfl⟩
instance fld_189_7 : FldOff prog 189 7 7 := ⟨fun b o w => by kernel_rfl⟩
instance fld_189_8 : FldOff prog 189 8 8 := ⟨fun b o w => by kernel_rfl⟩
instance fld_189_9 : FldOff prog 189 9 9 := ⟨fun b o w => by kernel_rfl⟩
instance fld_189_10 : FldOff prog 189 10 10 := ⟨fun b o w => by kernel_rfl⟩
instance aggC_190 : AggC prog 190 11 := ⟨fun w => by kernel_rfl, by kernel_rfl⟩
instance zeroC_190 : ZeroC prog 190 (.agg #[(.int .u64 0), (.int .u64 0), (.int .u32 0), (.int .u8 0), (.int .u8 0), (.int .u8 0), (.int .u8 0), .nilFunc, (.pointer none), (.int .i32 0), (.int .i32 0)]) := ⟨by kernel_rfl⟩
instance fld_190_0 : FldOff prog 190 0 0 := ⟨fun b o w => by kernel_rfl⟩
instance fld_190_1 : FldOff prog 190 1 1 := ⟨fun b o w => by kernel_rfl⟩
instance fld_190_2 : FldOff prog 190 2 2 := ⟨fun b o w => by kernel_rfl⟩
instance fld_190_3 : FldOff prog 190 3 3 := ⟨fun b o w => by kernel_rfl⟩
instance fld_190_4 : FldOff prog 190 4 4 := ⟨fun b o w => by kernel_rfl⟩
instance fld_190_5 : FldOff prog 190 5 5 := ⟨fun b o w => by kernel_rfl⟩
instance fld_190_6 : FldOff prog 190 6 6 := ⟨fun b o w => by kernel_rfl⟩
instance fld_190_7 : FldOff prog 190 7 7 := ⟨fun b o w => by kernel_rfl⟩
instance fld_190_8 : FldOff prog 190 8 8 := ⟨fun b o w => by kernel_rfl⟩
instance fld_190_9 : FldOff prog 190 9 9 := ⟨fun b o w => by kernel_rfl⟩
instance fld_190_10 : FldOff prog 190 10 10 := ⟨fun b o w => by kernel_rfl⟩
instance oneC_191 : OneC prog 191 := ⟨fun w => by kernel_rfl, by kernel_rfl⟩
instance zeroC_191 : ZeroC prog 191 (.pointer none) := ⟨by kernel_rfl⟩

end Go.Proofs.YtcjklbhobmkalaaGreat
