import Derived.Test.YtcjklbhobmkalaaProg
import Derived.Test.YtcjklbhobmkalaaVc
import Derived.KernelRfl
set_option linter.all false
set_option maxRecDepth 100000
namespace Go.Proofs.Ytcjklbhobmkalaa
open Go Hold
noncomputable abbrev prog : Program := Try.prog
instance oneC_2 : OneC prog 2 := ⟨fun w => by kernel_rfl, by kernel_rfl⟩
instance zeroC_2 : ZeroC prog 2 (.int .i64 0) := ⟨by kernel_rfl⟩
instance ul_2 : Ul prog 2 (.int .i64) := ⟨by kernel_rfl⟩
instance oneC_3 : OneC prog 3 := ⟨fun w => by kernel_rfl, by kernel_rfl⟩
instance zeroC_3 : ZeroC prog 3 (.int .i64 0) := ⟨by kernel_rfl⟩
instance ul_3 : Ul prog 3 (.int .i64) := ⟨by kernel_rfl⟩
instance oneC_4 : OneC prog 4 := ⟨fun w => by kernel_rfl, by kernel_rfl⟩
instance zeroC_4 : ZeroC prog 4 (.bool false) := ⟨by kernel_rfl⟩
instance ul_4 : Ul prog 4 .bool := ⟨by kernel_rfl⟩
instance oneC_5 : OneC prog 5 := ⟨fun w => by kernel_rfl, by kernel_rfl⟩
instance zeroC_5 : ZeroC prog 5 (.int .u8 0) := ⟨by kernel_rfl⟩
instance ul_5 : Ul prog 5 (.int .u8) := ⟨by kernel_rfl⟩
instance oneC_6 : OneC prog 6 := ⟨fun w => by kernel_rfl, by kernel_rfl⟩
instance zeroC_6 : ZeroC prog 6 (.int .u8 0) := ⟨by kernel_rfl⟩
instance ul_6 : Ul prog 6 (.int .u8) := ⟨by kernel_rfl⟩
instance aggC_7 : AggC prog 7 4 := ⟨fun w => by kernel_rfl, by kernel_rfl⟩
instance zeroC_7 : ZeroC prog 7 (.agg #[(.int .i64 0), (.int .i64 0), (.bool false), (.int .u8 0)]) := ⟨by kernel_rfl⟩
instance fld_7_0 : FldOff prog 7 0 0 := ⟨fun b o w => by kernel_rfl⟩
instance fld_7_1 : FldOff prog 7 1 1 := ⟨fun b o w => by kernel_rfl⟩
instance fld_7_2 : FldOff prog 7 2 2 := ⟨fun b o w => by kernel_rfl⟩
instance fld_7_3 : FldOff prog 7 3 3 := ⟨fun b o w => by kernel_rfl⟩
instance aggC_8 : AggC prog 8 4 := ⟨fun w => by kernel_rfl, by kernel_rfl⟩
instance zeroC_8 : ZeroC prog 8 (.agg #[(.int .i64 0), (.int .i64 0), (.bool false), (.int .u8 0)]) := ⟨by kernel_rfl⟩
instance fld_8_0 : FldOff prog 8 0 0 := ⟨fun b o w => by kernel_rfl⟩
instance fld_8_1 : FldOff prog 8 1 1 := ⟨fun b o w => by kernel_rfl⟩
instance fld_8_2 : FldOff prog 8 2 2 := ⟨fun b o w => by kernel_rfl⟩
instance fld_8_3 : FldOff prog 8 3 3 := ⟨fun b o w => by kernel_rfl⟩
instance oneC_9 : OneC prog 9 := ⟨fun w => by kernel_rfl, by kernel_rfl⟩
instance zeroC_9 : ZeroC prog 9 (.string ⟨#[]⟩) := ⟨by kernel_rfl⟩
instance ul_9 : Ul prog 9 .string := ⟨by kernel_rfl⟩
instance oneC_10 : OneC prog 10 := ⟨fun w => by kernel_rfl, by kernel_rfl⟩
instance zeroC_10 : ZeroC prog 10 (.string ⟨#[]⟩) := ⟨by kernel_rfl⟩
instance ul_10 : Ul prog 10 .string := ⟨by kernel_rfl⟩
instance oneC_11 : OneC prog 11 := ⟨fun w => by kernel_rfl, by kernel_rfl⟩
instance zeroC_11 : ZeroC prog 11 (.string ⟨#[]⟩) := ⟨by kernel_rfl⟩
instance ul_11 : Ul prog 11 .string := ⟨by kernel_rfl⟩
instance oneC_12 : OneC prog 12 := ⟨fun w => by kernel_rfl, by kernel_rfl⟩
instance zeroC_12 : ZeroC prog 12 (.int .u64 0) := ⟨by kernel_rfl⟩
instance ul_12 : Ul prog 12 (.int .u64) := ⟨by kernel_rfl⟩
instance aggC_13 : AggC prog 13 2 := ⟨fun w => by kernel_rfl, by kernel_rfl⟩
instance zeroC_13 : ZeroC prog 13 (.agg #[(.string ⟨#[]⟩), (.int .u64 0)]) := ⟨by kernel_rfl⟩
instance fld_13_0 : FldOff prog 13 0 0 := ⟨fun b o w => by kernel_rfl⟩
instance fld_13_1 : FldOff prog 13 1 1 := ⟨fun b o w => by kernel_rfl⟩
instance aggC_14 : AggC prog 14 2 := ⟨fun w => by kernel_rfl, by kernel_rfl⟩
instance zeroC_14 : ZeroC prog 14 (.agg #[(.string ⟨#[]⟩), (.int .u64 0)]) := ⟨by kernel_rfl⟩
instance fld_14_0 : FldOff prog 14 0 0 := ⟨fun b o w => by kernel_rfl⟩
instance fld_14_1 : FldOff prog 14 1 1 := ⟨fun b o w => by kernel_rfl⟩
instance oneC_15 : OneC prog 15 := ⟨fun w => by kernel_rfl, by kernel_rfl⟩
instance zeroC_15 : ZeroC prog 15 (.pointer none) := ⟨by kernel_rfl⟩
instance ul_15 : Ul prog 15 (.pointer 137) := ⟨by kernel_rfl⟩
instance oneC_16 : OneC prog 16 := ⟨fun w => by kernel_rfl, by kernel_rfl⟩
instance zeroC_16 : ZeroC prog 16 (.pointer none) := ⟨by kernel_rfl⟩
instance ul_16 : Ul prog 16 (.pointer 140) := ⟨by kernel_rfl⟩
instance oneC_17 : OneC prog 17 := ⟨fun w => by kernel_rfl, by kernel_rfl⟩
instance zeroC_17 : ZeroC prog 17 (.pointer none) := ⟨by kernel_rfl⟩
instance ul_17 : Ul prog 17 (.pointer 148) := ⟨by kernel_rfl⟩
instance aggC_18 : AggC prog 18 1 := ⟨fun w => by kernel_rfl, by kernel_rfl⟩
instance zeroC_18 : ZeroC prog 18 (.agg #[(.pointer none)]) := ⟨by kernel_rfl⟩
instance fld_18_0 : FldOff prog 18 0 0 := ⟨fun b o w => by kernel_rfl⟩
instance aggC_19 : AggC prog 19 1 := ⟨fun w => by kernel_rfl, by kernel_rfl⟩
instance zeroC_19 : ZeroC prog 19 (.agg #[(.pointer none)]) := ⟨by kernel_rfl⟩
instance fld_19_0 : FldOff prog 19 0 0 := ⟨fun b o w => by kernel_rfl⟩
instance oneC_20 : OneC prog 20 := ⟨fun w => by kernel_rfl, by kernel_rfl⟩
instance zeroC_20 : ZeroC prog 20 .nilIface := ⟨by kernel_rfl⟩
instance oneC_21 : OneC prog 21 := ⟨fun w => by kernel_rfl, by kernel_rfl⟩
instance zeroC_21 : ZeroC prog 21 (.int .i32 0) := ⟨by kernel_rfl⟩
instance ul_21 : Ul prog 21 (.int .i32) := ⟨by kernel_rfl⟩
instance oneC_22 : OneC prog 22 := ⟨fun w => by kernel_rfl, by kernel_rfl⟩
instance zeroC_22 : ZeroC prog 22 (.slice none 0 0) := ⟨by kernel_rfl⟩
instance sliceT_22 : SliceT prog 22 33 1 24 (.slice none 0 0) := ⟨by kernel_rfl, by kernel_rfl, rfl, by decide⟩
instance ul_22 : Ul prog 22 (.slice 33) := ⟨by kernel_rfl⟩
instance oneC_23 : OneC prog 23 := ⟨fun w => by kernel_rfl, by kernel_rfl⟩
instance zeroC_23 : ZeroC prog 23 (.pointer none) := ⟨by kernel_rfl⟩
instance ul_23 : Ul prog 23 (.pointer 51) := ⟨by kernel_rfl⟩
instance oneC_24 : OneC prog 24 := ⟨fun w => by kernel_rfl, by kernel_rfl⟩
instance zeroC_24 : ZeroC prog 24 (.int .i64 0) := ⟨by kernel_rfl⟩
instance ul_24 : Ul prog 24 (.int .i64) := ⟨by kernel_rfl⟩
instance oneC_27 : OneC prog 27 := ⟨fun w => by kernel_rfl, by kernel_rfl⟩
instance zeroC_27 : ZeroC prog 27 (.pointer none) := ⟨by kernel_rfl⟩
instance ul_27 : Ul prog 27 (.pointer 58) := ⟨by kernel_rfl⟩
instance oneC_30 : OneC prog 30 := ⟨fun w => by kernel_rfl, by kernel_rfl⟩
instance zeroC_30 : ZeroC prog 30 (.pointer none) := ⟨by kernel_rfl⟩
instance ul_30 : Ul prog 30 (.pointer 65) := ⟨by kernel_rfl⟩
instance oneC_33 : OneC prog 33 := ⟨fun w => by kernel_rfl, by kernel_rfl⟩
instance zeroC_33 : ZeroC prog 33 (.slice none 0 0) := ⟨by kernel_rfl⟩
instance sliceT_33 : SliceT prog 33 5 1 1 (.int .u8 0) := ⟨by kernel_rfl, by kernel_rfl, rfl, by decide⟩
instance ul_33 : Ul prog 33 (.slice 5) := ⟨by kernel_rfl⟩
instance oneC_38 : OneC prog 38 := ⟨fun w => by kernel_rfl, by kernel_rfl⟩
instance zeroC_38 : ZeroC prog 38 (.slice none 0 0) := ⟨by kernel_rfl⟩
instance sliceT_38 : SliceT prog 38 3 1 8 (.int .i64 0) := ⟨by kernel_rfl, by kernel_rfl, rfl, by decide⟩
instance ul_38 : Ul prog 38 (.slice 3) := ⟨by kernel_rfl⟩
instance oneC_44 : OneC prog 44 := ⟨fun w => by kernel_rfl, by kernel_rfl⟩
instance zeroC_44 : ZeroC prog 44 (.slice none 0 0) := ⟨by kernel_rfl⟩
instance sliceT_44 : SliceT prog 44 84 2 32 (.agg #[(.int .i64 0), (.slice none 0 0)]) := ⟨by kernel_rfl, by kernel_rfl, rfl, by decide⟩
instance ul_44 : Ul prog 44 (.slice 84) := ⟨by kernel_rfl⟩
instance aggC_45 : AggC prog 45 0 := ⟨fun w => by kernel_rfl, by kernel_rfl⟩
instance zeroC_45 : ZeroC prog 45 (.agg #[]) := ⟨by kernel_rfl⟩
instance aggC_46 : AggC prog 46 0 := ⟨fun w => by kernel_rfl, by kernel_rfl⟩
instance zeroC_46 : ZeroC prog 46 (.agg #[]) := ⟨by kernel_rfl⟩
instance aggC_47 : AggC prog 47 0 := ⟨fun w => by kernel_rfl, by kernel_rfl⟩
instance zeroC_47 : ZeroC prog 47 (.agg #[]) := ⟨by kernel_rfl⟩
instance aggC_48 : AggC prog 48 1 := ⟨fun w => by kernel_rfl, by kernel_rfl⟩
instance zeroC_48 : ZeroC prog 48 (.agg #[(.int .i64 0)]) := ⟨by kernel_rfl⟩
instance fld_48_2 : FldOff prog 48 2 0 := ⟨fun b o w => by kernel_rfl⟩
instance aggC_49 : AggC prog 49 1 := ⟨fun w => by kernel_rfl, by kernel_rfl⟩
instance zeroC_49 : ZeroC prog 49 (.agg #[(.int .i64 0)]) := ⟨by kernel_rfl⟩
instance fld_49_2 : FldOff prog 49 2 0 := ⟨fun b o w => by kernel_rfl⟩
instance aggC_50 : AggC prog 50 3 := ⟨fun w => by kernel_rfl, by kernel_rfl⟩
instance zeroC_50 : ZeroC prog 50 (.agg #[(.slice none 0 0), (.slice none 0 0), (.int .i64 0)]) := ⟨by kernel_rfl⟩
instance fld_50_0 : FldOff prog 50 0 0 := ⟨fun b o w => by kernel_rfl⟩
instance fld_50_1 : FldOff prog 50 1 1 := ⟨fun b o w => by kernel_rfl⟩
instance fld_50_2 : FldOff prog 50 2 2 := ⟨fun b o w => by kernel_rfl⟩
instance aggC_51 : AggC prog 51 3 := ⟨fun w => by kernel_rfl, by kernel_rfl⟩
instance zeroC_51 : ZeroC prog 51 (.agg #[(.slice none 0 0), (.slice none 0 0), (.int .i64 0)]) := ⟨by kernel_rfl⟩
instance fld_51_0 : FldOff prog 51 0 0 := ⟨fun b o w => by kernel_rfl⟩
instance fld_51_1 : FldOff prog 51 1 1 := ⟨fun b o w => by kernel_rfl⟩
instance fld_51_2 : FldOff prog 51 2 2 := ⟨fun b o w => by kernel_rfl⟩
instance aggC_54 : AggC prog 54 1 := ⟨fun w => by kernel_rfl, by kernel_rfl⟩
instance zeroC_54 : ZeroC prog 54 (.agg #[(.pointer none)]) := ⟨by kernel_rfl⟩
instance fld_54_0 : FldOff prog 54 0 0 := ⟨fun b o w => by kernel_rfl⟩
instance aggC_55 : AggC prog 55 1 := ⟨fun w => by kernel_rfl, by kernel_rfl⟩
instance zeroC_55 : ZeroC prog 55 (.agg #[(.pointer none)]) := ⟨by kernel_rfl⟩
instance fld_55_0 : FldOff prog 55 0 0 := ⟨fun b o w => by kernel_rfl⟩
instance oneC_56 : OneC prog 56 := ⟨fun w => by kernel_rfl, by kernel_rfl⟩
instance zeroC_56 : ZeroC prog 56 (.map none) := ⟨by kernel_rfl⟩
instance ul_56 : Ul prog 56 (.map 3 3) := ⟨by kernel_rfl⟩
instance aggC_57 : AggC prog 57 5 := ⟨fun w => by kernel_rfl, by kernel_rfl⟩
instance zeroC_57 : ZeroC prog 57 (.agg #[(.pointer none), (.int .i64 0), (.int .i64 0), (.int .i64 0), (.map none)]) := ⟨by kernel_rfl⟩
instance fld_57_0 : FldOff prog 57 0 0 := ⟨fun b o w => by kernel_rfl⟩
instance fld_57_1 : FldOff prog 57 1 1 := ⟨fun b o w => by kernel_rfl⟩
instance fld_57_2 : FldOff prog 57 2 2 := ⟨fun b o w => by kernel_rfl⟩
instance fld_57_3 : FldOff prog 57 3 3 := ⟨fun b o w => by kernel_rfl⟩
instance fld_57_4 : FldOff prog 57 4 4 := ⟨fun b o w => by kernel_rfl⟩
instance aggC_58 : AggC prog 58 5 := ⟨fun w => by kernel_rfl, by kernel_rfl⟩
instance zeroC_58 : ZeroC prog 58 (.agg #[(.pointer none), (.int .i64 0), (.int .i64 0), (.int .i64 0), (.map none)]) := ⟨by kernel_rfl⟩
instance fld_58_0 : FldOff prog 58 0 0 := ⟨fun b o w => by kernel_rfl⟩
instance fld_58_1 : FldOff prog 58 1 1 := ⟨fun b o w => by kernel_rfl⟩
instance fld_58_2 : FldOff prog 58 2 2 := ⟨fun b o w => by kernel_rfl⟩
instance fld_58_3 : FldOff prog 58 3 3 := ⟨fun b o w => by kernel_rfl⟩
instance fld_58_4 : FldOff prog 58 4 4 := ⟨fun b o w => by kernel_rfl⟩
instance oneC_62 : OneC prog 62 := ⟨fun w => by kernel_rfl, by kernel_rfl⟩
instance zeroC_62 : ZeroC prog 62 (.map none) := ⟨by kernel_rfl⟩
instance ul_62 : Ul prog 62 (.map 3 33) := ⟨by kernel_rfl⟩
instance oneC_63 : OneC prog 63 := ⟨fun w => by kernel_rfl, by kernel_rfl⟩
instance zeroC_63 : ZeroC prog 63 (.map none) := ⟨by kernel_rfl⟩
instance ul_63 : Ul prog 63 (.map 3 4) := ⟨by kernel_rfl⟩
instance aggC_64 : AggC prog 64 8 := ⟨fun w => by kernel_rfl, by kernel_rfl⟩
instance zeroC_64 : ZeroC prog 64 (.agg #[(.pointer none), (.int .i64 0), (.map none), (.map none), (.slice none 0 0), (.map none), (.int .i64 0), (.int .i64 0)]) := ⟨by kernel_rfl⟩
instance fld_64_0 : FldOff prog 64 0 0 := ⟨fun b o w => by kernel_rfl⟩
instance fld_64_1 : FldOff prog 64 1 1 := ⟨fun b o w => by kernel_rfl⟩
instance fld_64_2 : FldOff prog 64 2 2 := ⟨fun b o w => by kernel_rfl⟩
instance fld_64_3 : FldOff prog 64 3 3 := ⟨fun b o w => by kernel_rfl⟩
instance fld_64_4 : FldOff prog 64 4 4 := ⟨fun b o w => by kernel_rfl⟩
instance fld_64_5 : FldOff prog 64 5 5 := ⟨fun b o w => by kernel_rfl⟩
instance fld_64_6 : FldOff prog 64 6 6 := ⟨fun b o w => by kernel_rfl⟩
instance fld_64_7 : FldOff prog 64 7 7 := ⟨fun b o w => by kernel_rfl⟩
instance aggC_65 : AggC prog 65 8 := ⟨fun w => by kernel_rfl, by kernel_rfl⟩
instance zeroC_65 : ZeroC prog 65 (.agg #[(.pointer none), (.int .i64 0), (.map none), (.map none), (.slice none 0 0), (.map none), (.int .i64 0), (.int .i64 0)]) := ⟨by kernel_rfl⟩
instance fld_65_0 : FldOff prog 65 0 0 := ⟨fun b o w => by kernel_rfl⟩
instance fld_65_1 : FldOff prog 65 1 1 := ⟨fun b o w => by kernel_rfl⟩
instance fld_65_2 : FldOff prog 65 2 2 := ⟨fun b o w => by kernel_rfl⟩
instance fld_65_3 : FldOff prog 65 3 3 := ⟨fun b o w => by kernel_rfl⟩
instance fld_65_4 : FldOff prog 65 4 4 := ⟨fun b o w => by kernel_rfl⟩
instance fld_65_5 : FldOff prog 65 5 5 := ⟨fun b o w => by kernel_rfl⟩
instance fld_65_6 : FldOff prog 65 6 6 := ⟨fun b o w => by kernel_rfl⟩
instance fld_65_7 : FldOff prog 65 7 7 := ⟨fun b o w => by kernel_rfl⟩
instance oneC_75 : OneC prog 75 := ⟨fun w => by kernel_rfl, by kernel_rfl⟩
instance zeroC_75 : ZeroC prog 75 (.slice none 0 0) := ⟨by kernel_rfl⟩
instance sliceT_75 : SliceT prog 75 77 2 32 (.agg #[(.int .i64 0), (.slice none 0 0)]) := ⟨by kernel_rfl, by kernel_rfl, rfl, by decide⟩
instance ul_75 : Ul prog 75 (.slice 77) := ⟨by kernel_rfl⟩
instance aggC_76 : AggC prog 76 2 := ⟨fun w => by kernel_rfl, by kernel_rfl⟩
instance zeroC_76 : ZeroC prog 76 (.agg #[(.int .i64 0), (.slice none 0 0)]) := ⟨by kernel_rfl⟩
instance fld_76_0 : FldOff prog 76 0 0 := ⟨fun b o w => by kernel_rfl⟩
instance fld_76_1 : FldOff prog 76 1 1 := ⟨fun b o w => by kernel_rfl⟩
instance aggC_77 : AggC prog 77 2 := ⟨fun w => by kernel_rfl, by kernel_rfl⟩
instance zeroC_77 : ZeroC prog 77 (.agg #[(.int .i64 0), (.slice none 0 0)]) := ⟨by kernel_rfl⟩
instance fld_77_0 : FldOff prog 77 0 0 := ⟨fun b o w => by kernel_rfl⟩
instance fld_77_1 : FldOff prog 77 1 1 := ⟨fun b o w => by kernel_rfl⟩
instance aggC_83 : AggC prog 83 2 := ⟨fun w => by kernel_rfl, by kernel_rfl⟩
instance zeroC_83 : ZeroC prog 83 (.agg #[(.int .i64 0), (.slice none 0 0)]) := ⟨by kernel_rfl⟩
instance fld_83_0 : FldOff prog 83 0 0 := ⟨fun b o w => by kernel_rfl⟩
instance fld_83_1 : FldOff prog 83 1 1 := ⟨fun b o w => by kernel_rfl⟩
instance aggC_84 : AggC prog 84 2 := ⟨fun w => by kernel_rfl, by kernel_rfl⟩
instance zeroC_84 : ZeroC prog 84 (.agg #[(.int .i64 0), (.slice none 0 0)]) := ⟨by kernel_rfl⟩
instance fld_84_0 : FldOff prog 84 0 0 := ⟨fun b o w => by kernel_rfl⟩
instance fld_84_1 : FldOff prog 84 1 1 := ⟨fun b o w => by kernel_rfl⟩
instance oneC_89 : OneC prog 89 := ⟨fun w => by kernel_rfl, by kernel_rfl⟩
instance zeroC_89 : ZeroC prog 89 (.int .u64 0) := ⟨by kernel_rfl⟩
instance ul_89 : Ul prog 89 (.int .u64) := ⟨by kernel_rfl⟩
instance oneC_92 : OneC prog 92 := ⟨fun w => by kernel_rfl, by kernel_rfl⟩
instance zeroC_92 : ZeroC prog 92 (.pointer none) := ⟨by kernel_rfl⟩
instance ul_92 : Ul prog 92 (.pointer 49) := ⟨by kernel_rfl⟩
instance oneC_94 : OneC prog 94 := ⟨fun w => by kernel_rfl, by kernel_rfl⟩
instance zeroC_94 : ZeroC prog 94 (.pointer none) := ⟨by kernel_rfl⟩
instance ul_94 : Ul prog 94 (.pointer 2) := ⟨by kernel_rfl⟩
instance oneC_114 : OneC prog 114 := ⟨fun w => by kernel_rfl, by kernel_rfl⟩
instance zeroC_114 : ZeroC prog 114 (.int .i64 0) := ⟨by kernel_rfl⟩
instance ul_114 : Ul prog 114 (.int .i64) := ⟨by kernel_rfl⟩
instance oneC_123 : OneC prog 123 := ⟨fun w => by kernel_rfl, by kernel_rfl⟩
instance zeroC_123 : ZeroC prog 123 (.int .u32 0) := ⟨by kernel_rfl⟩
instance ul_123 : Ul prog 123 (.int .u32) := ⟨by kernel_rfl⟩
instance oneC_125 : OneC prog 125 := ⟨fun w => by kernel_rfl, by kernel_rfl⟩
instance zeroC_125 : ZeroC prog 125 (.int .u64 0) := ⟨by kernel_rfl⟩
instance ul_125 : Ul prog 125 (.int .u64) := ⟨by kernel_rfl⟩
instance oneC_126 : OneC prog 126 := ⟨fun w => by kernel_rfl, by kernel_rfl⟩
instance zeroC_126 : ZeroC prog 126 (.int .u64 0) := ⟨by kernel_rfl⟩
instance ul_126 : Ul prog 126 (.int .u64) := ⟨by kernel_rfl⟩
instance oneC_130 : OneC prog 130 := ⟨fun w => by kernel_rfl, by kernel_rfl⟩
instance zeroC_130 : ZeroC prog 130 (.pointer none) := ⟨by kernel_rfl⟩
instance ul_130 : Ul prog 130 (.pointer 3) := ⟨by kernel_rfl⟩
instance oneC_132 : OneC prog 132 := ⟨fun w => by kernel_rfl, by kernel_rfl⟩
instance zeroC_132 : ZeroC prog 132 (.pointer none) := ⟨by kernel_rfl⟩
instance ul_132 : Ul prog 132 (.pointer 126) := ⟨by kernel_rfl⟩
instance aggC_136 : AggC prog 136 4 := ⟨fun w => by kernel_rfl, by kernel_rfl⟩
instance zeroC_136 : ZeroC prog 136 (.agg #[(.pointer none), (.pointer none), (.pointer none), (.string ⟨#[]⟩)]) := ⟨by kernel_rfl⟩
instance fld_136_0 : FldOff prog 136 0 0 := ⟨fun b o w => by kernel_rfl⟩
instance fld_136_1 : FldOff prog 136 1 1 := ⟨fun b o w => by kernel_rfl⟩
instance fld_136_2 : FldOff prog 136 2 2 := ⟨fun b o w => by kernel_rfl⟩
instance fld_136_3 : FldOff prog 136 3 3 := ⟨fun b o w => by kernel_rfl⟩
instance aggC_137 : AggC prog 137 4 := ⟨fun w => by kernel_rfl, by kernel_rfl⟩
instance zeroC_137 : ZeroC prog 137 (.agg #[(.pointer none), (.pointer none), (.pointer none), (.string ⟨#[]⟩)]) := ⟨by kernel_rfl⟩
instance fld_137_0 : FldOff prog 137 0 0 := ⟨fun b o w => by kernel_rfl⟩
instance fld_137_1 : FldOff prog 137 1 1 := ⟨fun b o w => by kernel_rfl⟩
instance fld_137_2 : FldOff prog 137 2 2 := ⟨fun b o w => by kernel_rfl⟩
instance fld_137_3 : FldOff prog 137 3 3 := ⟨fun b o w => by kernel_rfl⟩
instance aggC_138 : AggC prog 138 0 := ⟨fun w => by kernel_rfl, by kernel_rfl⟩
instance zeroC_138 : ZeroC prog 138 (.agg #[]) := ⟨by kernel_rfl⟩
instance ul_138 : Ul prog 138 (.array 0 16) := ⟨by kernel_rfl⟩
instance aggC_139 : AggC prog 139 0 := ⟨fun w => by kernel_rfl, by kernel_rfl⟩
instance zeroC_139 : ZeroC prog 139 (.agg #[]) := ⟨by kernel_rfl⟩
instance aggC_140 : AggC prog 140 0 := ⟨fun w => by kernel_rfl, by kernel_rfl⟩
instance zeroC_140 : ZeroC prog 140 (.agg #[]) := ⟨by kernel_rfl⟩
instance oneC_141 : OneC prog 141 := ⟨fun w => by kernel_rfl, by kernel_rfl⟩
instance zeroC_141 : ZeroC prog 141 (.int .u8 0) := ⟨by kernel_rfl⟩
instance ul_141 : Ul prog 141 (.int .u8) := ⟨by kernel_rfl⟩
instance oneC_142 : OneC prog 142 := ⟨fun w => by kernel_rfl, by kernel_rfl⟩
instance zeroC_142 : ZeroC prog 142 (.int .u8 0) := ⟨by kernel_rfl⟩
instance ul_142 : Ul prog 142 (.int .u8) := ⟨by kernel_rfl⟩
instance oneC_144 : OneC prog 144 := ⟨fun w => by kernel_rfl, by kernel_rfl⟩
instance zeroC_144 : ZeroC prog 144 (.pointer none) := ⟨by kernel_rfl⟩
instance ul_144 : Ul prog 144 (.pointer 5) := ⟨by kernel_rfl⟩
instance oneC_145 : OneC prog 145 := ⟨fun w => by kernel_rfl, by kernel_rfl⟩
instance zeroC_145 : ZeroC prog 145 (.int .i32 0) := ⟨by kernel_rfl⟩
instance ul_145 : Ul prog 145 (.int .i32) := ⟨by kernel_rfl⟩
instance oneC_146 : OneC prog 146 := ⟨fun w => by kernel_rfl, by kernel_rfl⟩
instance zeroC_146 : ZeroC prog 146 (.int .i32 0) := ⟨by kernel_rfl⟩
instance ul_146 : Ul prog 146 (.int .i32) := ⟨by kernel_rfl⟩
instance aggC_147 : AggC prog 147 11 := ⟨fun w => by kernel_rfl, by kernel_rfl⟩
instance zeroC_147 : ZeroC prog 147 (.agg #[(.int .u64 0), (.int .u64 0), (.int .u32 0), (.int .u8 0), (.int .u8 0), (.int .u8 0), (.int .u8 0), .nilFunc, (.pointer none), (.int .i32 0), (.int .i32 0)]) := ⟨by kernel_rfl⟩
instance fld_147_0 : FldOff prog 147 0 0 := ⟨fun b o w => by kernel_rfl⟩
instance fld_147_1 : FldOff prog 147 1 1 := ⟨fun b o w => by kernel_rfl⟩
instance fld_147_2 : FldOff prog 147 2 2 := ⟨fun b o w => by kernel_rfl⟩
instance fld_147_3 : FldOff prog 147 3 3 := ⟨fun b o w => by kernel_rfl⟩
instance fld_147_4 : FldOff prog 147 4 4 := ⟨fun b o w => by kernel_rfl⟩
instance fld_147_5 : FldOff prog 147 5 5 := ⟨fun b o w => by kernel_rfl⟩
instance fld_147_6 : FldOff prog 147 6 6 := ⟨fun b o w => by kernel_rfl⟩
instance fld_147_7 : FldOff prog 147 7 7 := ⟨fun b o w => by kernel_rfl⟩
instance fld_147_8 : FldOff prog 147 8 8 := ⟨fun b o w => by kernel_rfl⟩
instance fld_147_9 : FldOff prog 147 9 9 := ⟨fun b o w => by kernel_rfl⟩
instance fld_147_10 : FldOff prog 147 10 10 := ⟨fun b o w => by kernel_rfl⟩
instance aggC_148 : AggC prog 148 11 := ⟨fun w => by kernel_rfl, by kernel_rfl⟩
instance zeroC_148 : ZeroC prog 148 (.agg #[(.int .u64 0), (.int .u64 0), (.int .u32 0), (.int .u8 0), (.int .u8 0), (.int .u8 0), (.int .u8 0), .nilFunc, (.pointer none), (.int .i32 0), (.int .i32 0)]) := ⟨by kernel_rfl⟩
instance fld_148_0 : FldOff prog 148 0 0 := ⟨fun b o w => by kernel_rfl⟩
instance fld_148_1 : FldOff prog 148 1 1 := ⟨fun b o w => by kernel_rfl⟩
instance fld_148_2 : FldOff prog 148 2 2 := ⟨fun b o w => by kernel_rfl⟩
instance fld_148_3 : FldOff prog 148 3 3 := ⟨fun b o w => by kernel_rfl⟩
instance fld_148_4 : FldOff prog 148 4 4 := ⟨fun b o w => by kernel_rfl⟩
instance fld_148_5 : FldOff prog 148 5 5 := ⟨fun b o w => by kernel_rfl⟩
instance fld_148_6 : FldOff prog 148 6 6 := ⟨fun b o w => by kernel_rfl⟩
instance fld_148_7 : FldOff prog 148 7 7 := ⟨fun b o w => by kernel_rfl⟩
instance fld_148_8 : FldOff prog 148 8 8 := ⟨fun b o w => by kernel_rfl⟩
instance fld_148_9 : FldOff prog 148 9 9 := ⟨fun b o w => by kernel_rfl⟩
instance fld_148_10 : FldOff prog 148 10 10 := ⟨fun b o w => by kernel_rfl⟩
instance oneC_149 : OneC prog 149 := ⟨fun w => by kernel_rfl, by kernel_rfl⟩
instance zeroC_149 : ZeroC prog 149 (.pointer none) := ⟨by kernel_rfl⟩

end Go.Proofs.Ytcjklbhobmkalaa
