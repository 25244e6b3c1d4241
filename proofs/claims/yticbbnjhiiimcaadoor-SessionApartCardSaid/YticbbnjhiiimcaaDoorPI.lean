import Derived.Test.YticbbnjhiiimcaaDoorProg
import Derived.Test.YticbbnjhiiimcaaDoorVc
import Derived.KernelRfl
set_option linter.all false
set_option maxRecDepth 100000
namespace Go.Proofs.YticbbnjhiiimcaaDoor
open Go Hold
noncomputable abbrev prog : Program := Tryd.prog
instance oneC_2 : OneC prog 2 := ⟨fun w => by kernel_rfl, by kernel_rfl⟩
instance zeroC_2 : ZeroC prog 2 (.int .i64 0) := ⟨by kernel_rfl⟩
instance ul_2 : Ul prog 2 (.int .i64) := ⟨by kernel_rfl⟩
instance oneC_3 : OneC prog 3 := ⟨fun w => by kernel_rfl, by kernel_rfl⟩
instance zeroC_3 : ZeroC prog 3 (.int .i64 0) := ⟨by kernel_rfl⟩
instance ul_3 : Ul prog 3 (.int .i64) := ⟨by kernel_rfl⟩
instance oneC_4 : OneC prog 4 := ⟨fun w => by kernel_rfl, by kernel_rfl⟩
instance zeroC_4 : ZeroC prog 4 (.bool false) := ⟨by kernel_rfl⟩
instance ul_4 : Ul prog 4 .bool := ⟨by kernel_rfl⟩
instance oneC_5 : OneC prog 5 := ⟨fun w => by kernel_rfl, by kernel_rfl⟩
instance zeroC_5 : ZeroC prog 5 (.int .u8 0) := ⟨by kernel_rfl⟩
instance ul_5 : Ul prog 5 (.int .u8) := ⟨by kernel_rfl⟩
instance oneC_6 : OneC prog 6 := ⟨fun w => by kernel_rfl, by kernel_rfl⟩
instance zeroC_6 : ZeroC prog 6 (.int .u8 0) := ⟨by kernel_rfl⟩
instance ul_6 : Ul prog 6 (.int .u8) := ⟨by kernel_rfl⟩
instance aggC_7 : AggC prog 7 4 := ⟨fun w => by kernel_rfl, by kernel_rfl⟩
instance zeroC_7 : ZeroC prog 7 (.agg #[(.int .i64 0), (.int .i64 0), (.bool false), (.int .u8 0)]) := ⟨by kernel_rfl⟩
instance fld_7_0 : FldOff prog 7 0 0 := ⟨fun b o w => by kernel_rfl⟩
instance fld_7_1 : FldOff prog 7 1 1 := ⟨fun b o w => by kernel_rfl⟩
instance fld_7_2 : FldOff prog 7 2 2 := ⟨fun b o w => by kernel_rfl⟩
instance fld_7_3 : FldOff prog 7 3 3 := ⟨fun b o w => by kernel_rfl⟩
instance aggC_8 : AggC prog 8 4 := ⟨fun w => by kernel_rfl, by kernel_rfl⟩
instance zeroC_8 : ZeroC prog 8 (.agg #[(.int .i64 0), (.int .i64 0), (.bool false), (.int .u8 0)]) := ⟨by kernel_rfl⟩
instance fld_8_0 : FldOff prog 8 0 0 := ⟨fun b o w => by kernel_rfl⟩
instance fld_8_1 : FldOff prog 8 1 1 := ⟨fun b o w => by kernel_rfl⟩
instance fld_8_2 : FldOff prog 8 2 2 := ⟨fun b o w => by kernel_rfl⟩
instance fld_8_3 : FldOff prog 8 3 3 := ⟨fun b o w => by kernel_rfl⟩
instance oneC_9 : OneC prog 9 := ⟨fun w => by kernel_rfl, by kernel_rfl⟩
instance zeroC_9 : ZeroC prog 9 (.string ⟨#[]⟩) := ⟨by kernel_rfl⟩
instance ul_9 : Ul prog 9 .string := ⟨by kernel_rfl⟩
instance oneC_10 : OneC prog 10 := ⟨fun w => by kernel_rfl, by kernel_rfl⟩
instance zeroC_10 : ZeroC prog 10 (.string ⟨#[]⟩) := ⟨by kernel_rfl⟩
instance ul_10 : Ul prog 10 .string := ⟨by kernel_rfl⟩
instance oneC_11 : OneC prog 11 := ⟨fun w => by kernel_rfl, by kernel_rfl⟩
instance zeroC_11 : ZeroC prog 11 (.string ⟨#[]⟩) := ⟨by kernel_rfl⟩
instance ul_11 : Ul prog 11 .string := ⟨by kernel_rfl⟩
instance oneC_12 : OneC prog 12 := ⟨fun w => by kernel_rfl, by kernel_rfl⟩
instance zeroC_12 : ZeroC prog 12 (.int .u64 0) := ⟨by kernel_rfl⟩
instance ul_12 : Ul prog 12 (.int .u64) := ⟨by kernel_rfl⟩
instance aggC_13 : AggC prog 13 2 := ⟨fun w => by kernel_rfl, by kernel_rfl⟩
instance zeroC_13 : ZeroC prog 13 (.agg #[(.string ⟨#[]⟩), (.int .u64 0)]) := ⟨by kernel_rfl⟩
instance fld_13_0 : FldOff prog 13 0 0 := ⟨fun b o w => by kernel_rfl⟩
instance fld_13_1 : FldOff prog 13 1 1 := ⟨fun b o w => by kernel_rfl⟩
instance aggC_14 : AggC prog 14 2 := ⟨fun w => by kernel_rfl, by kernel_rfl⟩
instance zeroC_14 : ZeroC prog 14 (.agg #[(.string ⟨#[]⟩), (.int .u64 0)]) := ⟨by kernel_rfl⟩
instance fld_14_0 : FldOff prog 14 0 0 := ⟨fun b o w => by kernel_rfl⟩
instance fld_14_1 : FldOff prog 14 1 1 := ⟨fun b o w => by kernel_rfl⟩
instance oneC_15 : OneC prog 15 := ⟨fun w => by kernel_rfl, by kernel_rfl⟩
instance zeroC_15 : ZeroC prog 15 (.pointer none) := ⟨by kernel_rfl⟩
instance ul_15 : Ul prog 15 (.pointer 131) := ⟨by kernel_rfl⟩
instance oneC_16 : OneC prog 16 := ⟨fun w => by kernel_rfl, by kernel_rfl⟩
instance zeroC_16 : ZeroC prog 16 (.pointer none) := ⟨by kernel_rfl⟩
instance ul_16 : Ul prog 16 (.pointer 134) := ⟨by kernel_rfl⟩
instance oneC_17 : OneC prog 17 := ⟨fun w => by kernel_rfl, by kernel_rfl⟩
instance zeroC_17 : ZeroC prog 17 (.pointer none) := ⟨by kernel_rfl⟩
instance ul_17 : Ul prog 17 (.pointer 143) := ⟨by kernel_rfl⟩
instance aggC_18 : AggC prog 18 1 := ⟨fun w => by kernel_rfl, by kernel_rfl⟩
instance zeroC_18 : ZeroC prog 18 (.agg #[(.pointer none)]) := ⟨by kernel_rfl⟩
instance fld_18_0 : FldOff prog 18 0 0 := ⟨fun b o w => by kernel_rfl⟩
instance aggC_19 : AggC prog 19 1 := ⟨fun w => by kernel_rfl, by kernel_rfl⟩
instance zeroC_19 : ZeroC prog 19 (.agg #[(.pointer none)]) := ⟨by kernel_rfl⟩
instance fld_19_0 : FldOff prog 19 0 0 := ⟨fun b o w => by kernel_rfl⟩
instance oneC_20 : OneC prog 20 := ⟨fun w => by kernel_rfl, by kernel_rfl⟩
instance zeroC_20 : ZeroC prog 20 .nilIface := ⟨by kernel_rfl⟩
instance oneC_21 : OneC prog 21 := ⟨fun w => by kernel_rfl, by kernel_rfl⟩
instance zeroC_21 : ZeroC prog 21 (.int .i32 0) := ⟨by kernel_rfl⟩
instance ul_21 : Ul prog 21 (.int .i32) := ⟨by kernel_rfl⟩
instance aggC_22 : AggC prog 22 2 := ⟨fun w => by kernel_rfl, by kernel_rfl⟩
instance zeroC_22 : ZeroC prog 22 (.agg #[(.string ⟨#[]⟩), (.string ⟨#[]⟩)]) := ⟨by kernel_rfl⟩
instance fld_22_0 : FldOff prog 22 0 0 := ⟨fun b o w => by kernel_rfl⟩
instance fld_22_1 : FldOff prog 22 1 1 := ⟨fun b o w => by kernel_rfl⟩
instance aggC_23 : AggC prog 23 2 := ⟨fun w => by kernel_rfl, by kernel_rfl⟩
instance zeroC_23 : ZeroC prog 23 (.agg #[(.string ⟨#[]⟩), (.string ⟨#[]⟩)]) := ⟨by kernel_rfl⟩
instance fld_23_0 : FldOff prog 23 0 0 := ⟨fun b o w => by kernel_rfl⟩
instance fld_23_1 : FldOff prog 23 1 1 := ⟨fun b o w => by kernel_rfl⟩
instance aggC_24 : AggC prog 24 5 := ⟨fun w => by kernel_rfl, by kernel_rfl⟩
instance zeroC_24 : ZeroC prog 24 (.agg #[(.int .i64 0), (.string ⟨#[]⟩), (.string ⟨#[]⟩), (.int .i64 0), (.int .i64 0)]) := ⟨by kernel_rfl⟩
instance fld_24_0 : FldOff prog 24 0 0 := ⟨fun b o w => by kernel_rfl⟩
instance fld_24_1 : FldOff prog 24 1 1 := ⟨fun b o w => by kernel_rfl⟩
instance fld_24_2 : FldOff prog 24 2 3 := ⟨fun b o w => by kernel_rfl⟩
instance fld_24_3 : FldOff prog 24 3 4 := ⟨fun b o w => by kernel_rfl⟩
instance aggC_25 : AggC prog 25 5 := ⟨fun w => by kernel_rfl, by kernel_rfl⟩
instance zeroC_25 : ZeroC prog 25 (.agg #[(.int .i64 0), (.string ⟨#[]⟩), (.string ⟨#[]⟩), (.int .i64 0), (.int .i64 0)]) := ⟨by kernel_rfl⟩
instance fld_25_0 : FldOff prog 25 0 0 := ⟨fun b o w => by kernel_rfl⟩
instance fld_25_1 : FldOff prog 25 1 1 := ⟨fun b o w => by kernel_rfl⟩
instance fld_25_2 : FldOff prog 25 2 3 := ⟨fun b o w => by kernel_rfl⟩
instance fld_25_3 : FldOff prog 25 3 4 := ⟨fun b o w => by kernel_rfl⟩
instance oneC_29 : OneC prog 29 := ⟨fun w => by kernel_rfl, by kernel_rfl⟩
instance zeroC_29 : ZeroC prog 29 (.slice none 0 0) := ⟨by kernel_rfl⟩
instance sliceT_29 : SliceT prog 29 33 1 2 (.int .u16 0) := ⟨by kernel_rfl, by kernel_rfl, rfl, by decide⟩
instance ul_29 : Ul prog 29 (.slice 33) := ⟨by kernel_rfl⟩
instance oneC_30 : OneC prog 30 := ⟨fun w => by kernel_rfl, by kernel_rfl⟩
instance zeroC_30 : ZeroC prog 30 (.slice none 0 0) := ⟨by kernel_rfl⟩
instance sliceT_30 : SliceT prog 30 4 1 1 (.bool false) := ⟨by kernel_rfl, by kernel_rfl, rfl, by decide⟩
instance ul_30 : Ul prog 30 (.slice 4) := ⟨by kernel_rfl⟩
instance oneC_31 : OneC prog 31 := ⟨fun w => by kernel_rfl, by kernel_rfl⟩
instance zeroC_31 : ZeroC prog 31 (.pointer none) := ⟨by kernel_rfl⟩
instance ul_31 : Ul prog 31 (.pointer 58) := ⟨by kernel_rfl⟩
instance oneC_33 : OneC prog 33 := ⟨fun w => by kernel_rfl, by kernel_rfl⟩
instance zeroC_33 : ZeroC prog 33 (.int .u16 0) := ⟨by kernel_rfl⟩
instance ul_33 : Ul prog 33 (.int .u16) := ⟨by kernel_rfl⟩
instance oneC_34 : OneC prog 34 := ⟨fun w => by kernel_rfl, by kernel_rfl⟩
instance zeroC_34 : ZeroC prog 34 (.int .i64 0) := ⟨by kernel_rfl⟩
instance ul_34 : Ul prog 34 (.int .i64) := ⟨by kernel_rfl⟩
instance oneC_37 : OneC prog 37 := ⟨fun w => by kernel_rfl, by kernel_rfl⟩
instance zeroC_37 : ZeroC prog 37 (.slice none 0 0) := ⟨by kernel_rfl⟩
instance sliceT_37 : SliceT prog 37 25 5 56 (.agg #[(.int .i64 0), (.string ⟨#[]⟩), (.string ⟨#[]⟩), (.int .i64 0), (.int .i64 0)]) := ⟨by kernel_rfl, by kernel_rfl, rfl, by decide⟩
instance ul_37 : Ul prog 37 (.slice 25) := ⟨by kernel_rfl⟩
instance oneC_41 : OneC prog 41 := ⟨fun w => by kernel_rfl, by kernel_rfl⟩
instance zeroC_41 : ZeroC prog 41 (.slice none 0 0) := ⟨by kernel_rfl⟩
instance sliceT_41 : SliceT prog 41 5 1 1 (.int .u8 0) := ⟨by kernel_rfl, by kernel_rfl, rfl, by decide⟩
instance ul_41 : Ul prog 41 (.slice 5) := ⟨by kernel_rfl⟩
instance oneC_44 : OneC prog 44 := ⟨fun w => by kernel_rfl, by kernel_rfl⟩
instance zeroC_44 : ZeroC prog 44 (.slice none 0 0) := ⟨by kernel_rfl⟩
instance sliceT_44 : SliceT prog 44 49 5 56 (.agg #[(.int .i64 0), (.string ⟨#[]⟩), (.string ⟨#[]⟩), (.int .i64 0), (.int .i64 0)]) := ⟨by kernel_rfl, by kernel_rfl, rfl, by decide⟩
instance ul_44 : Ul prog 44 (.slice 49) := ⟨by kernel_rfl⟩
instance oneC_45 : OneC prog 45 := ⟨fun w => by kernel_rfl, by kernel_rfl⟩
instance zeroC_45 : ZeroC prog 45 (.pointer none) := ⟨by kernel_rfl⟩
instance ul_45 : Ul prog 45 (.pointer 63) := ⟨by kernel_rfl⟩
instance aggC_48 : AggC prog 48 5 := ⟨fun w => by kernel_rfl, by kernel_rfl⟩
instance zeroC_48 : ZeroC prog 48 (.agg #[(.int .i64 0), (.string ⟨#[]⟩), (.string ⟨#[]⟩), (.int .i64 0), (.int .i64 0)]) := ⟨by kernel_rfl⟩
instance fld_48_0 : FldOff prog 48 0 0 := ⟨fun b o w => by kernel_rfl⟩
instance fld_48_1 : FldOff prog 48 1 1 := ⟨fun b o w => by kernel_rfl⟩
instance fld_48_2 : FldOff prog 48 2 3 := ⟨fun b o w => by kernel_rfl⟩
instance fld_48_3 : FldOff prog 48 3 4 := ⟨fun b o w => by kernel_rfl⟩
instance aggC_49 : AggC prog 49 5 := ⟨fun w => by kernel_rfl, by kernel_rfl⟩
instance zeroC_49 : ZeroC prog 49 (.agg #[(.int .i64 0), (.string ⟨#[]⟩), (.string ⟨#[]⟩), (.int .i64 0), (.int .i64 0)]) := ⟨by kernel_rfl⟩
instance fld_49_0 : FldOff prog 49 0 0 := ⟨fun b o w => by kernel_rfl⟩
instance fld_49_1 : FldOff prog 49 1 1 := ⟨fun b o w => by kernel_rfl⟩
instance fld_49_2 : FldOff prog 49 2 3 := ⟨fun b o w => by kernel_rfl⟩
instance fld_49_3 : FldOff prog 49 3 4 := ⟨fun b o w => by kernel_rfl⟩
instance oneC_54 : OneC prog 54 := ⟨fun w => by kernel_rfl, by kernel_rfl⟩
instance zeroC_54 : ZeroC prog 54 (.map none) := ⟨by kernel_rfl⟩
instance ul_54 : Ul prog 54 (.map 3 25) := ⟨by kernel_rfl⟩
instance aggC_55 : AggC prog 55 1 := ⟨fun w => by kernel_rfl, by kernel_rfl⟩
instance zeroC_55 : ZeroC prog 55 (.agg #[(.int .i64 0)]) := ⟨by kernel_rfl⟩
instance fld_55_0 : FldOff prog 55 0 0 := ⟨fun b o w => by kernel_rfl⟩
instance aggC_56 : AggC prog 56 1 := ⟨fun w => by kernel_rfl, by kernel_rfl⟩
instance zeroC_56 : ZeroC prog 56 (.agg #[(.int .i64 0)]) := ⟨by kernel_rfl⟩
instance fld_56_0 : FldOff prog 56 0 0 := ⟨fun b o w => by kernel_rfl⟩
instance aggC_57 : AggC prog 57 3 := ⟨fun w => by kernel_rfl, by kernel_rfl⟩
instance zeroC_57 : ZeroC prog 57 (.agg #[(.int .i64 0), (.int .i64 0), (.map none)]) := ⟨by kernel_rfl⟩
instance fld_57_0 : FldOff prog 57 0 0 := ⟨fun b o w => by kernel_rfl⟩
instance fld_57_1 : FldOff prog 57 1 1 := ⟨fun b o w => by kernel_rfl⟩
instance fld_57_2 : FldOff prog 57 2 2 := ⟨fun b o w => by kernel_rfl⟩
instance aggC_58 : AggC prog 58 3 := ⟨fun w => by kernel_rfl, by kernel_rfl⟩
instance zeroC_58 : ZeroC prog 58 (.agg #[(.int .i64 0), (.int .i64 0), (.map none)]) := ⟨by kernel_rfl⟩
instance fld_58_0 : FldOff prog 58 0 0 := ⟨fun b o w => by kernel_rfl⟩
instance fld_58_1 : FldOff prog 58 1 1 := ⟨fun b o w => by kernel_rfl⟩
instance fld_58_2 : FldOff prog 58 2 2 := ⟨fun b o w => by kernel_rfl⟩
instance aggC_62 : AggC prog 62 3 := ⟨fun w => by kernel_rfl, by kernel_rfl⟩
instance zeroC_62 : ZeroC prog 62 (.agg #[(.int .i64 0), (.int .i64 0), (.slice none 0 0)]) := ⟨by kernel_rfl⟩
instance fld_62_0 : FldOff prog 62 0 0 := ⟨fun b o w => by kernel_rfl⟩
instance fld_62_1 : FldOff prog 62 1 1 := ⟨fun b o w => by kernel_rfl⟩
instance fld_62_2 : FldOff prog 62 2 2 := ⟨fun b o w => by kernel_rfl⟩
instance aggC_63 : AggC prog 63 3 := ⟨fun w => by kernel_rfl, by kernel_rfl⟩
instance zeroC_63 : ZeroC prog 63 (.agg #[(.int .i64 0), (.int .i64 0), (.slice none 0 0)]) := ⟨by kernel_rfl⟩
instance fld_63_0 : FldOff prog 63 0 0 := ⟨fun b o w => by kernel_rfl⟩
instance fld_63_1 : FldOff prog 63 1 1 := ⟨fun b o w => by kernel_rfl⟩
instance fld_63_2 : FldOff prog 63 2 2 := ⟨fun b o w => by kernel_rfl⟩
instance oneC_65 : OneC prog 65 := ⟨fun w => by kernel_rfl, by kernel_rfl⟩
instance zeroC_65 : ZeroC prog 65 (.slice none 0 0) := ⟨by kernel_rfl⟩
instance sliceT_65 : SliceT prog 65 3 1 8 (.int .i64 0) := ⟨by kernel_rfl, by kernel_rfl, rfl, by decide⟩
instance ul_65 : Ul prog 65 (.slice 3) := ⟨by kernel_rfl⟩
instance aggC_82 : AggC prog 82 256 := ⟨fun w => by kernel_rfl, by kernel_rfl⟩
instance zeroC_82 : ZeroC prog 82 (.agg #[(.bool false), (.bool false), (.bool false), (.bool false), (.bool false), (.bool false), (.bool false), (.bool false), (.bool false), (.bool false), (.bool false), (.bool false), (.bool false), (.bool false), (.bool false), (.bool false), (.bool false), (.bool false), (.bool false), (.bool false), (.bool false), (.bool false), (.bool false), (.bool false), (.bool false), (.bool false), (.bool false), (.bool false), (.bool false), (.bool false), (.bool false), (.bool false), (.bool false), (.bool false), (.bool false), (.bool false), (.bool false), (.bool false), (.bool false), (.bool false), (.bool false), (.bool false), (.bool false), (.bool false), (.bool false), (.bool false), (.bool false), (.bool false), (.bool false), (.bool false), (.bool false), (.bool false), (.bool false), (.bool false), (.bool false), (.bool false), (.bool false), (.bool false), (.bool false), (.bool false), (.bool false), (.bool false), (.bool false), (.bool false), (.bool false), (.bool false), (.bool false), (.bool false), (.bool false), (.bool false), (.bool false), (.bool false), (.bool false), (.bool false), (.bool false), (.bool false), (.bool false), (.bool false), (.bool false), (.bool false), (.bool false), (.bool false), (.bool false), (.bool false), (.bool false), (.bool false), (.bool false), (.bool false), (.bool false), (.bool false), (.bool false), (.bool false), (.bool false), (.bool false), (.bool false), (.bool false), (.bool false), (.bool false), (.bool false), (.bool false), (.bool false), (.bool false), (.bool false), (.bool false), (.bool false), (.bool false), (.bool false), (.bool false), (.bool false), (.bool false), (.bool false), (.bool false), (.bool false), (.bool false), (.bool false), (.bool false), (.bool false), (.bool false), (.bool false), (.bool false), (.bool false), (.bool false), (.bool false), (.bool false), (.bool false), (.bool false), (.bool false), (.bool false), (.bool false), (.bool false), (.bool false), (.bool false), (.bool false), (.bool false), (.bool false), (.bool false), (.bool false), (.bool false), (.bool false), (.bool false), (.bool false), (.bool false), (.bool false), (.bool false), (.bool false), (.bool false), (.bool false), (.bool false), (.bool false), (.bool false), (.bool false), (.bool false), (.bool false), (.bool false), (.bool false), (.bool false), (.bool false), (.bool false), (.bool false), (.bool false), (.bool false), (.bool false), (.bool false), (.bool false), (.bool false), (.bool false), (.bool false), (.bool false), (.bool false), (.bool false), (.bool false), (.bool false), (.bool false), (.bool false), (.bool false), (.bool false), (.bool false), (.bool false), (.bool false), (.bool false), (.bool false), (.bool false), (.bool false), (.bool false), (.bool false), (.bool false), (.bool false), (.bool false), (.bool false), (.bool false), (.bool false), (.bool false), (.bool false), (.bool false), (.bool false), (.bool false), (.bool false), (.bool false), (.bool false), (.bool false), (.bool false), (.bool false), (.bool false), (.bool false), (.bool false), (.bool false), (.bool false), (.bool false), (.bool false), (.bool false), (.bool false), (.bool false), (.bool false), (.bool false), (.bool false), (.bool false), (.bool false), (.bool false), (.bool false), (.bool false), (.bool false), (.bool false), (.bool false), (.bool false), (.bool false), (.bool false), (.bool false), (.bool false), (.bool false), (.bool false), (.bool false), (.bool false), (.bool false), (.bool false), (.bool false), (.bool false), (.bool false), (.bool false), (.bool false), (.bool false), (.bool false), (.bool false), (.bool false), (.bool false), (.bool false), (.bool false), (.bool false), (.bool false), (.bool false), (.bool false), (.bool false), (.bool false), (.bool false), (.bool false), (.bool false), (.bool false)]) := ⟨by kernel_rfl⟩
instance ul_82 : Ul prog 82 (.array 256 4) := ⟨by kernel_rfl⟩
instance aggC_83 : AggC prog 83 256 := ⟨fun w => by kernel_rfl, by kernel_rfl⟩
instance zeroC_83 : ZeroC prog 83 (.agg #[(.bool false), (.bool false), (.bool false), (.bool false), (.bool false), (.bool false), (.bool false), (.bool false), (.bool false), (.bool false), (.bool false), (.bool false), (.bool false), (.bool false), (.bool false), (.bool false), (.bool false), (.bool false), (.bool false), (.bool false), (.bool false), (.bool false), (.bool false), (.bool false), (.bool false), (.bool false), (.bool false), (.bool false), (.bool false), (.bool false), (.bool false), (.bool false), (.bool false), (.bool false), (.bool false), (.bool false), (.bool false), (.bool false), (.bool false), (.bool false), (.bool false), (.bool false), (.bool false), (.bool false), (.bool false), (.bool false), (.bool false), (.bool false), (.bool false), (.bool false), (.bool false), (.bool false), (.bool false), (.bool false), (.bool false), (.bool false), (.bool false), (.bool false), (.bool false), (.bool false), (.bool false), (.bool false), (.bool false), (.bool false), (.bool false), (.bool false), (.bool false), (.bool false), (.bool false), (.bool false), (.bool false), (.bool false), (.bool false), (.bool false), (.bool false), (.bool false), (.bool false), (.bool false), (.bool false), (.bool false), (.bool false), (.bool false), (.bool false), (.bool false), (.bool false), (.bool false), (.bool false), (.bool false), (.bool false), (.bool false), (.bool false), (.bool false), (.bool false), (.bool false), (.bool false), (.bool false), (.bool false), (.bool false), (.bool false), (.bool false), (.bool false), (.bool false), (.bool false), (.bool false), (.bool false), (.bool false), (.bool false), (.bool false), (.bool false), (.bool false), (.bool false), (.bool false), (.bool false), (.bool false), (.bool false), (.bool false), (.bool false), (.bool false), (.bool false), (.bool false), (.bool false), (.bool false), (.bool false), (.bool false), (.bool false), (.bool false), (.bool false), (.bool false), (.bool false), (.bool false), (.bool false), (.bool false), (.bool false), (.bool false), (.bool false), (.bool false), (.bool false), (.bool false), (.bool false), (.bool false), (.bool false), (.bool false), (.bool false), (.bool false), (.bool false), (.bool false), (.bool false), (.bool false), (.bool false), (.bool false), (.bool false), (.bool false), (.bool false), (.bool false), (.bool false), (.bool false), (.bool false), (.bool false), (.bool false), (.bool false), (.bool false), (.bool false), (.bool false), (.bool false), (.bool false), (.bool false), (.bool false), (.bool false), (.bool false), (.bool false), (.bool false), (.bool false), (.bool false), (.bool false), (.bool false), (.bool false), (.bool false), (.bool false), (.bool false), (.bool false), (.bool false), (.bool false), (.bool false), (.bool false), (.bool false), (.bool false), (.bool false), (.bool false), (.bool false), (.bool false), (.bool false), (.bool false), (.bool false), (.bool false), (.bool false), (.bool false), (.bool false), (.bool false), (.bool false), (.bool false), (.bool false), (.bool false), (.bool false), (.bool false), (.bool false), (.bool false), (.bool false), (.bool false), (.bool false), (.bool false), (.bool false), (.bool false), (.bool false), (.bool false), (.bool false), (.bool false), (.bool false), (.bool false), (.bool false), (.bool false), (.bool false), (.bool false), (.bool false), (.bool false), (.bool false), (.bool false), (.bool false), (.bool false), (.bool false), (.bool false), (.bool false), (.bool false), (.bool false), (.bool false), (.bool false), (.bool false), (.bool false), (.bool false), (.bool false), (.bool false), (.bool false), (.bool false), (.bool false), (.bool false), (.bool false), (.bool false), (.bool false), (.bool false), (.bool false), (.bool false), (.bool false), (.bool false), (.bool false), (.bool false), (.bool false), (.bool false)]) := ⟨by kernel_rfl⟩
instance ul_83 : Ul prog 83 (.array 256 4) := ⟨by kernel_rfl⟩
instance oneC_87 : OneC prog 87 := ⟨fun w => by kernel_rfl, by kernel_rfl⟩
instance zeroC_87 : ZeroC prog 87 (.pointer none) := ⟨by kernel_rfl⟩
instance ul_87 : Ul prog 87 (.pointer 83) := ⟨by kernel_rfl⟩
instance oneC_97 : OneC prog 97 := ⟨fun w => by kernel_rfl, by kernel_rfl⟩
instance zeroC_97 : ZeroC prog 97 (.int .u64 0) := ⟨by kernel_rfl⟩
instance ul_97 : Ul prog 97 (.int .u64) := ⟨by kernel_rfl⟩
instance oneC_100 : OneC prog 100 := ⟨fun w => by kernel_rfl, by kernel_rfl⟩
instance zeroC_100 : ZeroC prog 100 (.int .i64 0) := ⟨by kernel_rfl⟩
instance ul_100 : Ul prog 100 (.int .i64) := ⟨by kernel_rfl⟩
instance oneC_109 : OneC prog 109 := ⟨fun w => by kernel_rfl, by kernel_rfl⟩
instance zeroC_109 : ZeroC prog 109 (.int .u32 0) := ⟨by kernel_rfl⟩
instance ul_109 : Ul prog 109 (.int .u32) := ⟨by kernel_rfl⟩
instance oneC_111 : OneC prog 111 := ⟨fun w => by kernel_rfl, by kernel_rfl⟩
instance zeroC_111 : ZeroC prog 111 (.int .u64 0) := ⟨by kernel_rfl⟩
instance ul_111 : Ul prog 111 (.int .u64) := ⟨by kernel_rfl⟩
instance aggC_112 : AggC prog 112 256 := ⟨fun w => by kernel_rfl, by kernel_rfl⟩
instance zeroC_112 : ZeroC prog 112 (.agg #[(.int .u8 0), (.int .u8 0), (.int .u8 0), (.int .u8 0), (.int .u8 0), (.int .u8 0), (.int .u8 0), (.int .u8 0), (.int .u8 0), (.int .u8 0), (.int .u8 0), (.int .u8 0), (.int .u8 0), (.int .u8 0), (.int .u8 0), (.int .u8 0), (.int .u8 0), (.int .u8 0), (.int .u8 0), (.int .u8 0), (.int .u8 0), (.int .u8 0), (.int .u8 0), (.int .u8 0), (.int .u8 0), (.int .u8 0), (.int .u8 0), (.int .u8 0), (.int .u8 0), (.int .u8 0), (.int .u8 0), (.int .u8 0), (.int .u8 0), (.int .u8 0), (.int .u8 0), (.int .u8 0), (.int .u8 0), (.int .u8 0), (.int .u8 0), (.int .u8 0), (.int .u8 0), (.int .u8 0), (.int .u8 0), (.int .u8 0), (.int .u8 0), (.int .u8 0), (.int .u8 0), (.int .u8 0), (.int .u8 0), (.int .u8 0), (.int .u8 0), (.int .u8 0), (.int .u8 0), (.int .u8 0), (.int .u8 0), (.int .u8 0), (.int .u8 0), (.int .u8 0), (.int .u8 0), (.int .u8 0), (.int .u8 0), (.int .u8 0), (.int .u8 0), (.int .u8 0), (.int .u8 0), (.int .u8 0), (.int .u8 0), (.int .u8 0), (.int .u8 0), (.int .u8 0), (.int .u8 0), (.int .u8 0), (.int .u8 0), (.int .u8 0), (.int .u8 0), (.int .u8 0), (.int .u8 0), (.int .u8 0), (.int .u8 0), (.int .u8 0), (.int .u8 0), (.int .u8 0), (.int .u8 0), (.int .u8 0), (.int .u8 0), (.int .u8 0), (.int .u8 0), (.int .u8 0), (.int .u8 0), (.int .u8 0), (.int .u8 0), (.int .u8 0), (.int .u8 0), (.int .u8 0), (.int .u8 0), (.int .u8 0), (.int .u8 0), (.int .u8 0), (.int .u8 0), (.int .u8 0), (.int .u8 0), (.int .u8 0), (.int .u8 0), (.int .u8 0), (.int .u8 0), (.int .u8 0), (.int .u8 0), (.int .u8 0), (.int .u8 0), (.int .u8 0), (.int .u8 0), (.int .u8 0), (.int .u8 0), (.int .u8 0), (.int .u8 0), (.int .u8 0), (.int .u8 0), (.int .u8 0), (.int .u8 0), (.int .u8 0), (.int .u8 0), (.int .u8 0), (.int .u8 0), (.int .u8 0), (.int .u8 0), (.int .u8 0), (.int .u8 0), (.int .u8 0), (.int .u8 0), (.int .u8 0), (.int .u8 0), (.int .u8 0), (.int .u8 0), (.int .u8 0), (.int .u8 0), (.int .u8 0), (.int .u8 0), (.int .u8 0), (.int .u8 0), (.int .u8 0), (.int .u8 0), (.int .u8 0), (.int .u8 0), (.int .u8 0), (.int .u8 0), (.int .u8 0), (.int .u8 0), (.int .u8 0), (.int .u8 0), (.int .u8 0), (.int .u8 0), (.int .u8 0), (.int .u8 0), (.int .u8 0), (.int .u8 0), (.int .u8 0), (.int .u8 0), (.int .u8 0), (.int .u8 0), (.int .u8 0), (.int .u8 0), (.int .u8 0), (.int .u8 0), (.int .u8 0), (.int .u8 0), (.int .u8 0), (.int .u8 0), (.int .u8 0), (.int .u8 0), (.int .u8 0), (.int .u8 0), (.int .u8 0), (.int .u8 0), (.int .u8 0), (.int .u8 0), (.int .u8 0), (.int .u8 0), (.int .u8 0), (.int .u8 0), (.int .u8 0), (.int .u8 0), (.int .u8 0), (.int .u8 0), (.int .u8 0), (.int .u8 0), (.int .u8 0), (.int .u8 0), (.int .u8 0), (.int .u8 0), (.int .u8 0), (.int .u8 0), (.int .u8 0), (.int .u8 0), (.int .u8 0), (.int .u8 0), (.int .u8 0), (.int .u8 0), (.int .u8 0), (.int .u8 0), (.int .u8 0), (.int .u8 0), (.int .u8 0), (.int .u8 0), (.int .u8 0), (.int .u8 0), (.int .u8 0), (.int .u8 0), (.int .u8 0), (.int .u8 0), (.int .u8 0), (.int .u8 0), (.int .u8 0), (.int .u8 0), (.int .u8 0), (.int .u8 0), (.int .u8 0), (.int .u8 0), (.int .u8 0), (.int .u8 0), (.int .u8 0), (.int .u8 0), (.int .u8 0), (.int .u8 0), (.int .u8 0), (.int .u8 0), (.int .u8 0), (.int .u8 0), (.int .u8 0), (.int .u8 0), (.int .u8 0), (.int .u8 0), (.int .u8 0), (.int .u8 0), (.int .u8 0), (.int .u8 0), (.int .u8 0), (.int .u8 0), (.int .u8 0), (.int .u8 0), (.int .u8 0), (.int .u8 0), (.int .u8 0), (.int .u8 0), (.int .u8 0), (.int .u8 0), (.int .u8 0), (.int .u8 0), (.int .u8 0), (.int .u8 0), (.int .u8 0), (.int .u8 0), (.int .u8 0), (.int .u8 0), (.int .u8 0), (.int .u8 0), (.int .u8 0)]) := ⟨by kernel_rfl⟩
instance ul_112 : Ul prog 112 (.array 256 5) := ⟨by kernel_rfl⟩
instance aggC_113 : AggC prog 113 2 := ⟨fun w => by kernel_rfl, by kernel_rfl⟩
instance zeroC_113 : ZeroC prog 113 (.agg #[(.int .u8 0), (.int .u8 0)]) := ⟨by kernel_rfl⟩
instance fld_113_0 : FldOff prog 113 0 0 := ⟨fun b o w => by kernel_rfl⟩
instance fld_113_1 : FldOff prog 113 1 1 := ⟨fun b o w => by kernel_rfl⟩
instance aggC_114 : AggC prog 114 2 := ⟨fun w => by kernel_rfl, by kernel_rfl⟩
instance zeroC_114 : ZeroC prog 114 (.agg #[(.int .u8 0), (.int .u8 0)]) := ⟨by kernel_rfl⟩
instance fld_114_0 : FldOff prog 114 0 0 := ⟨fun b o w => by kernel_rfl⟩
instance fld_114_1 : FldOff prog 114 1 1 := ⟨fun b o w => by kernel_rfl⟩
instance aggC_115 : AggC prog 115 32 := ⟨fun w => by kernel_rfl, by kernel_rfl⟩
instance zeroC_115 : ZeroC prog 115 (.agg #[(.int .u8 0), (.int .u8 0), (.int .u8 0), (.int .u8 0), (.int .u8 0), (.int .u8 0), (.int .u8 0), (.int .u8 0), (.int .u8 0), (.int .u8 0), (.int .u8 0), (.int .u8 0), (.int .u8 0), (.int .u8 0), (.int .u8 0), (.int .u8 0), (.int .u8 0), (.int .u8 0), (.int .u8 0), (.int .u8 0), (.int .u8 0), (.int .u8 0), (.int .u8 0), (.int .u8 0), (.int .u8 0), (.int .u8 0), (.int .u8 0), (.int .u8 0), (.int .u8 0), (.int .u8 0), (.int .u8 0), (.int .u8 0)]) := ⟨by kernel_rfl⟩
instance ul_115 : Ul prog 115 (.array 16 114) := ⟨by kernel_rfl⟩
instance oneC_120 : OneC prog 120 := ⟨fun w => by kernel_rfl, by kernel_rfl⟩
instance zeroC_120 : ZeroC prog 120 (.int .u64 0) := ⟨by kernel_rfl⟩
instance ul_120 : Ul prog 120 (.int .u64) := ⟨by kernel_rfl⟩
instance oneC_124 : OneC prog 124 := ⟨fun w => by kernel_rfl, by kernel_rfl⟩
instance zeroC_124 : ZeroC prog 124 (.pointer none) := ⟨by kernel_rfl⟩
instance ul_124 : Ul prog 124 (.pointer 3) := ⟨by kernel_rfl⟩
instance oneC_126 : OneC prog 126 := ⟨fun w => by kernel_rfl, by kernel_rfl⟩
instance zeroC_126 : ZeroC prog 126 (.pointer none) := ⟨by kernel_rfl⟩
instance ul_126 : Ul prog 126 (.pointer 120) := ⟨by kernel_rfl⟩
instance aggC_130 : AggC prog 130 4 := ⟨fun w => by kernel_rfl, by kernel_rfl⟩
instance zeroC_130 : ZeroC prog 130 (.agg #[(.pointer none), (.pointer none), (.pointer none), (.string ⟨#[]⟩)]) := ⟨by kernel_rfl⟩
instance fld_130_0 : FldOff prog 130 0 0 := ⟨fun b o w => by kernel_rfl⟩
instance fld_130_1 : FldOff prog 130 1 1 := ⟨fun b o w => by kernel_rfl⟩
instance fld_130_2 : FldOff prog 130 2 2 := ⟨fun b o w => by kernel_rfl⟩
instance fld_130_3 : FldOff prog 130 3 3 := ⟨fun b o w => by kernel_rfl⟩
instance aggC_131 : AggC prog 131 4 := ⟨fun w => by kernel_rfl, by kernel_rfl⟩
instance zeroC_131 : ZeroC prog 131 (.agg #[(.pointer none), (.pointer none), (.pointer none), (.string ⟨#[]⟩)]) := ⟨by kernel_rfl⟩
instance fld_131_0 : FldOff prog 131 0 0 := ⟨fun b o w => by kernel_rfl⟩
instance fld_131_1 : FldOff prog 131 1 1 := ⟨fun b o w => by kernel_rfl⟩
instance fld_131_2 : FldOff prog 131 2 2 := ⟨fun b o w => by kernel_rfl⟩
instance fld_131_3 : FldOff prog 131 3 3 := ⟨fun b o w => by kernel_rfl⟩
instance aggC_132 : AggC prog 132 0 := ⟨fun w => by kernel_rfl, by kernel_rfl⟩
instance zeroC_132 : ZeroC prog 132 (.agg #[]) := ⟨by kernel_rfl⟩
instance ul_132 : Ul prog 132 (.array 0 16) := ⟨by kernel_rfl⟩
instance aggC_133 : AggC prog 133 0 := ⟨fun w => by kernel_rfl, by kernel_rfl⟩
instance zeroC_133 : ZeroC prog 133 (.agg #[]) := ⟨by kernel_rfl⟩
instance aggC_134 : AggC prog 134 0 := ⟨fun w => by kernel_rfl, by kernel_rfl⟩
instance zeroC_134 : ZeroC prog 134 (.agg #[]) := ⟨by kernel_rfl⟩
instance oneC_136 : OneC prog 136 := ⟨fun w => by kernel_rfl, by kernel_rfl⟩
instance zeroC_136 : ZeroC prog 136 (.int .u8 0) := ⟨by kernel_rfl⟩
instance ul_136 : Ul prog 136 (.int .u8) := ⟨by kernel_rfl⟩
instance oneC_137 : OneC prog 137 := ⟨fun w => by kernel_rfl, by kernel_rfl⟩
instance zeroC_137 : ZeroC prog 137 (.int .u8 0) := ⟨by kernel_rfl⟩
instance ul_137 : Ul prog 137 (.int .u8) := ⟨by kernel_rfl⟩
instance oneC_139 : OneC prog 139 := ⟨fun w => by kernel_rfl, by kernel_rfl⟩
instance zeroC_139 : ZeroC prog 139 (.pointer none) := ⟨by kernel_rfl⟩
instance ul_139 : Ul prog 139 (.pointer 5) := ⟨by kernel_rfl⟩
instance oneC_140 : OneC prog 140 := ⟨fun w => by kernel_rfl, by kernel_rfl⟩
instance zeroC_140 : ZeroC prog 140 (.int .i32 0) := ⟨by kernel_rfl⟩
instance ul_140 : Ul prog 140 (.int .i32) := ⟨by kernel_rfl⟩
instance oneC_141 : OneC prog 141 := ⟨fun w => by kernel_rfl, by kernel_rfl⟩
instance zeroC_141 : ZeroC prog 141 (.int .i32 0) := ⟨by kernel_rfl⟩
instance ul_141 : Ul prog 141 (.int .i32) := ⟨by kernel_rfl⟩
instance aggC_142 : AggC prog 142 11 := ⟨fun w => by kernel_rfl, by kernel_rfl⟩
instance zeroC_142 : ZeroC prog 142 (.agg #[(.int .u64 0), (.int .u64 0), (.int .u32 0), (.int .u8 0), (.int .u8 0), (.int .u8 0), (.int .u8 0), .nilFunc, (.pointer none), (.int .i32 0), (.int .i32 0)]) := ⟨by kernel_rfl⟩
instance fld_142_0 : FldOff prog 142 0 0 := ⟨fun b o w => by kernel_rfl⟩
instance fld_142_1 : FldOff prog 142 1 1 := ⟨fun b o w => by kernel_rfl⟩
instance fld_142_2 : FldOff prog 142 2 2 := ⟨fun b o w => by kernel_rfl⟩
instance fld_142_3 : FldOff prog 142 3 3 := ⟨fun b o w => by kernel_rfl⟩
instance fld_142_4 : FldOff prog 142 4 4 := ⟨fun b o w => by kernel_rfl⟩
instance fld_142_5 : FldOff prog 142 5 5 := ⟨fun b o w => by kernel_rfl⟩
instance fld_142_6 : FldOff prog 142 6 6 := ⟨fun b o w => by kernel_rfl⟩
instance fld_142_7 : FldOff prog 142 7 7 := ⟨fun b o w => by kernel_rfl⟩
instance fld_142_8 : FldOff prog 142 8 8 := ⟨fun b o w => by kernel_rfl⟩
instance fld_142_9 : FldOff prog 142 9 9 := ⟨fun b o w => by kernel_rfl⟩
instance fld_142_10 : FldOff prog 142 10 10 := ⟨fun b o w => by kernel_rfl⟩
instance aggC_143 : AggC prog 143 11 := ⟨fun w => by kernel_rfl, by kernel_rfl⟩
instance zeroC_143 : ZeroC prog 143 (.agg #[(.int .u64 0), (.int .u64 0), (.int .u32 0), (.int .u8 0), (.int .u8 0), (.int .u8 0), (.int .u8 0), .nilFunc, (.pointer none), (.int .i32 0), (.int .i32 0)]) := ⟨by kernel_rfl⟩
instance fld_143_0 : FldOff prog 143 0 0 := ⟨fun b o w => by kernel_rfl⟩
instance fld_143_1 : FldOff prog 143 1 1 := ⟨fun b o w => by kernel_rfl⟩
instance fld_143_2 : FldOff prog 143 2 2 := ⟨fun b o w => by kernel_rfl⟩
instance fld_143_3 : FldOff prog 143 3 3 := ⟨fun b o w => by kernel_rfl⟩
instance fld_143_4 : FldOff prog 143 4 4 := ⟨fun b o w => by kernel_rfl⟩
instance fld_143_5 : FldOff prog 143 5 5 := ⟨fun b o w => by kernel_rfl⟩
instance fld_143_6 : FldOff prog 143 6 6 := ⟨fun b o w => by kernel_rfl⟩
instance fld_143_7 : FldOff prog 143 7 7 := ⟨fun b o w => by kernel_rfl⟩
instance fld_143_8 : FldOff prog 143 8 8 := ⟨fun b o w => by kernel_rfl⟩
instance fld_143_9 : FldOff prog 143 9 9 := ⟨fun b o w => by kernel_rfl⟩
instance fld_143_10 : FldOff prog 143 10 10 := ⟨fun b o w => by kernel_rfl⟩
instance oneC_144 : OneC prog 144 := ⟨fun w => by kernel_rfl, by kernel_rfl⟩
instance zeroC_144 : ZeroC prog 144 (.pointer none) := ⟨by kernel_rfl⟩

end Go.Proofs.YticbbnjhiiimcaaDoor
