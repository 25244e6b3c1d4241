import Derived.Test.YtjmgkfpjaelilaaProg
import Derived.Test.YtjmgkfpjaelilaaVc
import Derived.KernelRfl
set_option linter.all false
set_option maxRecDepth 100000
namespace Go.Proofs.Ytjmgkfpjaelilaa
open Go Hold
noncomputable abbrev prog : Program := Try.prog
instance oneC_2 : OneC prog 2 := ⟨fun w => by kernel_rfl, by kernel_rfl⟩
instance zeroC_2 : ZeroC prog 2 (.int .i64 0) := ⟨by kernel_rfl⟩
instance ul_2 : Ul prog 2 (.int .i64) := ⟨by kernel_rfl⟩
instance oneC_3 : OneC prog 3 := ⟨fun w => by kernel_rfl, by kernel_rfl⟩
instance zeroC_3 : ZeroC prog 3 (.int .i64 0) := ⟨by kernel_rfl⟩
instance ul_3 : Ul prog 3 (.int .i64) := ⟨by kernel_rfl⟩
instance oneC_4 : OneC prog 4 := ⟨fun w => by kernel_rfl, by kernel_rfl⟩
instance zeroC_4 : ZeroC prog 4 (.bool false) := ⟨by kernel_rfl⟩
instance ul_4 : Ul prog 4 .bool := ⟨by kernel_rfl⟩
instance oneC_5 : OneC prog 5 := ⟨fun w => by kernel_rfl, by kernel_rfl⟩
instance zeroC_5 : ZeroC prog 5 (.int .u8 0) := ⟨by kernel_rfl⟩
instance ul_5 : Ul prog 5 (.int .u8) := ⟨by kernel_rfl⟩
instance oneC_6 : OneC prog 6 := ⟨fun w => by kernel_rfl, by kernel_rfl⟩
instance zeroC_6 : ZeroC prog 6 (.int .u8 0) := ⟨by kernel_rfl⟩
instance ul_6 : Ul prog 6 (.int .u8) := ⟨by kernel_rfl⟩
instance aggC_7 : AggC prog 7 4 := ⟨fun w => by kernel_rfl, by kernel_rfl⟩
instance zeroC_7 : ZeroC prog 7 (.agg #[(.int .i64 0), (.int .i64 0), (.bool false), (.int .u8 0)]) := ⟨by kernel_rfl⟩
instance fld_7_0 : FldOff prog 7 0 0 := ⟨fun b o w => by kernel_rfl⟩
instance fld_7_1 : FldOff prog 7 1 1 := ⟨fun b o w => by kernel_rfl⟩
instance fld_7_2 : FldOff prog 7 2 2 := ⟨fun b o w => by kernel_rfl⟩
instance fld_7_3 : FldOff prog 7 3 3 := ⟨fun b o w => by kernel_rfl⟩
instance aggC_8 : AggC prog 8 4 := ⟨fun w => by kernel_rfl, by kernel_rfl⟩
instance zeroC_8 : ZeroC prog 8 (.agg #[(.int .i64 0), (.int .i64 0), (.bool false), (.int .u8 0)]) := ⟨by kernel_rfl⟩
instance fld_8_0 : FldOff prog 8 0 0 := ⟨fun b o w => by kernel_rfl⟩
instance fld_8_1 : FldOff prog 8 1 1 := ⟨fun b o w => by kernel_rfl⟩
instance fld_8_2 : FldOff prog 8 2 2 := ⟨fun b o w => by kernel_rfl⟩
instance fld_8_3 : FldOff prog 8 3 3 := ⟨fun b o w => by kernel_rfl⟩
instance oneC_9 : OneC prog 9 := ⟨fun w => by kernel_rfl, by kernel_rfl⟩
instance zeroC_9 : ZeroC prog 9 (.string ⟨#[]⟩) := ⟨by kernel_rfl⟩
instance ul_9 : Ul prog 9 .string := ⟨by kernel_rfl⟩
instance oneC_10 : OneC prog 10 := ⟨fun w => by kernel_rfl, by kernel_rfl⟩
instance zeroC_10 : ZeroC prog 10 (.string ⟨#[]⟩) := ⟨by kernel_rfl⟩
instance ul_10 : Ul prog 10 .string := ⟨by kernel_rfl⟩
instance oneC_11 : OneC prog 11 := ⟨fun w => by kernel_rfl, by kernel_rfl⟩
instance zeroC_11 : ZeroC prog 11 (.string ⟨#[]⟩) := ⟨by kernel_rfl⟩
instance ul_11 : Ul prog 11 .string := ⟨by kernel_rfl⟩
instance oneC_12 : OneC prog 12 := ⟨fun w => by kernel_rfl, by kernel_rfl⟩
instance zeroC_12 : ZeroC prog 12 (.int .u64 0) := ⟨by kernel_rfl⟩
instance ul_12 : Ul prog 12 (.int .u64) := ⟨by kernel_rfl⟩
instance aggC_13 : AggC prog 13 2 := ⟨fun w => by kernel_rfl, by kernel_rfl⟩
instance zeroC_13 : ZeroC prog 13 (.agg #[(.string ⟨#[]⟩), (.int .u64 0)]) := ⟨by kernel_rfl⟩
instance fld_13_0 : FldOff prog 13 0 0 := ⟨fun b o w => by kernel_rfl⟩
instance fld_13_1 : FldOff prog 13 1 1 := ⟨fun b o w => by kernel_rfl⟩
instance aggC_14 : AggC prog 14 2 := ⟨fun w => by kernel_rfl, by kernel_rfl⟩
instance zeroC_14 : ZeroC prog 14 (.agg #[(.string ⟨#[]⟩), (.int .u64 0)]) := ⟨by kernel_rfl⟩
instance fld_14_0 : FldOff prog 14 0 0 := ⟨fun b o w => by kernel_rfl⟩
instance fld_14_1 : FldOff prog 14 1 1 := ⟨fun b o w => by kernel_rfl⟩
instance oneC_15 : OneC prog 15 := ⟨fun w => by kernel_rfl, by kernel_rfl⟩
instance zeroC_15 : ZeroC prog 15 (.pointer none) := ⟨by kernel_rfl⟩
instance ul_15 : Ul prog 15 (.pointer 67) := ⟨by kernel_rfl⟩
instance oneC_16 : OneC prog 16 := ⟨fun w => by kernel_rfl, by kernel_rfl⟩
instance zeroC_16 : ZeroC prog 16 (.pointer none) := ⟨by kernel_rfl⟩
instance ul_16 : Ul prog 16 (.pointer 70) := ⟨by kernel_rfl⟩
instance oneC_17 : OneC prog 17 := ⟨fun w => by kernel_rfl, by kernel_rfl⟩
instance zeroC_17 : ZeroC prog 17 (.pointer none) := ⟨by kernel_rfl⟩
instance ul_17 : Ul prog 17 (.pointer 78) := ⟨by kernel_rfl⟩
instance aggC_18 : AggC prog 18 1 := ⟨fun w => by kernel_rfl, by kernel_rfl⟩
instance zeroC_18 : ZeroC prog 18 (.agg #[(.pointer none)]) := ⟨by kernel_rfl⟩
instance fld_18_0 : FldOff prog 18 0 0 := ⟨fun b o w => by kernel_rfl⟩
instance aggC_19 : AggC prog 19 1 := ⟨fun w => by kernel_rfl, by kernel_rfl⟩
instance zeroC_19 : ZeroC prog 19 (.agg #[(.pointer none)]) := ⟨by kernel_rfl⟩
instance fld_19_0 : FldOff prog 19 0 0 := ⟨fun b o w => by kernel_rfl⟩
instance oneC_20 : OneC prog 20 := ⟨fun w => by kernel_rfl, by kernel_rfl⟩
instance zeroC_20 : ZeroC prog 20 .nilIface := ⟨by kernel_rfl⟩
instance oneC_21 : OneC prog 21 := ⟨fun w => by kernel_rfl, by kernel_rfl⟩
instance zeroC_21 : ZeroC prog 21 (.int .i32 0) := ⟨by kernel_rfl⟩
instance ul_21 : Ul prog 21 (.int .i32) := ⟨by kernel_rfl⟩
instance aggC_22 : AggC prog 22 32 := ⟨fun w => by kernel_rfl, by kernel_rfl⟩
instance zeroC_22 : ZeroC prog 22 (.agg #[(.int .u8 0), (.int .u8 0), (.int .u8 0), (.int .u8 0), (.int .u8 0), (.int .u8 0), (.int .u8 0), (.int .u8 0), (.int .u8 0), (.int .u8 0), (.int .u8 0), (.int .u8 0), (.int .u8 0), (.int .u8 0), (.int .u8 0), (.int .u8 0), (.int .u8 0), (.int .u8 0), (.int .u8 0), (.int .u8 0), (.int .u8 0), (.int .u8 0), (.int .u8 0), (.int .u8 0), (.int .u8 0), (.int .u8 0), (.int .u8 0), (.int .u8 0), (.int .u8 0), (.int .u8 0), (.int .u8 0), (.int .u8 0)]) := ⟨by kernel_rfl⟩
instance ul_22 : Ul prog 22 (.array 32 5) := ⟨by kernel_rfl⟩
instance aggC_23 : AggC prog 23 32 := ⟨fun w => by kernel_rfl, by kernel_rfl⟩
instance zeroC_23 : ZeroC prog 23 (.agg #[(.int .u8 0), (.int .u8 0), (.int .u8 0), (.int .u8 0), (.int .u8 0), (.int .u8 0), (.int .u8 0), (.int .u8 0), (.int .u8 0), (.int .u8 0), (.int .u8 0), (.int .u8 0), (.int .u8 0), (.int .u8 0), (.int .u8 0), (.int .u8 0), (.int .u8 0), (.int .u8 0), (.int .u8 0), (.int .u8 0), (.int .u8 0), (.int .u8 0), (.int .u8 0), (.int .u8 0), (.int .u8 0), (.int .u8 0), (.int .u8 0), (.int .u8 0), (.int .u8 0), (.int .u8 0), (.int .u8 0), (.int .u8 0)]) := ⟨by kernel_rfl⟩
instance ul_23 : Ul prog 23 (.array 32 5) := ⟨by kernel_rfl⟩
instance oneC_24 : OneC prog 24 := ⟨fun w => by kernel_rfl, by kernel_rfl⟩
instance zeroC_24 : ZeroC prog 24 (.slice none 0 0) := ⟨by kernel_rfl⟩
instance sliceT_24 : SliceT prog 24 5 1 1 (.int .u8 0) := ⟨by kernel_rfl, by kernel_rfl, rfl, by decide⟩
instance ul_24 : Ul prog 24 (.slice 5) := ⟨by kernel_rfl⟩
instance oneC_33 : OneC prog 33 := ⟨fun w => by kernel_rfl, by kernel_rfl⟩
instance zeroC_33 : ZeroC prog 33 (.int .i64 0) := ⟨by kernel_rfl⟩
instance ul_33 : Ul prog 33 (.int .i64) := ⟨by kernel_rfl⟩
instance oneC_41 : OneC prog 41 := ⟨fun w => by kernel_rfl, by kernel_rfl⟩
instance zeroC_41 : ZeroC prog 41 (.int .u32 0) := ⟨by kernel_rfl⟩
instance ul_41 : Ul prog 41 (.int .u32) := ⟨by kernel_rfl⟩
instance aggC_42 : AggC prog 42 8 := ⟨fun w => by kernel_rfl, by kernel_rfl⟩
instance zeroC_42 : ZeroC prog 42 (.agg #[(.int .u32 0), (.int .u32 0), (.int .u32 0), (.int .u32 0), (.int .u32 0), (.int .u32 0), (.int .u32 0), (.int .u32 0)]) := ⟨by kernel_rfl⟩
instance ul_42 : Ul prog 42 (.array 8 41) := ⟨by kernel_rfl⟩
instance aggC_43 : AggC prog 43 8 := ⟨fun w => by kernel_rfl, by kernel_rfl⟩
instance zeroC_43 : ZeroC prog 43 (.agg #[(.int .u32 0), (.int .u32 0), (.int .u32 0), (.int .u32 0), (.int .u32 0), (.int .u32 0), (.int .u32 0), (.int .u32 0)]) := ⟨by kernel_rfl⟩
instance ul_43 : Ul prog 43 (.array 8 41) := ⟨by kernel_rfl⟩
instance oneC_44 : OneC prog 44 := ⟨fun w => by kernel_rfl, by kernel_rfl⟩
instance zeroC_44 : ZeroC prog 44 (.pointer none) := ⟨by kernel_rfl⟩
instance ul_44 : Ul prog 44 (.pointer 62) := ⟨by kernel_rfl⟩
instance oneC_46 : OneC prog 46 := ⟨fun w => by kernel_rfl, by kernel_rfl⟩
instance zeroC_46 : ZeroC prog 46 (.int .u64 0) := ⟨by kernel_rfl⟩
instance ul_46 : Ul prog 46 (.int .u64) := ⟨by kernel_rfl⟩
instance oneC_47 : OneC prog 47 := ⟨fun w => by kernel_rfl, by kernel_rfl⟩
instance zeroC_47 : ZeroC prog 47 (.int .u64 0) := ⟨by kernel_rfl⟩
instance ul_47 : Ul prog 47 (.int .u64) := ⟨by kernel_rfl⟩
instance oneC_49 : OneC prog 49 := ⟨fun w => by kernel_rfl, by kernel_rfl⟩
instance zeroC_49 : ZeroC prog 49 (.slice none 0 0) := ⟨by kernel_rfl⟩
instance sliceT_49 : SliceT prog 49 41 1 4 (.int .u32 0) := ⟨by kernel_rfl, by kernel_rfl, rfl, by decide⟩
instance ul_49 : Ul prog 49 (.slice 41) := ⟨by kernel_rfl⟩
instance aggC_52 : AggC prog 52 64 := ⟨fun w => by kernel_rfl, by kernel_rfl⟩
instance zeroC_52 : ZeroC prog 52 (.agg #[(.int .u8 0), (.int .u8 0), (.int .u8 0), (.int .u8 0), (.int .u8 0), (.int .u8 0), (.int .u8 0), (.int .u8 0), (.int .u8 0), (.int .u8 0), (.int .u8 0), (.int .u8 0), (.int .u8 0), (.int .u8 0), (.int .u8 0), (.int .u8 0), (.int .u8 0), (.int .u8 0), (.int .u8 0), (.int .u8 0), (.int .u8 0), (.int .u8 0), (.int .u8 0), (.int .u8 0), (.int .u8 0), (.int .u8 0), (.int .u8 0), (.int .u8 0), (.int .u8 0), (.int .u8 0), (.int .u8 0), (.int .u8 0), (.int .u8 0), (.int .u8 0), (.int .u8 0), (.int .u8 0), (.int .u8 0), (.int .u8 0), (.int .u8 0), (.int .u8 0), (.int .u8 0), (.int .u8 0), (.int .u8 0), (.int .u8 0), (.int .u8 0), (.int .u8 0), (.int .u8 0), (.int .u8 0), (.int .u8 0), (.int .u8 0), (.int .u8 0), (.int .u8 0), (.int .u8 0), (.int .u8 0), (.int .u8 0), (.int .u8 0), (.int .u8 0), (.int .u8 0), (.int .u8 0), (.int .u8 0), (.int .u8 0), (.int .u8 0), (.int .u8 0), (.int .u8 0)]) := ⟨by kernel_rfl⟩
instance ul_52 : Ul prog 52 (.array 64 5) := ⟨by kernel_rfl⟩
instance oneC_55 : OneC prog 55 := ⟨fun w => by kernel_rfl, by kernel_rfl⟩
instance zeroC_55 : ZeroC prog 55 (.pointer none) := ⟨by kernel_rfl⟩
instance ul_55 : Ul prog 55 (.pointer 57) := ⟨by kernel_rfl⟩
instance aggC_56 : AggC prog 56 2 := ⟨fun w => by kernel_rfl, by kernel_rfl⟩
instance zeroC_56 : ZeroC prog 56 (.agg #[(.pointer none), (.slice none 0 0)]) := ⟨by kernel_rfl⟩
instance fld_56_0 : FldOff prog 56 0 0 := ⟨fun b o w => by kernel_rfl⟩
instance fld_56_1 : FldOff prog 56 1 1 := ⟨fun b o w => by kernel_rfl⟩
instance aggC_57 : AggC prog 57 2 := ⟨fun w => by kernel_rfl, by kernel_rfl⟩
instance zeroC_57 : ZeroC prog 57 (.agg #[(.pointer none), (.slice none 0 0)]) := ⟨by kernel_rfl⟩
instance fld_57_0 : FldOff prog 57 0 0 := ⟨fun b o w => by kernel_rfl⟩
instance fld_57_1 : FldOff prog 57 1 1 := ⟨fun b o w => by kernel_rfl⟩
instance oneC_58 : OneC prog 58 := ⟨fun w => by kernel_rfl, by kernel_rfl⟩
instance zeroC_58 : ZeroC prog 58 .nilIface := ⟨by kernel_rfl⟩
instance oneC_59 : OneC prog 59 := ⟨fun w => by kernel_rfl, by kernel_rfl⟩
instance zeroC_59 : ZeroC prog 59 .nilIface := ⟨by kernel_rfl⟩
instance aggC_62 : AggC prog 62 64 := ⟨fun w => by kernel_rfl, by kernel_rfl⟩
instance zeroC_62 : ZeroC prog 62 (.agg #[(.int .u32 0), (.int .u32 0), (.int .u32 0), (.int .u32 0), (.int .u32 0), (.int .u32 0), (.int .u32 0), (.int .u32 0), (.int .u32 0), (.int .u32 0), (.int .u32 0), (.int .u32 0), (.int .u32 0), (.int .u32 0), (.int .u32 0), (.int .u32 0), (.int .u32 0), (.int .u32 0), (.int .u32 0), (.int .u32 0), (.int .u32 0), (.int .u32 0), (.int .u32 0), (.int .u32 0), (.int .u32 0), (.int .u32 0), (.int .u32 0), (.int .u32 0), (.int .u32 0), (.int .u32 0), (.int .u32 0), (.int .u32 0), (.int .u32 0), (.int .u32 0), (.int .u32 0), (.int .u32 0), (.int .u32 0), (.int .u32 0), (.int .u32 0), (.int .u32 0), (.int .u32 0), (.int .u32 0), (.int .u32 0), (.int .u32 0), (.int .u32 0), (.int .u32 0), (.int .u32 0), (.int .u32 0), (.int .u32 0), (.int .u32 0), (.int .u32 0), (.int .u32 0), (.int .u32 0), (.int .u32 0), (.int .u32 0), (.int .u32 0), (.int .u32 0), (.int .u32 0), (.int .u32 0), (.int .u32 0), (.int .u32 0), (.int .u32 0), (.int .u32 0), (.int .u32 0)]) := ⟨by kernel_rfl⟩
instance ul_62 : Ul prog 62 (.array 64 41) := ⟨by kernel_rfl⟩
instance oneC_63 : OneC prog 63 := ⟨fun w => by kernel_rfl, by kernel_rfl⟩
instance zeroC_63 : ZeroC prog 63 (.pointer none) := ⟨by kernel_rfl⟩
instance ul_63 : Ul prog 63 (.pointer 5) := ⟨by kernel_rfl⟩
instance oneC_64 : OneC prog 64 := ⟨fun w => by kernel_rfl, by kernel_rfl⟩
instance zeroC_64 : ZeroC prog 64 (.pointer none) := ⟨by kernel_rfl⟩
instance aggC_66 : AggC prog 66 4 := ⟨fun w => by kernel_rfl, by kernel_rfl⟩
instance zeroC_66 : ZeroC prog 66 (.agg #[(.pointer none), (.pointer none), (.pointer none), (.string ⟨#[]⟩)]) := ⟨by kernel_rfl⟩
instance fld_66_0 : FldOff prog 66 0 0 := ⟨fun b o w => by kernel_rfl⟩
instance fld_66_1 : FldOff prog 66 1 1 := ⟨fun b o w => by kernel_rfl⟩
instance fld_66_2 : FldOff prog 66 2 2 := ⟨fun b o w => by kernel_rfl⟩
instance fld_66_3 : FldOff prog 66 3 3 := ⟨fun b o w => by kernel_rfl⟩
instance aggC_67 : AggC prog 67 4 := ⟨fun w => by kernel_rfl, by kernel_rfl⟩
instance zeroC_67 : ZeroC prog 67 (.agg #[(.pointer none), (.pointer none), (.pointer none), (.string ⟨#[]⟩)]) := ⟨by kernel_rfl⟩
instance fld_67_0 : FldOff prog 67 0 0 := ⟨fun b o w => by kernel_rfl⟩
instance fld_67_1 : FldOff prog 67 1 1 := ⟨fun b o w => by kernel_rfl⟩
instance fld_67_2 : FldOff prog 67 2 2 := ⟨fun b o w => by kernel_rfl⟩
instance fld_67_3 : FldOff prog 67 3 3 := ⟨fun b o w => by kernel_rfl⟩
instance aggC_68 : AggC prog 68 0 := ⟨fun w => by kernel_rfl, by kernel_rfl⟩
instance zeroC_68 : ZeroC prog 68 (.agg #[]) := ⟨by kernel_rfl⟩
instance ul_68 : Ul prog 68 (.array 0 16) := ⟨by kernel_rfl⟩
instance aggC_69 : AggC prog 69 0 := ⟨fun w => by kernel_rfl, by kernel_rfl⟩
instance zeroC_69 : ZeroC prog 69 (.agg #[]) := ⟨by kernel_rfl⟩
instance aggC_70 : AggC prog 70 0 := ⟨fun w => by kernel_rfl, by kernel_rfl⟩
instance zeroC_70 : ZeroC prog 70 (.agg #[]) := ⟨by kernel_rfl⟩
instance oneC_72 : OneC prog 72 := ⟨fun w => by kernel_rfl, by kernel_rfl⟩
instance zeroC_72 : ZeroC prog 72 (.int .u8 0) := ⟨by kernel_rfl⟩
instance ul_72 : Ul prog 72 (.int .u8) := ⟨by kernel_rfl⟩
instance oneC_73 : OneC prog 73 := ⟨fun w => by kernel_rfl, by kernel_rfl⟩
instance zeroC_73 : ZeroC prog 73 (.int .u8 0) := ⟨by kernel_rfl⟩
instance ul_73 : Ul prog 73 (.int .u8) := ⟨by kernel_rfl⟩
instance oneC_75 : OneC prog 75 := ⟨fun w => by kernel_rfl, by kernel_rfl⟩
instance zeroC_75 : ZeroC prog 75 (.int .i32 0) := ⟨by kernel_rfl⟩
instance ul_75 : Ul prog 75 (.int .i32) := ⟨by kernel_rfl⟩
instance oneC_76 : OneC prog 76 := ⟨fun w => by kernel_rfl, by kernel_rfl⟩
instance zeroC_76 : ZeroC prog 76 (.int .i32 0) := ⟨by kernel_rfl⟩
instance ul_76 : Ul prog 76 (.int .i32) := ⟨by kernel_rfl⟩
instance aggC_77 : AggC prog 77 11 := ⟨fun w => by kernel_rfl, by kernel_rfl⟩
instance zeroC_77 : ZeroC prog 77 (.agg #[(.int .u64 0), (.int .u64 0), (.int .u32 0), (.int .u8 0), (.int .u8 0), (.int .u8 0), (.int .u8 0), .nilFunc, (.pointer none), (.int .i32 0), (.int .i32 0)]) := ⟨by kernel_rfl⟩
instance fld_77_0 : FldOff prog 77 0 0 := ⟨fun b o w => by kernel_rfl⟩
instance fld_77_1 : FldOff prog 77 1 1 := ⟨fun b o w => by kernel_rfl⟩
instance fld_77_2 : FldOff prog 77 2 2 := ⟨fun b o w => by kernel_rfl⟩
instance fld_77_3 : FldOff prog 77 3 3 := ⟨fun b o w => by kernel_rfl⟩
instance fld_77_4 : FldOff prog 77 4 4 := ⟨fun b o w => by kernel_rfl⟩
instance fld_77_5 : FldOff prog 77 5 5 := ⟨fun b o w => by kernel_rfl⟩
instance fld_77_6 : FldOff prog 77 6 6 := ⟨fun b o w => by kernel_rfl⟩
instance fld_77_7 : FldOff prog 77 7 7 := ⟨fun b o w => by kernel_rfl⟩
instance fld_77_8 : FldOff prog 77 8 8 := ⟨fun b o w => by kernel_rfl⟩
instance fld_77_9 : FldOff prog 77 9 9 := ⟨fun b o w => by kernel_rfl⟩
instance fld_77_10 : FldOff prog 77 10 10 := ⟨fun b o w => by kernel_rfl⟩
instance aggC_78 : AggC prog 78 11 := ⟨fun w => by kernel_rfl, by kernel_rfl⟩
instance zeroC_78 : ZeroC prog 78 (.agg #[(.int .u64 0), (.int .u64 0), (.int .u32 0), (.int .u8 0), (.int .u8 0), (.int .u8 0), (.int .u8 0), .nilFunc, (.pointer none), (.int .i32 0), (.int .i32 0)]) := ⟨by kernel_rfl⟩
instance fld_78_0 : FldOff prog 78 0 0 := ⟨fun b o w => by kernel_rfl⟩
instance fld_78_1 : FldOff prog 78 1 1 := ⟨fun b o w => by kernel_rfl⟩
instance fld_78_2 : FldOff prog 78 2 2 := ⟨fun b o w => by kernel_rfl⟩
instance fld_78_3 : FldOff prog 78 3 3 := ⟨fun b o w => by kernel_rfl⟩
instance fld_78_4 : FldOff prog 78 4 4 := ⟨fun b o w => by kernel_rfl⟩
instance fld_78_5 : FldOff prog 78 5 5 := ⟨fun b o w => by kernel_rfl⟩
instance fld_78_6 : FldOff prog 78 6 6 := ⟨fun b o w => by kernel_rfl⟩
instance fld_78_7 : FldOff prog 78 7 7 := ⟨fun b o w => by kernel_rfl⟩
instance fld_78_8 : FldOff prog 78 8 8 := ⟨fun b o w => by kernel_rfl⟩
instance fld_78_9 : FldOff prog 78 9 9 := ⟨fun b o w => by kernel_rfl⟩
instance fld_78_10 : FldOff prog 78 10 10 := ⟨fun b o w => by kernel_rfl⟩

end Go.Proofs.Ytjmgkfpjaelilaa
