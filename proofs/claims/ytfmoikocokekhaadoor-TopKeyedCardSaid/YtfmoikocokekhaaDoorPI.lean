import Derived.Test.YtfmoikocokekhaaDoorProg
import Derived.Test.YtfmoikocokekhaaDoorVc
import Derived.KernelRfl
set_option linter.all false
set_option maxRecDepth 100000
namespace Go.Proofs.YtfmoikocokekhaaDoor
open Go Hold
noncomputable abbrev prog : Program := Tryd.prog
instance oneC_2 : OneC prog 2 := ⟨fun w => by kernel_rfl, by kernel_rfl⟩
instance zeroC_2 : ZeroC prog 2 (.int .i64 0) := ⟨by kernel_rfl⟩
instance ul_2 : Ul prog 2 (.int .i64) := ⟨by kernel_rfl⟩
instance oneC_3 : OneC prog 3 := ⟨fun w => by kernel_rfl, by kernel_rfl⟩
instance zeroC_3 : ZeroC prog 3 (.int .i64 0) := ⟨by kernel_rfl⟩
instance ul_3 : Ul prog 3 (.int .i64) := ⟨by kernel_rfl⟩
instance oneC_4 : OneC prog 4 := ⟨fun w => by kernel_rfl, by kernel_rfl⟩
instance zeroC_4 : ZeroC prog 4 (.bool false) := ⟨by kernel_rfl⟩
instance ul_4 : Ul prog 4 .bool := ⟨by kernel_rfl⟩
instance oneC_5 : OneC prog 5 := ⟨fun w => by kernel_rfl, by kernel_rfl⟩
instance zeroC_5 : ZeroC prog 5 (.int .u8 0) := ⟨by kernel_rfl⟩
instance ul_5 : Ul prog 5 (.int .u8) := ⟨by kernel_rfl⟩
instance oneC_6 : OneC prog 6 := ⟨fun w => by kernel_rfl, by kernel_rfl⟩
instance zeroC_6 : ZeroC prog 6 (.int .u8 0) := ⟨by kernel_rfl⟩
instance ul_6 : Ul prog 6 (.int .u8) := ⟨by kernel_rfl⟩
instance aggC_7 : AggC prog 7 4 := ⟨fun w => by kernel_rfl, by kernel_rfl⟩
instance zeroC_7 : ZeroC prog 7 (.agg #[(.int .i64 0), (.int .i64 0), (.bool false), (.int .u8 0)]) := ⟨by kernel_rfl⟩
instance fld_7_0 : FldOff prog 7 0 0 := ⟨fun b o w => by kernel_rfl⟩
instance fld_7_1 : FldOff prog 7 1 1 := ⟨fun b o w => by kernel_rfl⟩
instance fld_7_2 : FldOff prog 7 2 2 := ⟨fun b o w => by kernel_rfl⟩
instance fld_7_3 : FldOff prog 7 3 3 := ⟨fun b o w => by kernel_rfl⟩
instance aggC_8 : AggC prog 8 4 := ⟨fun w => by kernel_rfl, by kernel_rfl⟩
instance zeroC_8 : ZeroC prog 8 (.agg #[(.int .i64 0), (.int .i64 0), (.bool false), (.int .u8 0)]) := ⟨by kernel_rfl⟩
instance fld_8_0 : FldOff prog 8 0 0 := ⟨fun b o w => by kernel_rfl⟩
instance fld_8_1 : FldOff prog 8 1 1 := ⟨fun b o w => by kernel_rfl⟩
instance fld_8_2 : FldOff prog 8 2 2 := ⟨fun b o w => by kernel_rfl⟩
instance fld_8_3 : FldOff prog 8 3 3 := ⟨fun b o w => by kernel_rfl⟩
instance oneC_9 : OneC prog 9 := ⟨fun w => by kernel_rfl, by kernel_rfl⟩
instance zeroC_9 : ZeroC prog 9 (.string ⟨#[]⟩) := ⟨by kernel_rfl⟩
instance ul_9 : Ul prog 9 .string := ⟨by kernel_rfl⟩
instance oneC_10 : OneC prog 10 := ⟨fun w => by kernel_rfl, by kernel_rfl⟩
instance zeroC_10 : ZeroC prog 10 (.string ⟨#[]⟩) := ⟨by kernel_rfl⟩
instance ul_10 : Ul prog 10 .string := ⟨by kernel_rfl⟩
instance oneC_11 : OneC prog 11 := ⟨fun w => by kernel_rfl, by kernel_rfl⟩
instance zeroC_11 : ZeroC prog 11 (.string ⟨#[]⟩) := ⟨by kernel_rfl⟩
instance ul_11 : Ul prog 11 .string := ⟨by kernel_rfl⟩
instance oneC_12 : OneC prog 12 := ⟨fun w => by kernel_rfl, by kernel_rfl⟩
instance zeroC_12 : ZeroC prog 12 (.int .u64 0) := ⟨by kernel_rfl⟩
instance ul_12 : Ul prog 12 (.int .u64) := ⟨by kernel_rfl⟩
instance aggC_13 : AggC prog 13 2 := ⟨fun w => by kernel_rfl, by kernel_rfl⟩
instance zeroC_13 : ZeroC prog 13 (.agg #[(.string ⟨#[]⟩), (.int .u64 0)]) := ⟨by kernel_rfl⟩
instance fld_13_0 : FldOff prog 13 0 0 := ⟨fun b o w => by kernel_rfl⟩
instance fld_13_1 : FldOff prog 13 1 1 := ⟨fun b o w => by kernel_rfl⟩
instance aggC_14 : AggC prog 14 2 := ⟨fun w => by kernel_rfl, by kernel_rfl⟩
instance zeroC_14 : ZeroC prog 14 (.agg #[(.string ⟨#[]⟩), (.int .u64 0)]) := ⟨by kernel_rfl⟩
instance fld_14_0 : FldOff prog 14 0 0 := ⟨fun b o w => by kernel_rfl⟩
instance fld_14_1 : FldOff prog 14 1 1 := ⟨fun b o w => by kernel_rfl⟩
instance oneC_15 : OneC prog 15 := ⟨fun w => by kernel_rfl, by kernel_rfl⟩
instance zeroC_15 : ZeroC prog 15 (.pointer none) := ⟨by kernel_rfl⟩
instance ul_15 : Ul prog 15 (.pointer 96) := ⟨by kernel_rfl⟩
instance oneC_16 : OneC prog 16 := ⟨fun w => by kernel_rfl, by kernel_rfl⟩
instance zeroC_16 : ZeroC prog 16 (.pointer none) := ⟨by kernel_rfl⟩
instance ul_16 : Ul prog 16 (.pointer 99) := ⟨by kernel_rfl⟩
instance oneC_17 : OneC prog 17 := ⟨fun w => by kernel_rfl, by kernel_rfl⟩
instance zeroC_17 : ZeroC prog 17 (.pointer none) := ⟨by kernel_rfl⟩
instance ul_17 : Ul prog 17 (.pointer 107) := ⟨by kernel_rfl⟩
instance aggC_18 : AggC prog 18 1 := ⟨fun w => by kernel_rfl, by kernel_rfl⟩
instance zeroC_18 : ZeroC prog 18 (.agg #[(.pointer none)]) := ⟨by kernel_rfl⟩
instance fld_18_0 : FldOff prog 18 0 0 := ⟨fun b o w => by kernel_rfl⟩
instance aggC_19 : AggC prog 19 1 := ⟨fun w => by kernel_rfl, by kernel_rfl⟩
instance zeroC_19 : ZeroC prog 19 (.agg #[(.pointer none)]) := ⟨by kernel_rfl⟩
instance fld_19_0 : FldOff prog 19 0 0 := ⟨fun b o w => by kernel_rfl⟩
instance oneC_20 : OneC prog 20 := ⟨fun w => by kernel_rfl, by kernel_rfl⟩
instance zeroC_20 : ZeroC prog 20 .nilIface := ⟨by kernel_rfl⟩
instance oneC_21 : OneC prog 21 := ⟨fun w => by kernel_rfl, by kernel_rfl⟩
instance zeroC_21 : ZeroC prog 21 (.int .i32 0) := ⟨by kernel_rfl⟩
instance ul_21 : Ul prog 21 (.int .i32) := ⟨by kernel_rfl⟩
instance aggC_22 : AggC prog 22 32 := ⟨fun w => by kernel_rfl, by kernel_rfl⟩
instance zeroC_22 : ZeroC prog 22 (.agg #[(.int .u8 0), (.int .u8 0), (.int .u8 0), (.int .u8 0), (.int .u8 0), (.int .u8 0), (.int .u8 0), (.int .u8 0), (.int .u8 0), (.int .u8 0), (.int .u8 0), (.int .u8 0), (.int .u8 0), (.int .u8 0), (.int .u8 0), (.int .u8 0), (.int .u8 0), (.int .u8 0), (.int .u8 0), (.int .u8 0), (.int .u8 0), (.int .u8 0), (.int .u8 0), (.int .u8 0), (.int .u8 0), (.int .u8 0), (.int .u8 0), (.int .u8 0), (.int .u8 0), (.int .u8 0), (.int .u8 0), (.int .u8 0)]) := ⟨by kernel_rfl⟩
instance ul_22 : Ul prog 22 (.array 32 5) := ⟨by kernel_rfl⟩
instance aggC_23 : AggC prog 23 32 := ⟨fun w => by kernel_rfl, by kernel_rfl⟩
instance zeroC_23 : ZeroC prog 23 (.agg #[(.int .u8 0), (.int .u8 0), (.int .u8 0), (.int .u8 0), (.int .u8 0), (.int .u8 0), (.int .u8 0), (.int .u8 0), (.int .u8 0), (.int .u8 0), (.int .u8 0), (.int .u8 0), (.int .u8 0), (.int .u8 0), (.int .u8 0), (.int .u8 0), (.int .u8 0), (.int .u8 0), (.int .u8 0), (.int .u8 0), (.int .u8 0), (.int .u8 0), (.int .u8 0), (.int .u8 0), (.int .u8 0), (.int .u8 0), (.int .u8 0), (.int .u8 0), (.int .u8 0), (.int .u8 0), (.int .u8 0), (.int .u8 0)]) := ⟨by kernel_rfl⟩
instance ul_23 : Ul prog 23 (.array 32 5) := ⟨by kernel_rfl⟩
instance oneC_24 : OneC prog 24 := ⟨fun w => by kernel_rfl, by kernel_rfl⟩
instance zeroC_24 : ZeroC prog 24 (.slice none 0 0) := ⟨by kernel_rfl⟩
instance sliceT_24 : SliceT prog 24 9 1 16 (.string ⟨#[]⟩) := ⟨by kernel_rfl, by kernel_rfl, rfl, by decide⟩
instance ul_24 : Ul prog 24 (.slice 9) := ⟨by kernel_rfl⟩
instance oneC_25 : OneC prog 25 := ⟨fun w => by kernel_rfl, by kernel_rfl⟩
instance zeroC_25 : ZeroC prog 25 (.slice none 0 0) := ⟨by kernel_rfl⟩
instance sliceT_25 : SliceT prog 25 5 1 1 (.int .u8 0) := ⟨by kernel_rfl, by kernel_rfl, rfl, by decide⟩
instance ul_25 : Ul prog 25 (.slice 5) := ⟨by kernel_rfl⟩
instance aggC_26 : AggC prog 26 3 := ⟨fun w => by kernel_rfl, by kernel_rfl⟩
instance zeroC_26 : ZeroC prog 26 (.agg #[(.slice none 0 0), (.slice none 0 0), (.slice none 0 0)]) := ⟨by kernel_rfl⟩
instance fld_26_0 : FldOff prog 26 0 0 := ⟨fun b o w => by kernel_rfl⟩
instance fld_26_1 : FldOff prog 26 1 1 := ⟨fun b o w => by kernel_rfl⟩
instance fld_26_2 : FldOff prog 26 2 2 := ⟨fun b o w => by kernel_rfl⟩
instance aggC_27 : AggC prog 27 3 := ⟨fun w => by kernel_rfl, by kernel_rfl⟩
instance zeroC_27 : ZeroC prog 27 (.agg #[(.slice none 0 0), (.slice none 0 0), (.slice none 0 0)]) := ⟨by kernel_rfl⟩
instance fld_27_0 : FldOff prog 27 0 0 := ⟨fun b o w => by kernel_rfl⟩
instance fld_27_1 : FldOff prog 27 1 1 := ⟨fun b o w => by kernel_rfl⟩
instance fld_27_2 : FldOff prog 27 2 2 := ⟨fun b o w => by kernel_rfl⟩
instance oneC_28 : OneC prog 28 := ⟨fun w => by kernel_rfl, by kernel_rfl⟩
instance zeroC_28 : ZeroC prog 28 (.int .i64 0) := ⟨by kernel_rfl⟩
instance ul_28 : Ul prog 28 (.int .i64) := ⟨by kernel_rfl⟩
instance oneC_35 : OneC prog 35 := ⟨fun w => by kernel_rfl, by kernel_rfl⟩
instance zeroC_35 : ZeroC prog 35 (.int .u64 0) := ⟨by kernel_rfl⟩
instance ul_35 : Ul prog 35 (.int .u64) := ⟨by kernel_rfl⟩
instance oneC_42 : OneC prog 42 := ⟨fun w => by kernel_rfl, by kernel_rfl⟩
instance zeroC_42 : ZeroC prog 42 (.pointer none) := ⟨by kernel_rfl⟩
instance ul_42 : Ul prog 42 (.pointer 44) := ⟨by kernel_rfl⟩
instance aggC_43 : AggC prog 43 2 := ⟨fun w => by kernel_rfl, by kernel_rfl⟩
instance zeroC_43 : ZeroC prog 43 (.agg #[(.pointer none), (.slice none 0 0)]) := ⟨by kernel_rfl⟩
instance fld_43_0 : FldOff prog 43 0 0 := ⟨fun b o w => by kernel_rfl⟩
instance fld_43_1 : FldOff prog 43 1 1 := ⟨fun b o w => by kernel_rfl⟩
instance aggC_44 : AggC prog 44 2 := ⟨fun w => by kernel_rfl, by kernel_rfl⟩
instance zeroC_44 : ZeroC prog 44 (.agg #[(.pointer none), (.slice none 0 0)]) := ⟨by kernel_rfl⟩
instance fld_44_0 : FldOff prog 44 0 0 := ⟨fun b o w => by kernel_rfl⟩
instance fld_44_1 : FldOff prog 44 1 1 := ⟨fun b o w => by kernel_rfl⟩
instance oneC_45 : OneC prog 45 := ⟨fun w => by kernel_rfl, by kernel_rfl⟩
instance zeroC_45 : ZeroC prog 45 .nilIface := ⟨by kernel_rfl⟩
instance oneC_46 : OneC prog 46 := ⟨fun w => by kernel_rfl, by kernel_rfl⟩
instance zeroC_46 : ZeroC prog 46 .nilIface := ⟨by kernel_rfl⟩
instance oneC_48 : OneC prog 48 := ⟨fun w => by kernel_rfl, by kernel_rfl⟩
instance zeroC_48 : ZeroC prog 48 (.int .u64 0) := ⟨by kernel_rfl⟩
instance ul_48 : Ul prog 48 (.int .u64) := ⟨by kernel_rfl⟩
instance oneC_50 : OneC prog 50 := ⟨fun w => by kernel_rfl, by kernel_rfl⟩
instance zeroC_50 : ZeroC prog 50 (.int .u32 0) := ⟨by kernel_rfl⟩
instance ul_50 : Ul prog 50 (.int .u32) := ⟨by kernel_rfl⟩
instance aggC_51 : AggC prog 51 8 := ⟨fun w => by kernel_rfl, by kernel_rfl⟩
instance zeroC_51 : ZeroC prog 51 (.agg #[(.int .u32 0), (.int .u32 0), (.int .u32 0), (.int .u32 0), (.int .u32 0), (.int .u32 0), (.int .u32 0), (.int .u32 0)]) := ⟨by kernel_rfl⟩
instance ul_51 : Ul prog 51 (.array 8 50) := ⟨by kernel_rfl⟩
instance aggC_52 : AggC prog 52 8 := ⟨fun w => by kernel_rfl, by kernel_rfl⟩
instance zeroC_52 : ZeroC prog 52 (.agg #[(.int .u32 0), (.int .u32 0), (.int .u32 0), (.int .u32 0), (.int .u32 0), (.int .u32 0), (.int .u32 0), (.int .u32 0)]) := ⟨by kernel_rfl⟩
instance ul_52 : Ul prog 52 (.array 8 50) := ⟨by kernel_rfl⟩
instance oneC_53 : OneC prog 53 := ⟨fun w => by kernel_rfl, by kernel_rfl⟩
instance zeroC_53 : ZeroC prog 53 (.pointer none) := ⟨by kernel_rfl⟩
instance ul_53 : Ul prog 53 (.pointer 66) := ⟨by kernel_rfl⟩
instance aggC_59 : AggC prog 59 16 := ⟨fun w => by kernel_rfl, by kernel_rfl⟩
instance zeroC_59 : ZeroC prog 59 (.agg #[(.int .u8 0), (.int .u8 0), (.int .u8 0), (.int .u8 0), (.int .u8 0), (.int .u8 0), (.int .u8 0), (.int .u8 0), (.int .u8 0), (.int .u8 0), (.int .u8 0), (.int .u8 0), (.int .u8 0), (.int .u8 0), (.int .u8 0), (.int .u8 0)]) := ⟨by kernel_rfl⟩
instance ul_59 : Ul prog 59 (.array 16 5) := ⟨by kernel_rfl⟩
instance aggC_60 : AggC prog 60 16 := ⟨fun w => by kernel_rfl, by kernel_rfl⟩
instance zeroC_60 : ZeroC prog 60 (.agg #[(.int .u8 0), (.int .u8 0), (.int .u8 0), (.int .u8 0), (.int .u8 0), (.int .u8 0), (.int .u8 0), (.int .u8 0), (.int .u8 0), (.int .u8 0), (.int .u8 0), (.int .u8 0), (.int .u8 0), (.int .u8 0), (.int .u8 0), (.int .u8 0)]) := ⟨by kernel_rfl⟩
instance ul_60 : Ul prog 60 (.array 16 5) := ⟨by kernel_rfl⟩
instance aggC_63 : AggC prog 63 64 := ⟨fun w => by kernel_rfl, by kernel_rfl⟩
instance zeroC_63 : ZeroC prog 63 (.agg #[(.int .u8 0), (.int .u8 0), (.int .u8 0), (.int .u8 0), (.int .u8 0), (.int .u8 0), (.int .u8 0), (.int .u8 0), (.int .u8 0), (.int .u8 0), (.int .u8 0), (.int .u8 0), (.int .u8 0), (.int .u8 0), (.int .u8 0), (.int .u8 0), (.int .u8 0), (.int .u8 0), (.int .u8 0), (.int .u8 0), (.int .u8 0), (.int .u8 0), (.int .u8 0), (.int .u8 0), (.int .u8 0), (.int .u8 0), (.int .u8 0), (.int .u8 0), (.int .u8 0), (.int .u8 0), (.int .u8 0), (.int .u8 0), (.int .u8 0), (.int .u8 0), (.int .u8 0), (.int .u8 0), (.int .u8 0), (.int .u8 0), (.int .u8 0), (.int .u8 0), (.int .u8 0), (.int .u8 0), (.int .u8 0), (.int .u8 0), (.int .u8 0), (.int .u8 0), (.int .u8 0), (.int .u8 0), (.int .u8 0), (.int .u8 0), (.int .u8 0), (.int .u8 0), (.int .u8 0), (.int .u8 0), (.int .u8 0), (.int .u8 0), (.int .u8 0), (.int .u8 0), (.int .u8 0), (.int .u8 0), (.int .u8 0), (.int .u8 0), (.int .u8 0), (.int .u8 0)]) := ⟨by kernel_rfl⟩
instance ul_63 : Ul prog 63 (.array 64 5) := ⟨by kernel_rfl⟩
instance oneC_65 : OneC prog 65 := ⟨fun w => by kernel_rfl, by kernel_rfl⟩
instance zeroC_65 : ZeroC prog 65 (.pointer none) := ⟨by kernel_rfl⟩
instance ul_65 : Ul prog 65 (.pointer 5) := ⟨by kernel_rfl⟩
instance aggC_66 : AggC prog 66 64 := ⟨fun w => by kernel_rfl, by kernel_rfl⟩
instance zeroC_66 : ZeroC prog 66 (.agg #[(.int .u32 0), (.int .u32 0), (.int .u32 0), (.int .u32 0), (.int .u32 0), (.int .u32 0), (.int .u32 0), (.int .u32 0), (.int .u32 0), (.int .u32 0), (.int .u32 0), (.int .u32 0), (.int .u32 0), (.int .u32 0), (.int .u32 0), (.int .u32 0), (.int .u32 0), (.int .u32 0), (.int .u32 0), (.int .u32 0), (.int .u32 0), (.int .u32 0), (.int .u32 0), (.int .u32 0), (.int .u32 0), (.int .u32 0), (.int .u32 0), (.int .u32 0), (.int .u32 0), (.int .u32 0), (.int .u32 0), (.int .u32 0), (.int .u32 0), (.int .u32 0), (.int .u32 0), (.int .u32 0), (.int .u32 0), (.int .u32 0), (.int .u32 0), (.int .u32 0), (.int .u32 0), (.int .u32 0), (.int .u32 0), (.int .u32 0), (.int .u32 0), (.int .u32 0), (.int .u32 0), (.int .u32 0), (.int .u32 0), (.int .u32 0), (.int .u32 0), (.int .u32 0), (.int .u32 0), (.int .u32 0), (.int .u32 0), (.int .u32 0), (.int .u32 0), (.int .u32 0), (.int .u32 0), (.int .u32 0), (.int .u32 0), (.int .u32 0), (.int .u32 0), (.int .u32 0)]) := ⟨by kernel_rfl⟩
instance ul_66 : Ul prog 66 (.array 64 50) := ⟨by kernel_rfl⟩
instance oneC_68 : OneC prog 68 := ⟨fun w => by kernel_rfl, by kernel_rfl⟩
instance zeroC_68 : ZeroC prog 68 (.slice none 0 0) := ⟨by kernel_rfl⟩
instance sliceT_68 : SliceT prog 68 50 1 4 (.int .u32 0) := ⟨by kernel_rfl, by kernel_rfl, rfl, by decide⟩
instance ul_68 : Ul prog 68 (.slice 50) := ⟨by kernel_rfl⟩
instance oneC_71 : OneC prog 71 := ⟨fun w => by kernel_rfl, by kernel_rfl⟩
instance zeroC_71 : ZeroC prog 71 (.pointer none) := ⟨by kernel_rfl⟩
instance oneC_86 : OneC prog 86 := ⟨fun w => by kernel_rfl, by kernel_rfl⟩
instance zeroC_86 : ZeroC prog 86 (.slice none 0 0) := ⟨by kernel_rfl⟩
instance sliceT_86 : SliceT prog 86 25 1 24 (.slice none 0 0) := ⟨by kernel_rfl, by kernel_rfl, rfl, by decide⟩
instance ul_86 : Ul prog 86 (.slice 25) := ⟨by kernel_rfl⟩
instance aggC_89 : AggC prog 89 256 := ⟨fun w => by kernel_rfl, by kernel_rfl⟩
instance zeroC_89 : ZeroC prog 89 (.agg #[(.int .u8 0), (.int .u8 0), (.int .u8 0), (.int .u8 0), (.int .u8 0), (.int .u8 0), (.int .u8 0), (.int .u8 0), (.int .u8 0), (.int .u8 0), (.int .u8 0), (.int .u8 0), (.int .u8 0), (.int .u8 0), (.int .u8 0), (.int .u8 0), (.int .u8 0), (.int .u8 0), (.int .u8 0), (.int .u8 0), (.int .u8 0), (.int .u8 0), (.int .u8 0), (.int .u8 0), (.int .u8 0), (.int .u8 0), (.int .u8 0), (.int .u8 0), (.int .u8 0), (.int .u8 0), (.int .u8 0), (.int .u8 0), (.int .u8 0), (.int .u8 0), (.int .u8 0), (.int .u8 0), (.int .u8 0), (.int .u8 0), (.int .u8 0), (.int .u8 0), (.int .u8 0), (.int .u8 0), (.int .u8 0), (.int .u8 0), (.int .u8 0), (.int .u8 0), (.int .u8 0), (.int .u8 0), (.int .u8 0), (.int .u8 0), (.int .u8 0), (.int .u8 0), (.int .u8 0), (.int .u8 0), (.int .u8 0), (.int .u8 0), (.int .u8 0), (.int .u8 0), (.int .u8 0), (.int .u8 0), (.int .u8 0), (.int .u8 0), (.int .u8 0), (.int .u8 0), (.int .u8 0), (.int .u8 0), (.int .u8 0), (.int .u8 0), (.int .u8 0), (.int .u8 0), (.int .u8 0), (.int .u8 0), (.int .u8 0), (.int .u8 0), (.int .u8 0), (.int .u8 0), (.int .u8 0), (.int .u8 0), (.int .u8 0), (.int .u8 0), (.int .u8 0), (.int .u8 0), (.int .u8 0), (.int .u8 0), (.int .u8 0), (.int .u8 0), (.int .u8 0), (.int .u8 0), (.int .u8 0), (.int .u8 0), (.int .u8 0), (.int .u8 0), (.int .u8 0), (.int .u8 0), (.int .u8 0), (.int .u8 0), (.int .u8 0), (.int .u8 0), (.int .u8 0), (.int .u8 0), (.int .u8 0), (.int .u8 0), (.int .u8 0), (.int .u8 0), (.int .u8 0), (.int .u8 0), (.int .u8 0), (.int .u8 0), (.int .u8 0), (.int .u8 0), (.int .u8 0), (.int .u8 0), (.int .u8 0), (.int .u8 0), (.int .u8 0), (.int .u8 0), (.int .u8 0), (.int .u8 0), (.int .u8 0), (.int .u8 0), (.int .u8 0), (.int .u8 0), (.int .u8 0), (.int .u8 0), (.int .u8 0), (.int .u8 0), (.int .u8 0), (.int .u8 0), (.int .u8 0), (.int .u8 0), (.int .u8 0), (.int .u8 0), (.int .u8 0), (.int .u8 0), (.int .u8 0), (.int .u8 0), (.int .u8 0), (.int .u8 0), (.int .u8 0), (.int .u8 0), (.int .u8 0), (.int .u8 0), (.int .u8 0), (.int .u8 0), (.int .u8 0), (.int .u8 0), (.int .u8 0), (.int .u8 0), (.int .u8 0), (.int .u8 0), (.int .u8 0), (.int .u8 0), (.int .u8 0), (.int .u8 0), (.int .u8 0), (.int .u8 0), (.int .u8 0), (.int .u8 0), (.int .u8 0), (.int .u8 0), (.int .u8 0), (.int .u8 0), (.int .u8 0), (.int .u8 0), (.int .u8 0), (.int .u8 0), (.int .u8 0), (.int .u8 0), (.int .u8 0), (.int .u8 0), (.int .u8 0), (.int .u8 0), (.int .u8 0), (.int .u8 0), (.int .u8 0), (.int .u8 0), (.int .u8 0), (.int .u8 0), (.int .u8 0), (.int .u8 0), (.int .u8 0), (.int .u8 0), (.int .u8 0), (.int .u8 0), (.int .u8 0), (.int .u8 0), (.int .u8 0), (.int .u8 0), (.int .u8 0), (.int .u8 0), (.int .u8 0), (.int .u8 0), (.int .u8 0), (.int .u8 0), (.int .u8 0), (.int .u8 0), (.int .u8 0), (.int .u8 0), (.int .u8 0), (.int .u8 0), (.int .u8 0), (.int .u8 0), (.int .u8 0), (.int .u8 0), (.int .u8 0), (.int .u8 0), (.int .u8 0), (.int .u8 0), (.int .u8 0), (.int .u8 0), (.int .u8 0), (.int .u8 0), (.int .u8 0), (.int .u8 0), (.int .u8 0), (.int .u8 0), (.int .u8 0), (.int .u8 0), (.int .u8 0), (.int .u8 0), (.int .u8 0), (.int .u8 0), (.int .u8 0), (.int .u8 0), (.int .u8 0), (.int .u8 0), (.int .u8 0), (.int .u8 0), (.int .u8 0), (.int .u8 0), (.int .u8 0), (.int .u8 0), (.int .u8 0), (.int .u8 0), (.int .u8 0), (.int .u8 0), (.int .u8 0), (.int .u8 0), (.int .u8 0), (.int .u8 0), (.int .u8 0), (.int .u8 0), (.int .u8 0), (.int .u8 0), (.int .u8 0), (.int .u8 0), (.int .u8 0), (.int .u8 0), (.int .u8 0), (.int .u8 0), (.int .u8 0), (.int .u8 0), (.int .u8 0), (.int .u8 0), (.int .u8 0), (.int .u8 0)]) := ⟨by kernel_rfl⟩
instance ul_89 : Ul prog 89 (.array 256 5) := ⟨by kernel_rfl⟩
instance aggC_90 : AggC prog 90 2 := ⟨fun w => by kernel_rfl, by kernel_rfl⟩
instance zeroC_90 : ZeroC prog 90 (.agg #[(.int .u8 0), (.int .u8 0)]) := ⟨by kernel_rfl⟩
instance fld_90_0 : FldOff prog 90 0 0 := ⟨fun b o w => by kernel_rfl⟩
instance fld_90_1 : FldOff prog 90 1 1 := ⟨fun b o w => by kernel_rfl⟩
instance aggC_91 : AggC prog 91 2 := ⟨fun w => by kernel_rfl, by kernel_rfl⟩
instance zeroC_91 : ZeroC prog 91 (.agg #[(.int .u8 0), (.int .u8 0)]) := ⟨by kernel_rfl⟩
instance fld_91_0 : FldOff prog 91 0 0 := ⟨fun b o w => by kernel_rfl⟩
instance fld_91_1 : FldOff prog 91 1 1 := ⟨fun b o w => by kernel_rfl⟩
instance aggC_92 : AggC prog 92 32 := ⟨fun w => by kernel_rfl, by kernel_rfl⟩
instance zeroC_92 : ZeroC prog 92 (.agg #[(.int .u8 0), (.int .u8 0), (.int .u8 0), (.int .u8 0), (.int .u8 0), (.int .u8 0), (.int .u8 0), (.int .u8 0), (.int .u8 0), (.int .u8 0), (.int .u8 0), (.int .u8 0), (.int .u8 0), (.int .u8 0), (.int .u8 0), (.int .u8 0), (.int .u8 0), (.int .u8 0), (.int .u8 0), (.int .u8 0), (.int .u8 0), (.int .u8 0), (.int .u8 0), (.int .u8 0), (.int .u8 0), (.int .u8 0), (.int .u8 0), (.int .u8 0), (.int .u8 0), (.int .u8 0), (.int .u8 0), (.int .u8 0)]) := ⟨by kernel_rfl⟩
instance ul_92 : Ul prog 92 (.array 16 91) := ⟨by kernel_rfl⟩
instance aggC_95 : AggC prog 95 4 := ⟨fun w => by kernel_rfl, by kernel_rfl⟩
instance zeroC_95 : ZeroC prog 95 (.agg #[(.pointer none), (.pointer none), (.pointer none), (.string ⟨#[]⟩)]) := ⟨by kernel_rfl⟩
instance fld_95_0 : FldOff prog 95 0 0 := ⟨fun b o w => by kernel_rfl⟩
instance fld_95_1 : FldOff prog 95 1 1 := ⟨fun b o w => by kernel_rfl⟩
instance fld_95_2 : FldOff prog 95 2 2 := ⟨fun b o w => by kernel_rfl⟩
instance fld_95_3 : FldOff prog 95 3 3 := ⟨fun b o w => by kernel_rfl⟩
instance aggC_96 : AggC prog 96 4 := ⟨fun w => by kernel_rfl, by kernel_rfl⟩
instance zeroC_96 : ZeroC prog 96 (.agg #[(.pointer none), (.pointer none), (.pointer none), (.string ⟨#[]⟩)]) := ⟨by kernel_rfl⟩
instance fld_96_0 : FldOff prog 96 0 0 := ⟨fun b o w => by kernel_rfl⟩
instance fld_96_1 : FldOff prog 96 1 1 := ⟨fun b o w => by kernel_rfl⟩
instance fld_96_2 : FldOff prog 96 2 2 := ⟨fun b o w => by kernel_rfl⟩
instance fld_96_3 : FldOff prog 96 3 3 := ⟨fun b o w => by kernel_rfl⟩
instance aggC_97 : AggC prog 97 0 := ⟨fun w => by kernel_rfl, by kernel_rfl⟩
instance zeroC_97 : ZeroC prog 97 (.agg #[]) := ⟨by kernel_rfl⟩
instance ul_97 : Ul prog 97 (.array 0 16) := ⟨by kernel_rfl⟩
instance aggC_98 : AggC prog 98 0 := ⟨fun w => by kernel_rfl, by kernel_rfl⟩
instance zeroC_98 : ZeroC prog 98 (.agg #[]) := ⟨by kernel_rfl⟩
instance aggC_99 : AggC prog 99 0 := ⟨fun w => by kernel_rfl, by kernel_rfl⟩
instance zeroC_99 : ZeroC prog 99 (.agg #[]) := ⟨by kernel_rfl⟩
instance oneC_101 : OneC prog 101 := ⟨fun w => by kernel_rfl, by kernel_rfl⟩
instance zeroC_101 : ZeroC prog 101 (.int .u8 0) := ⟨by kernel_rfl⟩
instance ul_101 : Ul prog 101 (.int .u8) := ⟨by kernel_rfl⟩
instance oneC_102 : OneC prog 102 := ⟨fun w => by kernel_rfl, by kernel_rfl⟩
instance zeroC_102 : ZeroC prog 102 (.int .u8 0) := ⟨by kernel_rfl⟩
instance ul_102 : Ul prog 102 (.int .u8) := ⟨by kernel_rfl⟩
instance oneC_104 : OneC prog 104 := ⟨fun w => by kernel_rfl, by kernel_rfl⟩
instance zeroC_104 : ZeroC prog 104 (.int .i32 0) := ⟨by kernel_rfl⟩
instance ul_104 : Ul prog 104 (.int .i32) := ⟨by kernel_rfl⟩
instance oneC_105 : OneC prog 105 := ⟨fun w => by kernel_rfl, by kernel_rfl⟩
instance zeroC_105 : ZeroC prog 105 (.int .i32 0) := ⟨by kernel_rfl⟩
instance ul_105 : Ul prog 105 (.int .i32) := ⟨by kernel_rfl⟩
instance aggC_106 : AggC prog 106 11 := ⟨fun w => by kernel_rfl, by kernel_rfl⟩
instance zeroC_106 : ZeroC prog 106 (.agg #[(.int .u64 0), (.int .u64 0), (.int .u32 0), (.int .u8 0), (.int .u8 0), (.int .u8 0), (.int .u8 0), .nilFunc, (.pointer none), (.int .i32 0), (.int .i32 0)]) := ⟨by kernel_rfl⟩
instance fld_106_0 : FldOff prog 106 0 0 := ⟨fun b o w => by kernel_rfl⟩
instance fld_106_1 : FldOff prog 106 1 1 := ⟨fun b o w => by kernel_rfl⟩
instance fld_106_2 : FldOff prog 106 2 2 := ⟨fun b o w => by kernel_rfl⟩
instance fld_106_3 : FldOff prog 106 3 3 := ⟨fun b o w => by kernel_rfl⟩
instance fld_106_4 : FldOff prog 106 4 4 := ⟨fun b o w => by kernel_rfl⟩
instance fld_106_5 : FldOff prog 106 5 5 := ⟨fun b o w => by kernel_rfl⟩
instance fld_106_6 : FldOff prog 106 6 6 := ⟨fun b o w => by kernel_rfl⟩
instance fld_106_7 : FldOff prog 106 7 7 := ⟨fun b o w => by kernel_rfl⟩
instance fld_106_8 : FldOff prog 106 8 8 := ⟨fun b o w => by kernel_rfl⟩
instance fld_106_9 : FldOff prog 106 9 9 := ⟨fun b o w => by kernel_rfl⟩
instance fld_106_10 : FldOff prog 106 10 10 := ⟨fun b o w => by kernel_rfl⟩
instance aggC_107 : AggC prog 107 11 := ⟨fun w => by kernel_rfl, by kernel_rfl⟩
instance zeroC_107 : ZeroC prog 107 (.agg #[(.int .u64 0), (.int .u64 0), (.int .u32 0), (.int .u8 0), (.int .u8 0), (.int .u8 0), (.int .u8 0), .nilFunc, (.pointer none), (.int .i32 0), (.int .i32 0)]) := ⟨by kernel_rfl⟩
instance fld_107_0 : FldOff prog 107 0 0 := ⟨fun b o w => by kernel_rfl⟩
instance fld_107_1 : FldOff prog 107 1 1 := ⟨fun b o w => by kernel_rfl⟩
instance fld_107_2 : FldOff prog 107 2 2 := ⟨fun b o w => by kernel_rfl⟩
instance fld_107_3 : FldOff prog 107 3 3 := ⟨fun b o w => by kernel_rfl⟩
instance fld_107_4 : FldOff prog 107 4 4 := ⟨fun b o w => by kernel_rfl⟩
instance fld_107_5 : FldOff prog 107 5 5 := ⟨fun b o w => by kernel_rfl⟩
instance fld_107_6 : FldOff prog 107 6 6 := ⟨fun b o w => by kernel_rfl⟩
instance fld_107_7 : FldOff prog 107 7 7 := ⟨fun b o w => by kernel_rfl⟩
instance fld_107_8 : FldOff prog 107 8 8 := ⟨fun b o w => by kernel_rfl⟩
instance fld_107_9 : FldOff prog 107 9 9 := ⟨fun b o w => by kernel_rfl⟩
instance fld_107_10 : FldOff prog 107 10 10 := ⟨fun b o w => by kernel_rfl⟩

end Go.Proofs.YtfmoikocokekhaaDoor
