import Derived.Test.YtgkeplodfkmnlaaGreatProg
import Derived.Test.YtgkeplodfkmnlaaGreatVc
import Derived.KernelRfl
set_option linter.all false
set_option maxRecDepth 100000
namespace Go.Proofs.YtgkeplodfkmnlaaGreat
open Go Hold
noncomputable abbrev prog : Program := Tryz.prog
instance oneC_2 : OneC prog 2 := ⟨fun w => by kernel_rfl, by kernel_rfl⟩
instance zeroC_2 : ZeroC prog 2 (.int .i64 0) := ⟨by kernel_rfl⟩
instance ul_2 : Ul prog 2 (.int .i64) := ⟨by kernel_rfl⟩
instance oneC_3 : OneC prog 3 := ⟨fun w => by kernel_rfl, by kernel_rfl⟩
instance zeroC_3 : ZeroC prog 3 (.int .i64 0) := ⟨by kernel_rfl⟩
instance ul_3 : Ul prog 3 (.int .i64) := ⟨by kernel_rfl⟩
instance oneC_4 : OneC prog 4 := ⟨fun w => by kernel_rfl, by kernel_rfl⟩
instance zeroC_4 : ZeroC prog 4 (.bool false) := ⟨by kernel_rfl⟩
instance ul_4 : Ul prog 4 .bool := ⟨by kernel_rfl⟩
instance oneC_5 : OneC prog 5 := ⟨fun w => by kernel_rfl, by kernel_rfl⟩
instance zeroC_5 : ZeroC prog 5 (.int .u8 0) := ⟨by kernel_rfl⟩
instance ul_5 : Ul prog 5 (.int .u8) := ⟨by kernel_rfl⟩
instance oneC_6 : OneC prog 6 := ⟨fun w => by kernel_rfl, by kernel_rfl⟩
instance zeroC_6 : ZeroC prog 6 (.int .u8 0) := ⟨by kernel_rfl⟩
instance ul_6 : Ul prog 6 (.int .u8) := ⟨by kernel_rfl⟩
instance aggC_7 : AggC prog 7 4 := ⟨fun w => by kernel_rfl, by kernel_rfl⟩
instance zeroC_7 : ZeroC prog 7 (.agg #[(.int .i64 0), (.int .i64 0), (.bool false), (.int .u8 0)]) := ⟨by kernel_rfl⟩
instance fld_7_0 : FldOff prog 7 0 0 := ⟨fun b o w => by kernel_rfl⟩
instance fld_7_1 : FldOff prog 7 1 1 := ⟨fun b o w => by kernel_rfl⟩
instance fld_7_2 : FldOff prog 7 2 2 := ⟨fun b o w => by kernel_rfl⟩
instance fld_7_3 : FldOff prog 7 3 3 := ⟨fun b o w => by kernel_rfl⟩
instance aggC_8 : AggC prog 8 4 := ⟨fun w => by kernel_rfl, by kernel_rfl⟩
instance zeroC_8 : ZeroC prog 8 (.agg #[(.int .i64 0), (.int .i64 0), (.bool false), (.int .u8 0)]) := ⟨by kernel_rfl⟩
instance fld_8_0 : FldOff prog 8 0 0 := ⟨fun b o w => by kernel_rfl⟩
instance fld_8_1 : FldOff prog 8 1 1 := ⟨fun b o w => by kernel_rfl⟩
instance fld_8_2 : FldOff prog 8 2 2 := ⟨fun b o w => by kernel_rfl⟩
instance fld_8_3 : FldOff prog 8 3 3 := ⟨fun b o w => by kernel_rfl⟩
instance oneC_9 : OneC prog 9 := ⟨fun w => by kernel_rfl, by kernel_rfl⟩
instance zeroC_9 : ZeroC prog 9 (.string ⟨#[]⟩) := ⟨by kernel_rfl⟩
instance ul_9 : Ul prog 9 .string := ⟨by kernel_rfl⟩
instance oneC_10 : OneC prog 10 := ⟨fun w => by kernel_rfl, by kernel_rfl⟩
instance zeroC_10 : ZeroC prog 10 (.string ⟨#[]⟩) := ⟨by kernel_rfl⟩
instance ul_10 : Ul prog 10 .string := ⟨by kernel_rfl⟩
instance oneC_11 : OneC prog 11 := ⟨fun w => by kernel_rfl, by kernel_rfl⟩
instance zeroC_11 : ZeroC prog 11 (.string ⟨#[]⟩) := ⟨by kernel_rfl⟩
instance ul_11 : Ul prog 11 .string := ⟨by kernel_rfl⟩
instance oneC_12 : OneC prog 12 := ⟨fun w => by kernel_rfl, by kernel_rfl⟩
instance zeroC_12 : ZeroC prog 12 (.int .u64 0) := ⟨by kernel_rfl⟩
instance ul_12 : Ul prog 12 (.int .u64) := ⟨by kernel_rfl⟩
instance aggC_13 : AggC prog 13 2 := ⟨fun w => by kernel_rfl, by kernel_rfl⟩
instance zeroC_13 : ZeroC prog 13 (.agg #[(.string ⟨#[]⟩), (.int .u64 0)]) := ⟨by kernel_rfl⟩
instance fld_13_0 : FldOff prog 13 0 0 := ⟨fun b o w => by kernel_rfl⟩
instance fld_13_1 : FldOff prog 13 1 1 := ⟨fun b o w => by kernel_rfl⟩
instance aggC_14 : AggC prog 14 2 := ⟨fun w => by kernel_rfl, by kernel_rfl⟩
instance zeroC_14 : ZeroC prog 14 (.agg #[(.string ⟨#[]⟩), (.int .u64 0)]) := ⟨by kernel_rfl⟩
instance fld_14_0 : FldOff prog 14 0 0 := ⟨fun b o w => by kernel_rfl⟩
instance fld_14_1 : FldOff prog 14 1 1 := ⟨fun b o w => by kernel_rfl⟩
instance oneC_15 : OneC prog 15 := ⟨fun w => by kernel_rfl, by kernel_rfl⟩
instance zeroC_15 : ZeroC prog 15 (.pointer none) := ⟨by kernel_rfl⟩
instance ul_15 : Ul prog 15 (.pointer 163) := ⟨by kernel_rfl⟩
instance oneC_16 : OneC prog 16 := ⟨fun w => by kernel_rfl, by kernel_rfl⟩
instance zeroC_16 : ZeroC prog 16 (.pointer none) := ⟨by kernel_rfl⟩
instance ul_16 : Ul prog 16 (.pointer 166) := ⟨by kernel_rfl⟩
instance oneC_17 : OneC prog 17 := ⟨fun w => by kernel_rfl, by kernel_rfl⟩
instance zeroC_17 : ZeroC prog 17 (.pointer none) := ⟨by kernel_rfl⟩
instance ul_17 : Ul prog 17 (.pointer 174) := ⟨by kernel_rfl⟩
instance aggC_18 : AggC prog 18 1 := ⟨fun w => by kernel_rfl, by kernel_rfl⟩
instance zeroC_18 : ZeroC prog 18 (.agg #[(.pointer none)]) := ⟨by kernel_rfl⟩
instance fld_18_0 : FldOff prog 18 0 0 := ⟨fun b o w => by kernel_rfl⟩
instance aggC_19 : AggC prog 19 1 := ⟨fun w => by kernel_rfl, by kernel_rfl⟩
instance zeroC_19 : ZeroC prog 19 (.agg #[(.pointer none)]) := ⟨by kernel_rfl⟩
instance fld_19_0 : FldOff prog 19 0 0 := ⟨fun b o w => by kernel_rfl⟩
instance oneC_20 : OneC prog 20 := ⟨fun w => by kernel_rfl, by kernel_rfl⟩
instance zeroC_20 : ZeroC prog 20 .nilIface := ⟨by kernel_rfl⟩
instance oneC_21 : OneC prog 21 := ⟨fun w => by kernel_rfl, by kernel_rfl⟩
instance zeroC_21 : ZeroC prog 21 (.int .i32 0) := ⟨by kernel_rfl⟩
instance ul_21 : Ul prog 21 (.int .i32) := ⟨by kernel_rfl⟩
instance oneC_22 : OneC prog 22 := ⟨fun w => by kernel_rfl, by kernel_rfl⟩
instance zeroC_22 : ZeroC prog 22 (.slice none 0 0) := ⟨by kernel_rfl⟩
instance sliceT_22 : SliceT prog 22 31 4 40 (.agg #[(.bool false), (.bool false), (.slice none 0 0), (.int .u8 0)]) := ⟨by kernel_rfl, by kernel_rfl, rfl, by decide⟩
instance ul_22 : Ul prog 22 (.slice 31) := ⟨by kernel_rfl⟩
instance oneC_23 : OneC prog 23 := ⟨fun w => by kernel_rfl, by kernel_rfl⟩
instance zeroC_23 : ZeroC prog 23 (.pointer none) := ⟨by kernel_rfl⟩
instance ul_23 : Ul prog 23 (.pointer 70) := ⟨by kernel_rfl⟩
instance oneC_24 : OneC prog 24 := ⟨fun w => by kernel_rfl, by kernel_rfl⟩
instance zeroC_24 : ZeroC prog 24 (.pointer none) := ⟨by kernel_rfl⟩
instance ul_24 : Ul prog 24 (.pointer 108) := ⟨by kernel_rfl⟩
instance oneC_29 : OneC prog 29 := ⟨fun w => by kernel_rfl, by kernel_rfl⟩
instance zeroC_29 : ZeroC prog 29 (.slice none 0 0) := ⟨by kernel_rfl⟩
instance sliceT_29 : SliceT prog 29 3 1 8 (.int .i64 0) := ⟨by kernel_rfl, by kernel_rfl, rfl, by decide⟩
instance ul_29 : Ul prog 29 (.slice 3) := ⟨by kernel_rfl⟩
instance aggC_30 : AggC prog 30 4 := ⟨fun w => by kernel_rfl, by kernel_rfl⟩
instance zeroC_30 : ZeroC prog 30 (.agg #[(.bool false), (.bool false), (.slice none 0 0), (.int .u8 0)]) := ⟨by kernel_rfl⟩
instance fld_30_0 : FldOff prog 30 0 0 := ⟨fun b o w => by kernel_rfl⟩
instance fld_30_1 : FldOff prog 30 1 1 := ⟨fun b o w => by kernel_rfl⟩
instance fld_30_2 : FldOff prog 30 2 2 := ⟨fun b o w => by kernel_rfl⟩
instance fld_30_3 : FldOff prog 30 3 3 := ⟨fun b o w => by kernel_rfl⟩
instance aggC_31 : AggC prog 31 4 := ⟨fun w => by kernel_rfl, by kernel_rfl⟩
instance zeroC_31 : ZeroC prog 31 (.agg #[(.bool false), (.bool false), (.slice none 0 0), (.int .u8 0)]) := ⟨by kernel_rfl⟩
instance fld_31_0 : FldOff prog 31 0 0 := ⟨fun b o w => by kernel_rfl⟩
instance fld_31_1 : FldOff prog 31 1 1 := ⟨fun b o w => by kernel_rfl⟩
instance fld_31_2 : FldOff prog 31 2 2 := ⟨fun b o w => by kernel_rfl⟩
instance fld_31_3 : FldOff prog 31 3 3 := ⟨fun b o w => by kernel_rfl⟩
instance oneC_32 : OneC prog 32 := ⟨fun w => by kernel_rfl, by kernel_rfl⟩
instance zeroC_32 : ZeroC prog 32 (.slice none 0 0) := ⟨by kernel_rfl⟩
instance sliceT_32 : SliceT prog 32 60 1 24 (.slice none 0 0) := ⟨by kernel_rfl, by kernel_rfl, rfl, by decide⟩
instance ul_32 : Ul prog 32 (.slice 60) := ⟨by kernel_rfl⟩
instance oneC_34 : OneC prog 34 := ⟨fun w => by kernel_rfl, by kernel_rfl⟩
instance zeroC_34 : ZeroC prog 34 (.int .i64 0) := ⟨by kernel_rfl⟩
instance ul_34 : Ul prog 34 (.int .i64) := ⟨by kernel_rfl⟩
instance oneC_42 : OneC prog 42 := ⟨fun w => by kernel_rfl, by kernel_rfl⟩
instance zeroC_42 : ZeroC prog 42 (.pointer none) := ⟨by kernel_rfl⟩
instance ul_42 : Ul prog 42 (.pointer 88) := ⟨by kernel_rfl⟩
instance oneC_45 : OneC prog 45 := ⟨fun w => by kernel_rfl, by kernel_rfl⟩
instance zeroC_45 : ZeroC prog 45 (.int .u16 0) := ⟨by kernel_rfl⟩
instance ul_45 : Ul prog 45 (.int .u16) := ⟨by kernel_rfl⟩
instance oneC_49 : OneC prog 49 := ⟨fun w => by kernel_rfl, by kernel_rfl⟩
instance zeroC_49 : ZeroC prog 49 (.slice none 0 0) := ⟨by kernel_rfl⟩
instance sliceT_49 : SliceT prog 49 65 2 32 (.agg #[(.int .i64 0), (.slice none 0 0)]) := ⟨by kernel_rfl, by kernel_rfl, rfl, by decide⟩
instance ul_49 : Ul prog 49 (.slice 65) := ⟨by kernel_rfl⟩
instance oneC_55 : OneC prog 55 := ⟨fun w => by kernel_rfl, by kernel_rfl⟩
instance zeroC_55 : ZeroC prog 55 (.pointer none) := ⟨by kernel_rfl⟩
instance ul_55 : Ul prog 55 (.pointer 105) := ⟨by kernel_rfl⟩
instance oneC_60 : OneC prog 60 := ⟨fun w => by kernel_rfl, by kernel_rfl⟩
instance zeroC_60 : ZeroC prog 60 (.slice none 0 0) := ⟨by kernel_rfl⟩
instance sliceT_60 : SliceT prog 60 5 1 1 (.int .u8 0) := ⟨by kernel_rfl, by kernel_rfl, rfl, by decide⟩
instance ul_60 : Ul prog 60 (.slice 5) := ⟨by kernel_rfl⟩
instance aggC_64 : AggC prog 64 2 := ⟨fun w => by kernel_rfl, by kernel_rfl⟩
instance zeroC_64 : ZeroC prog 64 (.agg #[(.int .i64 0), (.slice none 0 0)]) := ⟨by kernel_rfl⟩
instance fld_64_0 : FldOff prog 64 0 0 := ⟨fun b o w => by kernel_rfl⟩
instance fld_64_1 : FldOff prog 64 1 1 := ⟨fun b o w => by kernel_rfl⟩
instance aggC_65 : AggC prog 65 2 := ⟨fun w => by kernel_rfl, by kernel_rfl⟩
instance zeroC_65 : ZeroC prog 65 (.agg #[(.int .i64 0), (.slice none 0 0)]) := ⟨by kernel_rfl⟩
instance fld_65_0 : FldOff prog 65 0 0 := ⟨fun b o w => by kernel_rfl⟩
instance fld_65_1 : FldOff prog 65 1 1 := ⟨fun b o w => by kernel_rfl⟩
instance aggC_66 : AggC prog 66 1 := ⟨fun w => by kernel_rfl, by kernel_rfl⟩
instance zeroC_66 : ZeroC prog 66 (.agg #[(.pointer none)]) := ⟨by kernel_rfl⟩
instance fld_66_0 : FldOff prog 66 0 0 := ⟨fun b o w => by kernel_rfl⟩
instance aggC_67 : AggC prog 67 1 := ⟨fun w => by kernel_rfl, by kernel_rfl⟩
instance zeroC_67 : ZeroC prog 67 (.agg #[(.pointer none)]) := ⟨by kernel_rfl⟩
instance fld_67_0 : FldOff prog 67 0 0 := ⟨fun b o w => by kernel_rfl⟩
instance oneC_68 : OneC prog 68 := ⟨fun w => by kernel_rfl, by kernel_rfl⟩
instance zeroC_68 : ZeroC prog 68 (.map none) := ⟨by kernel_rfl⟩
instance ul_68 : Ul prog 68 (.map 3 3) := ⟨by kernel_rfl⟩
instance aggC_69 : AggC prog 69 5 := ⟨fun w => by kernel_rfl, by kernel_rfl⟩
instance zeroC_69 : ZeroC prog 69 (.agg #[(.pointer none), (.int .i64 0), (.int .i64 0), (.int .i64 0), (.map none)]) := ⟨by kernel_rfl⟩
instance fld_69_0 : FldOff prog 69 0 0 := ⟨fun b o w => by kernel_rfl⟩
instance fld_69_1 : FldOff prog 69 1 1 := ⟨fun b o w => by kernel_rfl⟩
instance fld_69_2 : FldOff prog 69 2 2 := ⟨fun b o w => by kernel_rfl⟩
instance fld_69_3 : FldOff prog 69 3 3 := ⟨fun b o w => by kernel_rfl⟩
instance fld_69_4 : FldOff prog 69 4 4 := ⟨fun b o w => by kernel_rfl⟩
instance aggC_70 : AggC prog 70 5 := ⟨fun w => by kernel_rfl, by kernel_rfl⟩
instance zeroC_70 : ZeroC prog 70 (.agg #[(.pointer none), (.int .i64 0), (.int .i64 0), (.int .i64 0), (.map none)]) := ⟨by kernel_rfl⟩
instance fld_70_0 : FldOff prog 70 0 0 := ⟨fun b o w => by kernel_rfl⟩
instance fld_70_1 : FldOff prog 70 1 1 := ⟨fun b o w => by kernel_rfl⟩
instance fld_70_2 : FldOff prog 70 2 2 := ⟨fun b o w => by kernel_rfl⟩
instance fld_70_3 : FldOff prog 70 3 3 := ⟨fun b o w => by kernel_rfl⟩
instance fld_70_4 : FldOff prog 70 4 4 := ⟨fun b o w => by kernel_rfl⟩
instance oneC_81 : OneC prog 81 := ⟨fun w => by kernel_rfl, by kernel_rfl⟩
instance zeroC_81 : ZeroC prog 81 (.slice none 0 0) := ⟨by kernel_rfl⟩
instance sliceT_81 : SliceT prog 81 95 2 32 (.agg #[(.int .i64 0), (.slice none 0 0)]) := ⟨by kernel_rfl, by kernel_rfl, rfl, by decide⟩
instance ul_81 : Ul prog 81 (.slice 95) := ⟨by kernel_rfl⟩
instance aggC_82 : AggC prog 82 0 := ⟨fun w => by kernel_rfl, by kernel_rfl⟩
instance zeroC_82 : ZeroC prog 82 (.agg #[]) := ⟨by kernel_rfl⟩
instance aggC_83 : AggC prog 83 0 := ⟨fun w => by kernel_rfl, by kernel_rfl⟩
instance zeroC_83 : ZeroC prog 83 (.agg #[]) := ⟨by kernel_rfl⟩
instance aggC_84 : AggC prog 84 0 := ⟨fun w => by kernel_rfl, by kernel_rfl⟩
instance zeroC_84 : ZeroC prog 84 (.agg #[]) := ⟨by kernel_rfl⟩
instance aggC_85 : AggC prog 85 1 := ⟨fun w => by kernel_rfl, by kernel_rfl⟩
instance zeroC_85 : ZeroC prog 85 (.agg #[(.int .i64 0)]) := ⟨by kernel_rfl⟩
instance fld_85_2 : FldOff prog 85 2 0 := ⟨fun b o w => by kernel_rfl⟩
instance aggC_86 : AggC prog 86 1 := ⟨fun w => by kernel_rfl, by kernel_rfl⟩
instance zeroC_86 : ZeroC prog 86 (.agg #[(.int .i64 0)]) := ⟨by kernel_rfl⟩
instance fld_86_2 : FldOff prog 86 2 0 := ⟨fun b o w => by kernel_rfl⟩
instance aggC_87 : AggC prog 87 3 := ⟨fun w => by kernel_rfl, by kernel_rfl⟩
instance zeroC_87 : ZeroC prog 87 (.agg #[(.slice none 0 0), (.slice none 0 0), (.int .i64 0)]) := ⟨by kernel_rfl⟩
instance fld_87_0 : FldOff prog 87 0 0 := ⟨fun b o w => by kernel_rfl⟩
instance fld_87_1 : FldOff prog 87 1 1 := ⟨fun b o w => by kernel_rfl⟩
instance fld_87_2 : FldOff prog 87 2 2 := ⟨fun b o w => by kernel_rfl⟩
instance aggC_88 : AggC prog 88 3 := ⟨fun w => by kernel_rfl, by kernel_rfl⟩
instance zeroC_88 : ZeroC prog 88 (.agg #[(.slice none 0 0), (.slice none 0 0), (.int .i64 0)]) := ⟨by kernel_rfl⟩
instance fld_88_0 : FldOff prog 88 0 0 := ⟨fun b o w => by kernel_rfl⟩
instance fld_88_1 : FldOff prog 88 1 1 := ⟨fun b o w => by kernel_rfl⟩
instance fld_88_2 : FldOff prog 88 2 2 := ⟨fun b o w => by kernel_rfl⟩
instance aggC_94 : AggC prog 94 2 := ⟨fun w => by kernel_rfl, by kernel_rfl⟩
instance zeroC_94 : ZeroC prog 94 (.agg #[(.int .i64 0), (.slice none 0 0)]) := ⟨by kernel_rfl⟩
instance fld_94_0 : FldOff prog 94 0 0 := ⟨fun b o w => by kernel_rfl⟩
instance fld_94_1 : FldOff prog 94 1 1 := ⟨fun b o w => by kernel_rfl⟩
instance aggC_95 : AggC prog 95 2 := ⟨fun w => by kernel_rfl, by kernel_rfl⟩
instance zeroC_95 : ZeroC prog 95 (.agg #[(.int .i64 0), (.slice none 0 0)]) := ⟨by kernel_rfl⟩
instance fld_95_0 : FldOff prog 95 0 0 := ⟨fun b o w => by kernel_rfl⟩
instance fld_95_1 : FldOff prog 95 1 1 := ⟨fun b o w => by kernel_rfl⟩
instance oneC_99 : OneC prog 99 := ⟨fun w => by kernel_rfl, by kernel_rfl⟩
instance zeroC_99 : ZeroC prog 99 (.map none) := ⟨by kernel_rfl⟩
instance ul_99 : Ul prog 99 (.map 3 60) := ⟨by kernel_rfl⟩
instance oneC_103 : OneC prog 103 := ⟨fun w => by kernel_rfl, by kernel_rfl⟩
instance zeroC_103 : ZeroC prog 103 (.slice none 0 0) := ⟨by kernel_rfl⟩
instance sliceT_103 : SliceT prog 103 132 2 32 (.agg #[(.int .i64 0), (.slice none 0 0)]) := ⟨by kernel_rfl, by kernel_rfl, rfl, by decide⟩
instance ul_103 : Ul prog 103 (.slice 132) := ⟨by kernel_rfl⟩
instance aggC_104 : AggC prog 104 2 := ⟨fun w => by kernel_rfl, by kernel_rfl⟩
instance zeroC_104 : ZeroC prog 104 (.agg #[(.slice none 0 0), (.slice none 0 0)]) := ⟨by kernel_rfl⟩
instance fld_104_0 : FldOff prog 104 0 0 := ⟨fun b o w => by kernel_rfl⟩
instance fld_104_1 : FldOff prog 104 1 1 := ⟨fun b o w => by kernel_rfl⟩
instance aggC_105 : AggC prog 105 2 := ⟨fun w => by kernel_rfl, by kernel_rfl⟩
instance zeroC_105 : ZeroC prog 105 (.agg #[(.slice none 0 0), (.slice none 0 0)]) := ⟨by kernel_rfl⟩
instance fld_105_0 : FldOff prog 105 0 0 := ⟨fun b o w => by kernel_rfl⟩
instance fld_105_1 : FldOff prog 105 1 1 := ⟨fun b o w => by kernel_rfl⟩
instance aggC_107 : AggC prog 107 4 := ⟨fun w => by kernel_rfl, by kernel_rfl⟩
instance zeroC_107 : ZeroC prog 107 (.agg #[(.pointer none), (.int .i64 0), (.int .i64 0), (.int .i64 0)]) := ⟨by kernel_rfl⟩
instance fld_107_0 : FldOff prog 107 0 0 := ⟨fun b o w => by kernel_rfl⟩
instance fld_107_1 : FldOff prog 107 1 1 := ⟨fun b o w => by kernel_rfl⟩
instance fld_107_2 : FldOff prog 107 2 2 := ⟨fun b o w => by kernel_rfl⟩
instance fld_107_3 : FldOff prog 107 3 3 := ⟨fun b o w => by kernel_rfl⟩
instance aggC_108 : AggC prog 108 4 := ⟨fun w => by kernel_rfl, by kernel_rfl⟩
instance zeroC_108 : ZeroC prog 108 (.agg #[(.pointer none), (.int .i64 0), (.int .i64 0), (.int .i64 0)]) := ⟨by kernel_rfl⟩
instance fld_108_0 : FldOff prog 108 0 0 := ⟨fun b o w => by kernel_rfl⟩
instance fld_108_1 : FldOff prog 108 1 1 := ⟨fun b o w => by kernel_rfl⟩
instance fld_108_2 : FldOff prog 108 2 2 := ⟨fun b o w => by kernel_rfl⟩
instance fld_108_3 : FldOff prog 108 3 3 := ⟨fun b o w => by kernel_rfl⟩
instance oneC_111 : OneC prog 111 := ⟨fun w => by kernel_rfl, by kernel_rfl⟩
instance zeroC_111 : ZeroC prog 111 (.int .u64 0) := ⟨by kernel_rfl⟩
instance ul_111 : Ul prog 111 (.int .u64) := ⟨by kernel_rfl⟩
instance oneC_124 : OneC prog 124 := ⟨fun w => by kernel_rfl, by kernel_rfl⟩
instance zeroC_124 : ZeroC prog 124 (.pointer none) := ⟨by kernel_rfl⟩
instance ul_124 : Ul prog 124 (.pointer 86) := ⟨by kernel_rfl⟩
instance oneC_126 : OneC prog 126 := ⟨fun w => by kernel_rfl, by kernel_rfl⟩
instance zeroC_126 : ZeroC prog 126 (.pointer none) := ⟨by kernel_rfl⟩
instance ul_126 : Ul prog 126 (.pointer 2) := ⟨by kernel_rfl⟩
instance aggC_131 : AggC prog 131 2 := ⟨fun w => by kernel_rfl, by kernel_rfl⟩
instance zeroC_131 : ZeroC prog 131 (.agg #[(.int .i64 0), (.slice none 0 0)]) := ⟨by kernel_rfl⟩
instance fld_131_0 : FldOff prog 131 0 0 := ⟨fun b o w => by kernel_rfl⟩
instance fld_131_1 : FldOff prog 131 1 1 := ⟨fun b o w => by kernel_rfl⟩
instance aggC_132 : AggC prog 132 2 := ⟨fun w => by kernel_rfl, by kernel_rfl⟩
instance zeroC_132 : ZeroC prog 132 (.agg #[(.int .i64 0), (.slice none 0 0)]) := ⟨by kernel_rfl⟩
instance fld_132_0 : FldOff prog 132 0 0 := ⟨fun b o w => by kernel_rfl⟩
instance fld_132_1 : FldOff prog 132 1 1 := ⟨fun b o w => by kernel_rfl⟩
instance oneC_141 : OneC prog 141 := ⟨fun w => by kernel_rfl, by kernel_rfl⟩
instance zeroC_141 : ZeroC prog 141 (.int .i64 0) := ⟨by kernel_rfl⟩
instance ul_141 : Ul prog 141 (.int .i64) := ⟨by kernel_rfl⟩
instance oneC_149 : OneC prog 149 := ⟨fun w => by kernel_rfl, by kernel_rfl⟩
instance zeroC_149 : ZeroC prog 149 (.int .u32 0) := ⟨by kernel_rfl⟩
instance ul_149 : Ul prog 149 (.int .u32) := ⟨by kernel_rfl⟩
instance oneC_151 : OneC prog 151 := ⟨fun w => by kernel_rfl, by kernel_rfl⟩
instance zeroC_151 : ZeroC prog 151 (.int .u64 0) := ⟨by kernel_rfl⟩
instance ul_151 : Ul prog 151 (.int .u64) := ⟨by kernel_rfl⟩
instance oneC_152 : OneC prog 152 := ⟨fun w => by kernel_rfl, by kernel_rfl⟩
instance zeroC_152 : ZeroC prog 152 (.int .u64 0) := ⟨by kernel_rfl⟩
instance ul_152 : Ul prog 152 (.int .u64) := ⟨by kernel_rfl⟩
instance oneC_156 : OneC prog 156 := ⟨fun w => by kernel_rfl, by kernel_rfl⟩
instance zeroC_156 : ZeroC prog 156 (.pointer none) := ⟨by kernel_rfl⟩
instance ul_156 : Ul prog 156 (.pointer 3) := ⟨by kernel_rfl⟩
instance oneC_158 : OneC prog 158 := ⟨fun w => by kernel_rfl, by kernel_rfl⟩
instance zeroC_158 : ZeroC prog 158 (.pointer none) := ⟨by kernel_rfl⟩
instance ul_158 : Ul prog 158 (.pointer 152) := ⟨by kernel_rfl⟩
instance aggC_162 : AggC prog 162 4 := ⟨fun w => by kernel_rfl, by kernel_rfl⟩
instance zeroC_162 : ZeroC prog 162 (.agg #[(.pointer none), (.pointer none), (.pointer none), (.string ⟨#[]⟩)]) := ⟨by kernel_rfl⟩
instance fld_162_0 : FldOff prog 162 0 0 := ⟨fun b o w => by kernel_rfl⟩
instance fld_162_1 : FldOff prog 162 1 1 := ⟨fun b o w => by kernel_rfl⟩
instance fld_162_2 : FldOff prog 162 2 2 := ⟨fun b o w => by kernel_rfl⟩
instance fld_162_3 : FldOff prog 162 3 3 := ⟨fun b o w => by kernel_rfl⟩
instance aggC_163 : AggC prog 163 4 := ⟨fun w => by kernel_rfl, by kernel_rfl⟩
instance zeroC_163 : ZeroC prog 163 (.agg #[(.pointer none), (.pointer none), (.pointer none), (.string ⟨#[]⟩)]) := ⟨by kernel_rfl⟩
instance fld_163_0 : FldOff prog 163 0 0 := ⟨fun b o w => by kernel_rfl⟩
instance fld_163_1 : FldOff prog 163 1 1 := ⟨fun b o w => by kernel_rfl⟩
instance fld_163_2 : FldOff prog 163 2 2 := ⟨fun b o w => by kernel_rfl⟩
instance fld_163_3 : FldOff prog 163 3 3 := ⟨fun b o w => by kernel_rfl⟩
instance aggC_164 : AggC prog 164 0 := ⟨fun w => by kernel_rfl, by kernel_rfl⟩
instance zeroC_164 : ZeroC prog 164 (.agg #[]) := ⟨by kernel_rfl⟩
instance ul_164 : Ul prog 164 (.array 0 16) := ⟨by kernel_rfl⟩
instance aggC_165 : AggC prog 165 0 := ⟨fun w => by kernel_rfl, by kernel_rfl⟩
instance zeroC_165 : ZeroC prog 165 (.agg #[]) := ⟨by kernel_rfl⟩
instance aggC_166 : AggC prog 166 0 := ⟨fun w => by kernel_rfl, by kernel_rfl⟩
instance zeroC_166 : ZeroC prog 166 (.agg #[]) := ⟨by kernel_rfl⟩
instance oneC_167 : OneC prog 167 := ⟨fun w => by kernel_rfl, by kernel_rfl⟩
instance zeroC_167 : ZeroC prog 167 (.int .u8 0) := ⟨by kernel_rfl⟩
instance ul_167 : Ul prog 167 (.int .u8) := ⟨by kernel_rfl⟩
instance oneC_168 : OneC prog 168 := ⟨fun w => by kernel_rfl, by kernel_rfl⟩
instance zeroC_168 : ZeroC prog 168 (.int .u8 0) := ⟨by kernel_rfl⟩
instance ul_168 : Ul prog 168 (.int .u8) := ⟨by kernel_rfl⟩
instance oneC_170 : OneC prog 170 := ⟨fun w => by kernel_rfl, by kernel_rfl⟩
instance zeroC_170 : ZeroC prog 170 (.pointer none) := ⟨by kernel_rfl⟩
instance ul_170 : Ul prog 170 (.pointer 5) := ⟨by kernel_rfl⟩
instance oneC_171 : OneC prog 171 := ⟨fun w => by kernel_rfl, by kernel_rfl⟩
instance zeroC_171 : ZeroC prog 171 (.int .i32 0) := ⟨by kernel_rfl⟩
instance ul_171 : Ul prog 171 (.int .i32) := ⟨by kernel_rfl⟩
instance oneC_172 : OneC prog 172 := ⟨fun w => by kernel_rfl, by kernel_rfl⟩
instance zeroC_172 : ZeroC prog 172 (.int .i32 0) := ⟨by kernel_rfl⟩
instance ul_172 : Ul prog 172 (.int .i32) := ⟨by kernel_rfl⟩
instance aggC_173 : AggC prog 173 11 := ⟨fun w => by kernel_rfl, by kernel_rfl⟩
instance zeroC_173 : ZeroC prog 173 (.agg #[(.int .u64 0), (.int .u64 0), (.int .u32 0), (.int .u8 0), (.int .u8 0), (.int .u8 0), (.int .u8 0), .nilFunc, (.pointer none), (.int .i32 0), (.int .i32 0)]) := ⟨by kernel_rfl⟩
instance fld_173_0 : FldOff prog 173 0 0 := ⟨fun b o w => by kernel_rfl⟩
instance fld_173_1 : FldOff prog 173 1 1 := ⟨fun b o w => by kernel_rfl⟩
instance fld_173_2 : FldOff prog 173 2 2 := ⟨fun b o w => by kernel_rfl⟩
instance fld_173_3 : FldOff prog 173 3 3 := ⟨fun b o w => by kernel_rfl⟩
instance fld_173_4 : FldOff prog 173 4 4 := ⟨fun b o w => by kernel_rfl⟩
instance fld_173_5 : FldOff prog 173 5 5 := ⟨fun b o w => by kernel_rfl⟩
instance fld_173_6 : FldOff prog 173 6 6 := ⟨fun b o w => by kernel_rfl⟩
instance fld_173_7 : FldOff prog 173 7 7 := ⟨fun b o w => by kernel_rfl⟩
instance fld_173_8 : FldOff prog 173 8 8 := ⟨fun b o w => by kernel_rfl⟩
instance fld_173_9 : FldOff prog 173 9 9 := ⟨fun b o w => by kernel_rfl⟩
instance fld_173_10 : FldOff prog 173 10 10 := ⟨fun b o w => by kernel_rfl⟩
instance aggC_174 : AggC prog 174 11 := ⟨fun w => by kernel_rfl, by kernel_rfl⟩
instance zeroC_174 : ZeroC prog 174 (.agg #[(.int .u64 0), (.int .u64 0), (.int .u32 0), (.int .u8 0), (.int .u8 0), (.int .u8 0), (.int .u8 0), .nilFunc, (.pointer none), (.int .i32 0), (.int .i32 0)]) := ⟨by kernel_rfl⟩
instance fld_174_0 : FldOff prog 174 0 0 := ⟨fun b o w => by kernel_rfl⟩
instance fld_174_1 : FldOff prog 174 1 1 := ⟨fun b o w => by kernel_rfl⟩
instance fld_174_2 : FldOff prog 174 2 2 := ⟨fun b o w => by kernel_rfl⟩
instance fld_174_3 : FldOff prog 174 3 3 := ⟨fun b o w => by kernel_rfl⟩
instance fld_174_4 : FldOff prog 174 4 4 := ⟨fun b o w => by kernel_rfl⟩
instance fld_174_5 : FldOff prog 174 5 5 := ⟨fun b o w => by kernel_rfl⟩
instance fld_174_6 : FldOff prog 174 6 6 := ⟨fun b o w => by kernel_rfl⟩
instance fld_174_7 : FldOff prog 174 7 7 := ⟨fun b o w => by kernel_rfl⟩
instance fld_174_8 : FldOff prog 174 8 8 := ⟨fun b o w => by kernel_rfl⟩
instance fld_174_9 : FldOff prog 174 9 9 := ⟨fun b o w => by kernel_rfl⟩
instance fld_174_10 : FldOff prog 174 10 10 := ⟨fun b o w => by kernel_rfl⟩
instance oneC_175 : OneC prog 175 := ⟨fun w => by kernel_rfl, by kernel_rfl⟩
instance zeroC_175 : ZeroC prog 175 (.pointer none) := ⟨by kernel_rfl⟩

end Go.Proofs.YtgkeplodfkmnlaaGreat
