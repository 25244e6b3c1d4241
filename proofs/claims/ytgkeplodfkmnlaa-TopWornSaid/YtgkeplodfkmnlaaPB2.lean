import Derived.Test.YtgkeplodfkmnlaaPI
set_option linter.all false
set_option maxRecDepth 100000
namespace Go.Proofs.Ytgkeplodfkmnlaa
open Go Hold
-- 98 slices.partialInsertionSortOrdered[int]
def T98 : Ann := (.seq .none (.seq .none (.seq (.seq .none (.block (.loop 10889035741470030830827987437816582760384 [7, 8] (.seq (.seq .none (.seq .none .none)) (.meet 10889035741470030830827987437816582637248 [7] (.block (.seq (.block (.loop 34359607424 [7] (.seq (.seq (.draw [.op 0 .pure, .op 1 .pure, .op 2 .pure, .op 3 .pure, .op 4 .pure, .op 5 .pure, .op 6 .pure, .op 8 .pure, .op 9 .pure, .op 10 .pure, .op 11 .pure, .op 7 .load, .op 12 .load, .op 13 .eff, .op 14 .pure, .op 15 .pure]) (.seq .none .none)) (.block .none)))) (.seq (.seq .none (.seq (.seq .none .none) .none)) (.seq (.seq .none (.seq (.seq .none .none) .none)) (.seq (.draw [.op 0 .pure, .op 1 .pure, .op 2 .pure, .op 3 .pure, .op 4 .pure, .op 5 .pure, .op 6 .pure, .op 7 .pure, .op 8 .pure, .op 10 .pure, .op 11 .pure, .op 12 .pure, .op 9 .load, .op 13 .load, .op 14 .pure, .op 15 .eff, .op 16 .pure, .op 17 .eff]) (.meet 39614081256843938420620263936 [] (.seq .none (.seq (.seq .none (.block (.loop 39614081238685424723062424064 [9] (.seq (.seq .none (.seq .none .none)) (.seq (.block (.seq (.seq (.draw [.op 0 .pure, .op 1 .pure, .op 2 .pure, .op 4 .pure, .op 5 .pure, .op 6 .pure, .op 7 .pure, .op 3 .load, .op 8 .load, .op 9 .eff, .op 10 .pure]) (.seq .none .none)) (.draw [.op 0 .pure, .op 1 .pure, .op 2 .pure, .op 3 .pure, .op 4 .pure, .op 5 .pure, .op 6 .pure, .op 7 .pure, .op 8 .pure, .op 10 .pure, .op 11 .pure, .op 12 .pure, .op 9 .load, .op 13 .load, .op 14 .pure, .op 15 .eff, .op 16 .pure, .op 17 .eff]))) .none))))) .none)) (.seq .none (.seq (.seq .none (.block (.loop 10889035738934729630371528634823176356864 [10] (.seq (.seq .none (.seq .none .none)) (.seq (.block (.seq (.seq (.draw [.op 0 .pure, .op 1 .pure, .op 2 .pure, .op 4 .pure, .op 5 .pure, .op 6 .pure, .op 7 .pure, .op 3 .load, .op 8 .load, .op 9 .eff, .op 10 .pure]) (.seq .none .none)) (.draw [.op 0 .pure, .op 1 .pure, .op 2 .pure, .op 3 .pure, .op 4 .pure, .op 5 .pure, .op 6 .pure, .op 7 .pure, .op 8 .pure, .op 10 .pure, .op 11 .pure, .op 12 .pure, .op 9 .load, .op 13 .load, .op 14 .pure, .op 15 .eff, .op 16 .pure, .op 17 .eff]))) .none))))) .none)))))))) .none))))) (.seq .none .none))))
theorem T98_ok : chkFn prog Try.f98 T98 = true := by kernel_rfl
def B98 (data_p0 a_p1 b_p2 : Value) (w : World) (K : Value → World → Prop) : Prop :=
  pvv prog (binOp .add 3 a_p1 (.int .i64 1)) w fun t_0 w =>
  lp (fun σ w again_3 => pop σ fun i_1 σ => pop σ fun j_2 σ => fin σ <|
    pvv prog (binOp .lss 3 j_2 (.int .i64 5)) w fun t_4 w =>
    cd t_4 (
      jn (fun σ w => pop σ fun i_5 σ => fin σ <|
        pvv prog (binOp .add 3 j_2 (.int .i64 1)) w fun t_6 w =>
        again_3 [i_5, t_6] w) fun k_7 =>
      lp (fun σ w again_9 => pop σ fun i_8 σ => fin σ <|
        dr w fun w =>
        pvv prog (binOp .lss 3 i_8 b_p2) w fun t_10 w =>
        gate (some (t_10, true)) (fun K => K data_p0 w) w fun t_11 w =>
        gate (some (t_10, true)) (fun K => K i_8 w) w fun t_12 w =>
        gate (some (t_10, true)) (fun K => pvv prog (Instr.indexAt 29 t_11 t_12) w K) w fun t_13 w =>
        gate (some (t_10, true)) (fun K => K data_p0 w) w fun t_14 w =>
        gate (some (t_10, true)) (fun K => K i_8 w) w fun t_15 w =>
        gate (some (t_10, true)) (fun K => pvv prog (binOp .sub 3 t_15 (.int .i64 1)) w K) w fun t_16 w =>
        gate (some (t_10, true)) (fun K => pvv prog (Instr.indexAt 29 t_14 t_16) w K) w fun t_17 w =>
        bindS (vN (Instr.loadAt 3 t_13)) fun m_19 => gate (some (t_10, true)) (fun K => ldv prog (Instr.loadAt 3 t_13) w K) w fun t_18 w =>
        bindS (vN (Instr.loadAt 3 t_17)) fun m_21 => gate (some (t_10, true)) (fun K => ldv prog (Instr.loadAt 3 t_17) w K) w fun t_20 w =>
        gate (some (t_10, true)) (fun K => Calls prog 99 #[t_18, t_20] w (Ret fun s_106 w => K s_106 w)) w fun t_22 w =>
        gate (some (t_10, true)) (fun K => pvv prog (Op.unary .not t_22) w K) w fun t_23 w =>
        pv prog (oPick t_10 t_23 (.bool false)) w fun t_24 w =>
        cd t_24 (
          pvv prog (binOp .add 3 i_8 (.int .i64 1)) w fun t_25 w =>
          again_9 [t_25] w) <|
        pvv prog (oEq .eql 3 (.tmp 35) (.tmp 36) i_8 b_p2) w fun t_26 w =>
        cd t_26 (
          K (.bool true) w) <|
        pvv prog (binOp .sub 3 b_p2 a_p1) w fun t_27 w =>
        pvv prog (binOp .lss 3 t_27 (.int .i64 50)) w fun t_28 w =>
        cd t_28 (
          K (.bool false) w) <|
        dr w fun w =>
        pvv prog (binOp .sub 3 i_8 (.int .i64 1)) w fun t_29 w =>
        pvv prog (binOp .sub 3 i_8 (.int .i64 1)) w fun t_30 w =>
        pvv prog (Instr.indexAt 29 data_p0 t_30) w fun t_31 w =>
        pvv prog (Instr.indexAt 29 data_p0 i_8) w fun t_32 w =>
        bindS (vN (Instr.loadAt 3 t_31)) fun m_34 => ldv prog (Instr.loadAt 3 t_31) w fun t_33 w =>
        bindS (vN (Instr.loadAt 3 t_32)) fun m_36 => ldv prog (Instr.loadAt 3 t_32) w fun t_35 w =>
        pvv prog (Instr.indexAt 29 data_p0 i_8) w fun t_37 w =>
        efu prog (Instr.storeAt 3 t_37 t_33) w fun u_38 w =>
        pvv prog (Instr.indexAt 29 data_p0 t_29) w fun t_39 w =>
        efu prog (Instr.storeAt 3 t_39 t_35) w fun u_40 w =>
        jn (fun σ w => fin σ <|
          pvv prog (binOp .sub 3 b_p2 i_8) w fun t_41 w =>
          pvv prog (binOp .geq 3 t_41 (.int .i64 2)) w fun t_42 w =>
          cd t_42 (
            pvv prog (binOp .add 3 i_8 (.int .i64 1)) w fun t_43 w =>
            lp (fun σ w again_45 => pop σ fun j_44 σ => fin σ <|
              pvv prog (binOp .lss 3 j_44 b_p2) w fun t_46 w =>
              cd t_46 (
                dr w fun w =>
                pvv prog (Instr.indexAt 29 data_p0 j_44) w fun t_47 w =>
                pvv prog (binOp .sub 3 j_44 (.int .i64 1)) w fun t_48 w =>
                pvv prog (Instr.indexAt 29 data_p0 t_48) w fun t_49 w =>
                bindS (vN (Instr.loadAt 3 t_47)) fun m_51 => ldv prog (Instr.loadAt 3 t_47) w fun t_50 w =>
                bindS (vN (Instr.loadAt 3 t_49)) fun m_53 => ldv prog (Instr.loadAt 3 t_49) w fun t_52 w =>
                Calls prog 99 #[t_50, t_52] w (Ret fun t_54 w =>
                pvv prog (Op.unary .not t_54) w fun t_55 w =>
                cd t_55 (
                  k_7 [i_8] w) <|
                dr w fun w =>
                pvv prog (binOp .sub 3 j_44 (.int .i64 1)) w fun t_56 w =>
                pvv prog (binOp .sub 3 j_44 (.int .i64 1)) w fun t_57 w =>
                pvv prog (Instr.indexAt 29 data_p0 t_57) w fun t_58 w =>
                pvv prog (Instr.indexAt 29 data_p0 j_44) w fun t_59 w =>
                bindS (vN (Instr.loadAt 3 t_58)) fun m_61 => ldv prog (Instr.loadAt 3 t_58) w fun t_60 w =>
                bindS (vN (Instr.loadAt 3 t_59)) fun m_63 => ldv prog (Instr.loadAt 3 t_59) w fun t_62 w =>
                pvv prog (Instr.indexAt 29 data_p0 j_44) w fun t_64 w =>
                efu prog (Instr.storeAt 3 t_64 t_60) w fun u_65 w =>
                pvv prog (Instr.indexAt 29 data_p0 t_56) w fun t_66 w =>
                efu prog (Instr.storeAt 3 t_66 t_62) w fun u_67 w =>
                pvv prog (binOp .add 3 j_44 (.int .i64 1)) w fun t_68 w =>
                again_45 [t_68] w)) <|
              k_7 [i_8] w) [t_43] w) <|
          k_7 [i_8] w) fun k_72 =>
        pvv prog (binOp .sub 3 i_8 a_p1) w fun t_73 w =>
        pvv prog (binOp .geq 3 t_73 (.int .i64 2)) w fun t_74 w =>
        cd t_74 (
          pvv prog (binOp .sub 3 i_8 (.int .i64 1)) w fun t_75 w =>
          lp (fun σ w again_77 => pop σ fun j_76 σ => fin σ <|
            pvv prog (binOp .geq 3 j_76 (.int .i64 1)) w fun t_78 w =>
            cd t_78 (
              dr w fun w =>
              pvv prog (Instr.indexAt 29 data_p0 j_76) w fun t_79 w =>
              pvv prog (binOp .sub 3 j_76 (.int .i64 1)) w fun t_80 w =>
              pvv prog (Instr.indexAt 29 data_p0 t_80) w fun t_81 w =>
              bindS (vN (Instr.loadAt 3 t_79)) fun m_83 => ldv prog (Instr.loadAt 3 t_79) w fun t_82 w =>
              bindS (vN (Instr.loadAt 3 t_81)) fun m_85 => ldv prog (Instr.loadAt 3 t_81) w fun t_84 w =>
              Calls prog 99 #[t_82, t_84] w (Ret fun t_86 w =>
              pvv prog (Op.unary .not t_86) w fun t_87 w =>
              cd t_87 (
                k_72 [] w) <|
              dr w fun w =>
              pvv prog (binOp .sub 3 j_76 (.int .i64 1)) w fun t_88 w =>
              pvv prog (binOp .sub 3 j_76 (.int .i64 1)) w fun t_89 w =>
              pvv prog (Instr.indexAt 29 data_p0 t_89) w fun t_90 w =>
              pvv prog (Instr.indexAt 29 data_p0 j_76) w fun t_91 w =>
              bindS (vN (Instr.loadAt 3 t_90)) fun m_93 => ldv prog (Instr.loadAt 3 t_90) w fun t_92 w =>
              bindS (vN (Instr.loadAt 3 t_91)) fun m_95 => ldv prog (Instr.loadAt 3 t_91) w fun t_94 w =>
              pvv prog (Instr.indexAt 29 data_p0 j_76) w fun t_96 w =>
              efu prog (Instr.storeAt 3 t_96 t_92) w fun u_97 w =>
              pvv prog (Instr.indexAt 29 data_p0 t_88) w fun t_98 w =>
              efu prog (Instr.storeAt 3 t_98 t_94) w fun u_99 w =>
              pvv prog (binOp .sub 3 j_76 (.int .i64 1)) w fun t_100 w =>
              again_77 [t_100] w)) <|
            k_72 [] w) [t_75] w) <|
        k_72 [] w) [i_1] w) <|
    K (.bool false) w) [t_0, (.int .i64 0)] w
theorem B98_eq (data_p0 a_p1 b_p2 : Value) (w : World) (K : Value → World → Prop) : denFn prog Try.f98 T98 [data_p0, a_p1, b_p2] w K = B98 data_p0 a_p1 b_p2 w K := by kernel_rfl
theorem c98 {data_p0 a_p1 b_p2 : Value} {w : World} {K : Value → World → Prop} (h : B98 data_p0 a_p1 b_p2 w K) : Calls prog 98 #[data_p0, a_p1, b_p2] w (Ret K) :=
  denFn_calls Try.func98 T98_ok (Eq.mpr (B98_eq data_p0 a_p1 b_p2 w K) h)

-- 29 holdfast/holdfastref03.Open
def T29 : Ann := (.seq .none (.seq (.seq .none (.seq (.seq .none .none) .none)) (.seq (.seq .none (.seq (.seq .none .none) .none)) (.seq .none (.seq .none (.seq .none (.seq (.seq .none (.seq (.seq .none .none) .none)) (.seq (.seq .none (.seq (.seq .none .none) .none)) (.seq (.seq .none (.block (.loop 604460603964305373660160 [10] (.seq (.seq .none (.seq .none .none)) (.seq (.block (.draw [.op 0 .pure, .op 1 .pure, .op 2 .pure, .op 3 .pure, .op 6 .pure, .op 7 .pure, .op 8 .pure, .op 4 .load, .op 5 .pure, .op 9 .load, .op 10 .pure, .op 11 .pure, .op 12 .pure, .op 13 .pure, .op 14 .eff])) .none))))) (.seq .none (.seq (.seq .none (.seq (.seq .none .none) .none)) (.seq (.seq .none (.block (.loop 10384592479129615971680717759330352 [11] (.seq (.seq .none (.seq .none .none)) (.block (.seq .none (.seq (.seq .none (.seq (.seq .none .none) .none)) .none))))))) (.seq .none .none)))))))))))))
theorem T29_ok : chkFn prog Try.f29 T29 = true := by kernel_rfl
def B29 (d_p0 size_p1 : Value) (w : World) (K : Value → World → Prop) : Prop :=
  pvv prog (oEq .eql 58 (.tmp 14) (.const (.pointer none)) d_p0 (.pointer none)) w fun t_0 w =>
  cd t_0 (
    K (.tuple #[(.pointer none), (.int .i64 1)]) w) <|
  pvv prog (binOp .lss 3 size_p1 (.int .i64 2)) w fun t_1 w =>
  gate (some (t_1, false)) (fun K => K size_p1 w) w fun t_2 w =>
  gate (some (t_1, false)) (fun K => K d_p0 w) w fun t_3 w =>
  gate (some (t_1, false)) (fun K => Calls prog 56 #[t_3] w (Ret K)) w fun t_4 w =>
  gate (some (t_1, false)) (fun K => pvv prog (binOp .sub 3 t_4 (.int .i64 2)) w K) w fun t_5 w =>
  gate (some (t_1, false)) (fun K => pvv prog (binOp .gtr 3 t_2 t_5) w K) w fun t_6 w =>
  pv prog (oPick t_1 (.bool true) t_6) w fun t_7 w =>
  cd t_7 (
    K (.tuple #[(.pointer none), (.int .i64 2)]) w) <|
  Calls prog 58 #[d_p0] w (Ret fun t_8 w =>
  Calls prog 57 #[t_8] w (Ret fun t_9 w =>
  pvv prog (Instr.extract t_9 0) w fun t_10 w =>
  pvv prog (Instr.extract t_9 1) w fun t_11 w =>
  pvv prog (Instr.build 105 #[(0, t_10), (1, size_p1)]) w fun t_12 w =>
  efv prog (Instr.box 105 t_12) w fun t_13 w =>
  Calls prog 59 #[t_13, (.int .i64 0)] w (Ret fun t_14 w =>
  Calls prog 60 #[t_14, (.int .i64 0)] w (Ret fun t_15 w =>
  cd t_15 (
    K (.tuple #[t_13, (.int .i64 0)]) w) <|
  pvv prog (Instr.indexAt 33 t_14 (.int .i64 0)) w fun t_16 w =>
  ldv prog (Instr.loadAt 5 t_16) w fun t_17 w =>
  pvv prog (oEq .neq 5 (.tmp 42) (.const (.int .u8 72)) t_17 (.int .u8 72)) w fun t_18 w =>
  gate (some (t_18, false)) (fun K => K t_14 w) w fun t_19 w =>
  gate (some (t_18, false)) (fun K => pvv prog (Instr.indexAt 33 t_19 (.int .i64 1)) w K) w fun t_20 w =>
  gate (some (t_18, false)) (fun K => ldv prog (Instr.loadAt 5 t_20) w K) w fun t_21 w =>
  gate (some (t_18, false)) (fun K => pvv prog (oEq .neq 5 (.tmp 47) (.const (.int .u8 70)) t_21 (.int .u8 70)) w K) w fun t_22 w =>
  pv prog (oPick t_18 (.bool true) t_22) w fun t_23 w =>
  gate (some (t_23, false)) (fun K => K t_14 w) w fun t_24 w =>
  gate (some (t_23, false)) (fun K => pvv prog (Instr.indexAt 33 t_24 (.int .i64 2)) w K) w fun t_25 w =>
  gate (some (t_23, false)) (fun K => ldv prog (Instr.loadAt 5 t_25) w K) w fun t_26 w =>
  gate (some (t_23, false)) (fun K => pvv prog (binOp .geq 5 t_26 (.int .u8 128)) w K) w fun t_27 w =>
  pv prog (oPick t_23 (.bool true) t_27) w fun t_28 w =>
  gate (some (t_28, false)) (fun K => K t_14 w) w fun t_29 w =>
  gate (some (t_28, false)) (fun K => Calls prog 60 #[t_29, (.int .i64 12)] w (Ret K)) w fun t_30 w =>
  gate (some (t_28, false)) (fun K => pvv prog (Op.unary .not t_30) w K) w fun t_31 w =>
  pv prog (oPick t_28 (.bool true) t_31) w fun t_32 w =>
  cd t_32 (
    K (.tuple #[(.pointer none), (.int .i64 15)]) w) <|
  lp (fun σ w again_34 => pop σ fun i_33 σ => fin σ <|
    pvv prog (binOp .lss 3 i_33 (.int .i64 10)) w fun t_35 w =>
    cd t_35 (
      dr w fun w =>
      pv prog (oNil t_13) w fun t_36 w =>
      pvv prog (Instr.fieldAt 105 t_36 2) w fun t_37 w =>
      pvv prog (Instr.indexAt 33 t_14 i_33) w fun t_38 w =>
      bindS (vN (Instr.loadAt 3 t_37)) fun m_40 => ldv prog (Instr.loadAt 3 t_37) w fun t_39 w =>
      pvv prog (binOp .shl 3 t_39 (.int .u64 8)) w fun t_41 w =>
      bindS (vN (Instr.loadAt 5 t_38)) fun m_43 => ldv prog (Instr.loadAt 5 t_38) w fun t_42 w =>
      pvv prog (convert 5 3 t_42) w fun t_44 w =>
      pvv prog (binOp .or 3 t_41 t_44) w fun t_45 w =>
      pv prog (oNil t_13) w fun t_46 w =>
      pvv prog (Instr.fieldAt 105 t_46 2) w fun t_47 w =>
      efu prog (Instr.storeAt 3 t_47 t_45) w fun u_48 w =>
      pvv prog (binOp .add 3 i_33 (.int .i64 1)) w fun t_49 w =>
      again_34 [t_49] w) <|
    Calls prog 61 #[t_14, (.int .i64 10)] w (Ret fun t_51 w =>
    pv prog (oNil t_13) w fun t_52 w =>
    pvv prog (Instr.fieldAt 105 t_52 3) w fun t_53 w =>
    efu prog (Instr.storeAt 3 t_53 t_51) w fun u_54 w =>
    pv prog (oNil t_13) w fun t_55 w =>
    pvv prog (Instr.fieldAt 105 t_55 3) w fun t_56 w =>
    ldv prog (Instr.loadAt 3 t_56) w fun t_57 w =>
    pvv prog (binOp .gtr 3 t_57 size_p1) w fun t_58 w =>
    cd t_58 (
      K (.tuple #[(.pointer none), (.int .i64 15)]) w) <|
    lp (fun σ w again_60 => pop σ fun n_59 σ => fin σ <|
      pv prog (oNil t_13) w fun t_61 w =>
      pvv prog (Instr.fieldAt 105 t_61 3) w fun t_62 w =>
      ldv prog (Instr.loadAt 3 t_62) w fun t_63 w =>
      pvv prog (binOp .leq 3 n_59 t_63) w fun t_64 w =>
      cd t_64 (
        pv prog (oNil t_13) w fun t_65 w =>
        pvv prog (Instr.fieldAt 105 t_65 3) w fun t_66 w =>
        ldv prog (Instr.loadAt 3 t_66) w fun t_67 w =>
        Calls prog 62 #[t_13, n_59, t_67] w (Ret fun t_68 w =>
        pvv prog (Instr.extract t_68 0) w fun t_69 w =>
        pvv prog (Instr.extract t_68 1) w fun t_70 w =>
        pvv prog (Op.unary .not t_70) w fun t_71 w =>
        cd t_71 (
          K (.tuple #[(.pointer none), (.int .i64 15)]) w) <|
        pv prog (oBi .len #[29] 3 #[false] #[t_69]) w fun t_72 w =>
        pvv prog (binOp .add 3 (.int .i64 1) t_72) w fun t_73 w =>
        pvv prog (binOp .add 3 n_59 t_73) w fun t_74 w =>
        again_60 [t_74] w)) <|
      K (.tuple #[t_13, (.int .i64 0)]) w) [(.int .i64 1)] w)) [(.int .i64 2)] w))))
theorem B29_eq (d_p0 size_p1 : Value) (w : World) (K : Value → World → Prop) : denFn prog Try.f29 T29 [d_p0, size_p1] w K = B29 d_p0 size_p1 w K := by kernel_rfl
theorem c29 {d_p0 size_p1 : Value} {w : World} {K : Value → World → Prop} (h : B29 d_p0 size_p1 w K) : Calls prog 29 #[d_p0, size_p1] w (Ret K) :=
  denFn_calls Try.func29 T29_ok (Eq.mpr (B29_eq d_p0 size_p1 w K) h)

-- 104 slices.siftDownOrdered[int]
def T104 : Ann := (.seq .none (.block (.loop 75557863725914323417856 [8] (.block (.seq .none (.seq (.seq .none (.seq .none .none)) (.meet 549755683328 [9] (.seq (.draw [.op 0 .pure, .op 1 .pure, .op 2 .pure, .op 3 .pure, .op 4 .pure, .op 5 .pure, .op 6 .pure, .op 7 .pure, .op 8 .pure, .op 9 .pure, .op 11 .pure, .op 12 .pure, .op 13 .pure, .op 14 .pure, .op 15 .pure, .op 16 .pure, .op 10 .load, .op 17 .load, .op 18 .eff, .op 19 .pure]) (.seq .none .none)) (.seq (.seq (.draw [.op 0 .pure, .op 1 .pure, .op 2 .pure, .op 3 .pure, .op 4 .pure, .op 6 .pure, .op 7 .pure, .op 8 .pure, .op 9 .pure, .op 10 .pure, .op 5 .load, .op 11 .load, .op 12 .eff, .op 13 .pure]) (.seq .none .none)) (.seq (.draw [.op 0 .pure, .op 1 .pure, .op 2 .pure, .op 3 .pure, .op 4 .pure, .op 5 .pure, .op 6 .pure, .op 7 .pure, .op 8 .pure, .op 9 .pure, .op 10 .pure, .op 11 .pure, .op 12 .pure, .op 14 .pure, .op 15 .pure, .op 16 .pure, .op 17 .pure, .op 18 .pure, .op 13 .load, .op 19 .load, .op 20 .pure, .op 21 .eff, .op 22 .pure, .op 23 .eff]) .none)))))))))
theorem T104_ok : chkFn prog Try.f104 T104 = true := by kernel_rfl
def B104 (data_p0 lo_p1 hi_p2 first_p3 : Value) (w : World) (K : Value → World → Prop) : Prop :=
  lp (fun σ w again_1 => pop σ fun root_0 σ => fin σ <|
    pvv prog (binOp .mul 3 (.int .i64 2) root_0) w fun t_2 w =>
    pvv prog (binOp .add 3 t_2 (.int .i64 1)) w fun t_3 w =>
    pvv prog (binOp .geq 3 t_3 hi_p2) w fun t_4 w =>
    cd t_4 (
      K (.tuple #[]) w) <|
    jn (fun σ w => pop σ fun child_5 σ => fin σ <|
      dr w fun w =>
      pvv prog (binOp .add 3 first_p3 root_0) w fun t_6 w =>
      pvv prog (Instr.indexAt 29 data_p0 t_6) w fun t_7 w =>
      pvv prog (binOp .add 3 first_p3 child_5) w fun t_8 w =>
      pvv prog (Instr.indexAt 29 data_p0 t_8) w fun t_9 w =>
      bindS (vN (Instr.loadAt 3 t_7)) fun m_11 => ldv prog (Instr.loadAt 3 t_7) w fun t_10 w =>
      bindS (vN (Instr.loadAt 3 t_9)) fun m_13 => ldv prog (Instr.loadAt 3 t_9) w fun t_12 w =>
      Calls prog 99 #[t_10, t_12] w (Ret fun t_14 w =>
      pvv prog (Op.unary .not t_14) w fun t_15 w =>
      cd t_15 (
        K (.tuple #[]) w) <|
      dr w fun w =>
      pvv prog (binOp .add 3 first_p3 root_0) w fun t_16 w =>
      pvv prog (binOp .add 3 first_p3 child_5) w fun t_17 w =>
      pvv prog (binOp .add 3 first_p3 child_5) w fun t_18 w =>
      pvv prog (Instr.indexAt 29 data_p0 t_18) w fun t_19 w =>
      pvv prog (binOp .add 3 first_p3 root_0) w fun t_20 w =>
      pvv prog (Instr.indexAt 29 data_p0 t_20) w fun t_21 w =>
      bindS (vN (Instr.loadAt 3 t_19)) fun m_23 => ldv prog (Instr.loadAt 3 t_19) w fun t_22 w =>
      bindS (vN (Instr.loadAt 3 t_21)) fun m_25 => ldv prog (Instr.loadAt 3 t_21) w fun t_24 w =>
      pvv prog (Instr.indexAt 29 data_p0 t_16) w fun t_26 w =>
      efu prog (Instr.storeAt 3 t_26 t_22) w fun u_27 w =>
      pvv prog (Instr.indexAt 29 data_p0 t_17) w fun t_28 w =>
      efu prog (Instr.storeAt 3 t_28 t_24) w fun u_29 w =>
      again_1 [child_5] w)) fun k_33 =>
    dr w fun w =>
    pvv prog (binOp .add 3 t_3 (.int .i64 1)) w fun t_34 w =>
    pvv prog (binOp .lss 3 t_34 hi_p2) w fun t_35 w =>
    gate (some (t_35, true)) (fun K => K data_p0 w) w fun t_36 w =>
    gate (some (t_35, true)) (fun K => K first_p3 w) w fun t_37 w =>
    gate (some (t_35, true)) (fun K => K t_3 w) w fun t_38 w =>
    gate (some (t_35, true)) (fun K => pvv prog (binOp .add 3 t_37 t_38) w K) w fun t_39 w =>
    gate (some (t_35, true)) (fun K => pvv prog (Instr.indexAt 29 t_36 t_39) w K) w fun t_40 w =>
    gate (some (t_35, true)) (fun K => K data_p0 w) w fun t_41 w =>
    gate (some (t_35, true)) (fun K => K first_p3 w) w fun t_42 w =>
    gate (some (t_35, true)) (fun K => K t_3 w) w fun t_43 w =>
    gate (some (t_35, true)) (fun K => pvv prog (binOp .add 3 t_42 t_43) w K) w fun t_44 w =>
    gate (some (t_35, true)) (fun K => pvv prog (binOp .add 3 t_44 (.int .i64 1)) w K) w fun t_45 w =>
    gate (some (t_35, true)) (fun K => pvv prog (Instr.indexAt 29 t_41 t_45) w K) w fun t_46 w =>
    bindS (vN (Instr.loadAt 3 t_40)) fun m_48 => gate (some (t_35, true)) (fun K => ldv prog (Instr.loadAt 3 t_40) w K) w fun t_47 w =>
    bindS (vN (Instr.loadAt 3 t_46)) fun m_50 => gate (some (t_35, true)) (fun K => ldv prog (Instr.loadAt 3 t_46) w K) w fun t_49 w =>
    gate (some (t_35, true)) (fun K => Calls prog 99 #[t_47, t_49] w (Ret fun s_54 w => K s_54 w)) w fun t_51 w =>
    pv prog (oPick t_35 t_51 (.bool false)) w fun t_52 w =>
    cd t_52 (
      pvv prog (binOp .add 3 t_3 (.int .i64 1)) w fun t_53 w =>
      k_33 [t_53] w) <|
    k_33 [t_3] w) [lo_p1] w
theorem B104_eq (data_p0 lo_p1 hi_p2 first_p3 : Value) (w : World) (K : Value → World → Prop) : denFn prog Try.f104 T104 [data_p0, lo_p1, hi_p2, first_p3] w K = B104 data_p0 lo_p1 hi_p2 first_p3 w K := by kernel_rfl
theorem c104 {data_p0 lo_p1 hi_p2 first_p3 : Value} {w : World} {K : Value → World → Prop} (h : B104 data_p0 lo_p1 hi_p2 first_p3 w K) : Calls prog 104 #[data_p0, lo_p1, hi_p2, first_p3] w (Ret K) :=
  denFn_calls Try.func104 T104_ok (Eq.mpr (B104_eq data_p0 lo_p1 hi_p2 first_p3 w K) h)

-- 3 holdfast/holdfastlaw03.WalOrder
def T3 : Ann := (.seq .none (.seq .none (.seq .none (.seq .none (.seq (.seq .none (.seq (.seq .none .none) .none)) (.seq (.seq .none (.block (.loop 4835703278388147954708496 [12] (.seq (.seq .none (.seq .none .none)) (.seq (.block (.seq .none (.seq .none (.seq (.seq .none (.block (.loop 37760485118883452207104 [14, 15] (.seq (.seq .none (.seq .none .none)) (.seq (.block .none) .none))))) (.seq .none (.seq (.seq .none .none) .none)))))) .none))))) (.seq .none .none)))))))
theorem T3_ok : chkFn prog Try.f3 T3 = true := by kernel_rfl
def B3 (size_p0 l_p1 : Value) (w : World) (K : Value → World → Prop) : Prop :=
  pvv prog (convert 5 3 size_p0) w fun t_0 w =>
  pvv prog (binOp .rem 3 t_0 (.int .i64 20)) w fun t_1 w =>
  pvv prog (binOp .add 3 t_1 (.int .i64 2)) w fun t_2 w =>
  pvv prog (binOp .add 3 t_2 (.int .i64 10)) w fun t_3 w =>
  Calls prog 7 #[t_3, t_2] w (Ret fun t_4 w =>
  pvv prog (Instr.extract t_4 0) w fun t_5 w =>
  pvv prog (Instr.extract t_4 1) w fun t_6 w =>
  pvv prog (Instr.extract t_4 2) w fun t_7 w =>
  pvv prog (binOp .add 3 t_2 (.int .i64 10)) w fun t_8 w =>
  Calls prog 7 #[t_8, t_2] w (Ret fun t_9 w =>
  pvv prog (Instr.extract t_9 0) w fun t_10 w =>
  pvv prog (Instr.extract t_9 1) w fun t_11 w =>
  pvv prog (Instr.extract t_9 2) w fun t_12 w =>
  Calls prog 8 #[] w (Ret fun t_13 w =>
  pvv prog (Op.unary .not t_13) w fun t_14 w =>
  gate (some (t_14, false)) (fun K => K t_7 w) w fun t_15 w =>
  gate (some (t_14, false)) (fun K => pvv prog (Op.unary .not t_15) w K) w fun t_16 w =>
  pv prog (oPick t_14 (.bool true) t_16) w fun t_17 w =>
  gate (some (t_17, false)) (fun K => K t_12 w) w fun t_18 w =>
  gate (some (t_17, false)) (fun K => pvv prog (Op.unary .not t_18) w K) w fun t_19 w =>
  pv prog (oPick t_17 (.bool true) t_19) w fun t_20 w =>
  cd t_20 (
    K (.bool false) w) <|
  lp (fun σ w again_22 => pop σ fun i_21 σ => fin σ <|
    pv prog (oBi .len #[22] 3 #[false] #[l_p1]) w fun t_23 w =>
    pvv prog (binOp .lss 3 i_21 t_23) w fun t_24 w =>
    gate (some (t_24, true)) (fun K => K i_21 w) w fun t_25 w =>
    gate (some (t_24, true)) (fun K => pvv prog (binOp .lss 3 t_25 (.int .i64 20)) w K) w fun t_26 w =>
    pv prog (oPick t_24 t_26 (.bool false)) w fun t_27 w =>
    cd t_27 (
      pvv prog (Instr.indexAt 22 l_p1 i_21) w fun t_28 w =>
      ldv prog (Instr.loadAt 31 t_28) w fun t_29 w =>
      Calls prog 9 #[t_29] w (Ret fun t_30 w =>
      pv prog (oBi .len #[28] 3 #[false] #[t_30]) w fun t_31 w =>
      pvv prog (binOp .sub 3 t_31 (.int .i64 1)) w fun t_32 w =>
      lp (fun σ w again_35 => pop σ fun q_33 σ => pop σ fun k_34 σ => fin σ <|
        pvv prog (binOp .geq 3 k_34 (.int .i64 0)) w fun t_36 w =>
        cd t_36 (
          pvv prog (Instr.indexAt 28 t_30 k_34) w fun t_37 w =>
          ldv prog (Instr.loadAt 35 t_37) w fun t_38 w =>
          efv prog (Instr.buildSlice 28 1 #[(0, t_38)]) w fun t_39 w =>
          ef prog (oBi .append #[28, 28] 28 #[false, false] #[q_33, t_39]) w fun t_40 w =>
          pvv prog (binOp .sub 3 k_34 (.int .i64 1)) w fun t_41 w =>
          again_35 [t_40, t_41] w) <|
        Calls prog 10 #[t_5, t_30] w (Ret fun t_42 w =>
        Calls prog 10 #[t_10, q_33] w (Ret fun t_43 w =>
        pvv prog (oEq .neq 36 (.tmp 77) (.tmp 80) t_42 t_43) w fun t_44 w =>
        cd t_44 (
          K (.bool false) w) <|
        pvv prog (binOp .add 3 i_21 (.int .i64 1)) w fun t_45 w =>
        again_22 [t_45] w))) [(.slice none 0 0), t_32] w)) <|
    Calls prog 12 #[t_5] w (Ret fun t_46 w =>
    Calls prog 12 #[t_10] w (Ret fun t_47 w =>
    Calls prog 11 #[t_46, t_47] w (Ret fun t_48 w =>
    K t_48 w)))) [(.int .i64 0)] w)))
theorem B3_eq (size_p0 l_p1 : Value) (w : World) (K : Value → World → Prop) : denFn prog Try.f3 T3 [size_p0, l_p1] w K = B3 size_p0 l_p1 w K := by kernel_rfl
theorem c3 {size_p0 l_p1 : Value} {w : World} {K : Value → World → Prop} (h : B3 size_p0 l_p1 w K) : Calls prog 3 #[size_p0, l_p1] w (Ret K) :=
  denFn_calls Try.func3 T3_ok (Eq.mpr (B3_eq size_p0 l_p1 w K) h)

-- 8 holdfast/holdfastlaw03.live
def T8 : Ann := (.seq .none (.seq .none (.seq .none (.seq .none (.seq .none (.seq .none (.seq .none .none)))))))
theorem T8_ok : chkFn prog Try.f8 T8 = true := by kernel_rfl
def B8 (w : World) (K : Value → World → Prop) : Prop :=
  Calls prog 24 #[(.int .i64 8)] w (Ret fun t_0 w =>
  pvv prog (Instr.extract t_0 0) w fun t_1 w =>
  pvv prog (Instr.extract t_0 1) w fun t_2 w =>
  Calls prog 16 #[t_1, (.int .i64 3)] w (Ret fun t_3 w =>
  pvv prog (Instr.extract t_3 0) w fun t_4 w =>
  pvv prog (Instr.extract t_3 1) w fun t_5 w =>
  efv prog (Instr.buildSlice 29 2 #[(0, (.int .i64 2)), (1, (.int .i64 0))]) w fun t_6 w =>
  pvv prog (Instr.build 31 #[(2, t_6), (3, (.int .u8 5))]) w fun t_7 w =>
  Calls prog 9 #[t_7] w (Ret fun t_8 w =>
  Calls prog 10 #[t_4, t_8] w (Ret fun t_9 w =>
  Calls prog 12 #[t_4] w (Ret fun t_10 w =>
  Calls prog 30 #[t_10] w (Ret fun t_11 w =>
  Calls prog 17 #[t_4, (.int .i64 0)] w (Ret fun t_12 w =>
  pvv prog (Instr.extract t_12 0) w fun t_13 w =>
  pvv prog (Instr.extract t_12 1) w fun t_14 w =>
  pvv prog (oEq .eql 36 (.tmp 31) (.const (.int .i64 0)) t_5 (.int .i64 0)) w fun t_15 w =>
  gate (some (t_15, true)) (fun K => K t_9 w) w fun t_16 w =>
  gate (some (t_15, true)) (fun K => pvv prog (oEq .eql 36 (.tmp 34) (.const (.int .i64 0)) t_16 (.int .i64 0)) w K) w fun t_17 w =>
  pv prog (oPick t_15 t_17 (.bool false)) w fun t_18 w =>
  gate (some (t_18, true)) (fun K => K t_14 w) w fun t_19 w =>
  gate (some (t_18, true)) (fun K => pvv prog (oEq .eql 36 (.tmp 38) (.const (.int .i64 0)) t_19 (.int .i64 0)) w K) w fun t_20 w =>
  pv prog (oPick t_18 t_20 (.bool false)) w fun t_21 w =>
  gate (some (t_21, true)) (fun K => K t_11 w) w fun t_22 w =>
  gate (some (t_21, true)) (fun K => efv prog (Instr.buildSlice 29 4 #[(0, (.int .i64 1)), (1, (.int .i64 2)), (2, (.int .i64 3)), (3, (.int .i64 0))]) w K) w fun t_23 w =>
  gate (some (t_21, true)) (fun K => Calls prog 31 #[t_22, t_23] w (Ret K)) w fun t_24 w =>
  pv prog (oPick t_21 t_24 (.bool false)) w fun t_25 w =>
  gate (some (t_25, true)) (fun K => K t_13 w) w fun t_26 w =>
  gate (some (t_25, true)) (fun K => pv prog (oBi .len #[33] 3 #[false] #[t_26]) w K) w fun t_27 w =>
  gate (some (t_25, true)) (fun K => pvv prog (oEq .eql 3 (.tmp 48) (.const (.int .i64 256)) t_27 (.int .i64 256)) w K) w fun t_28 w =>
  pv prog (oPick t_25 t_28 (.bool false)) w fun t_29 w =>
  gate (some (t_29, true)) (fun K => K t_13 w) w fun t_30 w =>
  gate (some (t_29, true)) (fun K => pvv prog (Instr.indexAt 33 t_30 (.int .i64 0)) w K) w fun t_31 w =>
  gate (some (t_29, true)) (fun K => ldv prog (Instr.loadAt 5 t_31) w K) w fun t_32 w =>
  gate (some (t_29, true)) (fun K => pvv prog (oEq .eql 5 (.tmp 54) (.const (.int .u8 6)) t_32 (.int .u8 6)) w K) w fun t_33 w =>
  pv prog (oPick t_29 t_33 (.bool false)) w fun t_34 w =>
  gate (some (t_34, true)) (fun K => K t_4 w) w fun t_35 w =>
  gate (some (t_34, true)) (fun K => Calls prog 19 #[t_35] w (Ret K)) w fun t_36 w =>
  gate (some (t_34, true)) (fun K => pvv prog (oEq .eql 3 (.tmp 59) (.const (.int .i64 3)) t_36 (.int .i64 3)) w K) w fun t_37 w =>
  pv prog (oPick t_34 t_37 (.bool false)) w fun t_38 w =>
  gate (some (t_38, true)) (fun K => Calls prog 22 #[(.int .i64 2)] w (Ret K)) w fun t_39 w =>
  gate (some (t_38, true)) (fun K => pvv prog (oEq .eql 3 (.tmp 63) (.const (.int .i64 3)) t_39 (.int .i64 3)) w K) w fun t_40 w =>
  pv prog (oPick t_38 t_40 (.bool false)) w fun t_41 w =>
  K t_41 w)))))))
theorem B8_eq (w : World) (K : Value → World → Prop) : denFn prog Try.f8 T8 [] w K = B8  w K := by kernel_rfl
theorem c8 {w : World} {K : Value → World → Prop} (h : B8  w K) : Calls prog 8 #[] w (Ret K) :=
  denFn_calls Try.func8 T8_ok (Eq.mpr (B8_eq  w K) h)

-- 27 (*holdfast/pager.Pager).Commit
def T27 : Ann := (.seq .none (.seq (.seq .none (.seq (.seq .none .none) .none)) (.seq .none (.seq (.seq .none (.block (.loop 33538104 [3] (.seq .none (.seq (.seq .none .none) (.block (.seq .none .none))))))) (.seq .none (.meet 17590038560832 [6] (.seq .none (.seq (.seq .none .none) .none)) (.meet 1108307720798208 [] (.seq .none (.seq .none .none)) (.seq .none .none))))))))
theorem T27_ok : chkFn prog Try.f27 T27 = true := by kernel_rfl
def B27 (p_p0 : Value) (w : World) (K : Value → World → Prop) : Prop :=
  pvv prog (oEq .eql 53 (.tmp 7) (.const (.pointer none)) p_p0 (.pointer none)) w fun t_0 w =>
  cd t_0 (
    K (.int .i64 1) w) <|
  pv prog (oNil p_p0) w fun t_1 w =>
  pvv prog (Instr.fieldAt 95 t_1 2) w fun t_2 w =>
  ldv prog (Instr.loadAt 66 t_2) w fun t_3 w =>
  efv prog (Instr.range 66 t_3) w fun t_4 w =>
  lp (fun σ w again_6 => pop σ fun l_5 σ => fin σ <|
    efv prog (Instr.next t_4 false 0) w fun t_7 w =>
    pvv prog (Instr.extract t_7 0) w fun t_8 w =>
    cd t_8 (
      efv prog (Instr.entry t_4) w fun t_9 w =>
      pvv prog (Instr.extract t_9 0) w fun t_10 w =>
      pvv prog (Instr.extract t_9 1) w fun t_11 w =>
      pvv prog (Instr.build 35 #[(0, t_10), (1, t_11)]) w fun t_12 w =>
      efv prog (Instr.buildSlice 28 1 #[(0, t_12)]) w fun t_13 w =>
      ef prog (oBi .append #[28, 28] 28 #[false, false] #[l_5, t_13]) w fun t_14 w =>
      again_6 [t_14] w) <|
    pv prog (oNil p_p0) w fun t_15 w =>
    pvv prog (Instr.fieldAt 95 t_15 0) w fun t_16 w =>
    ldv prog (Instr.loadAt 23 t_16) w fun t_17 w =>
    Calls prog 10 #[t_17, l_5] w (Ret fun t_18 w =>
    jn (fun σ w => pop σ fun e_19 σ => fin σ <|
      jn (fun σ w => fin σ <|
        K e_19 w) fun k_20 =>
      pvv prog (oEq .eql 36 (.tmp 44) (.const (.int .i64 0)) e_19 (.int .i64 0)) w fun t_21 w =>
      cd t_21 (
        pv prog (oNil p_p0) w fun t_22 w =>
        pvv prog (Instr.fieldAt 95 t_22 2) w fun t_23 w =>
        ldv prog (Instr.loadAt 66 t_23) w fun t_24 w =>
        ef prog (oBi .clear #[66] 0 #[false] #[t_24]) w fun u_25 w =>
        k_20 [] w) <|
      k_20 [] w) fun k_26 =>
    pvv prog (oEq .eql 36 (.tmp 31) (.const (.int .i64 7)) t_18 (.int .i64 7)) w fun t_27 w =>
    cd t_27 (
      pv prog (oNil p_p0) w fun t_28 w =>
      pvv prog (Instr.fieldAt 95 t_28 0) w fun t_29 w =>
      ldv prog (Instr.loadAt 23 t_29) w fun t_30 w =>
      Calls prog 15 #[t_30] w (Ret fun t_31 w =>
      pv prog (oNil p_p0) w fun t_32 w =>
      pvv prog (Instr.fieldAt 95 t_32 0) w fun t_33 w =>
      ldv prog (Instr.loadAt 23 t_33) w fun t_34 w =>
      Calls prog 10 #[t_34, l_5] w (Ret fun t_35 w =>
      k_26 [t_35] w))) <|
    k_26 [t_18] w)) [(.slice none 0 0)] w
theorem B27_eq (p_p0 : Value) (w : World) (K : Value → World → Prop) : denFn prog Try.f27 T27 [p_p0] w K = B27 p_p0 w K := by kernel_rfl
theorem c27 {p_p0 : Value} {w : World} {K : Value → World → Prop} (h : B27 p_p0 w K) : Calls prog 27 #[p_p0] w (Ret K) :=
  denFn_calls Try.func27 T27_ok (Eq.mpr (B27_eq p_p0 w K) h)

-- 103 math/bits.Len64
def T103 : Ann := (.seq .none (.meet 125 [0, 2] (.seq .none (.seq (.seq .none .none) .none)) (.meet 8069 [0, 2] (.seq .none (.seq (.seq .none .none) .none)) (.meet 516101 [0, 2] (.seq .none (.seq (.seq .none .none) .none)) (.seq .none .none)))))
theorem T103_ok : chkFn prog Try.f103 T103 = true := by kernel_rfl
def B103 (x_p0 : Value) (w : World) (K : Value → World → Prop) : Prop :=
  jn (fun σ w => pop σ fun x_0 σ => pop σ fun n_1 σ => fin σ <|
    jn (fun σ w => pop σ fun x_2 σ => pop σ fun n_3 σ => fin σ <|
      jn (fun σ w => pop σ fun x_4 σ => pop σ fun n_5 σ => fin σ <|
        pvv prog (convert 150 5 x_4) w fun t_6 w =>
        pvv prog (Instr.index 9 (.string ⟨#[0, 1, 2, 2, 3, 3, 3, 3, 4, 4, 4, 4, 4, 4, 4, 4, 5, 5, 5, 5, 5, 5, 5, 5, 5, 5, 5, 5, 5, 5, 5, 5, 6, 6, 6, 6, 6, 6, 6, 6, 6, 6, 6, 6, 6, 6, 6, 6, 6, 6, 6, 6, 6, 6, 6, 6, 6, 6, 6, 6, 6, 6, 6, 6, 7, 7, 7, 7, 7, 7, 7, 7, 7, 7, 7, 7, 7, 7, 7, 7, 7, 7, 7, 7, 7, 7, 7, 7, 7, 7, 7, 7, 7, 7, 7, 7, 7, 7, 7, 7, 7, 7, 7, 7, 7, 7, 7, 7, 7, 7, 7, 7, 7, 7, 7, 7, 7, 7, 7, 7, 7, 7, 7, 7, 7, 7, 7, 7, 8, 8, 8, 8, 8, 8, 8, 8, 8, 8, 8, 8, 8, 8, 8, 8, 8, 8, 8, 8, 8, 8, 8, 8, 8, 8, 8, 8, 8, 8, 8, 8, 8, 8, 8, 8, 8, 8, 8, 8, 8, 8, 8, 8, 8, 8, 8, 8, 8, 8, 8, 8, 8, 8, 8, 8, 8, 8, 8, 8, 8, 8, 8, 8, 8, 8, 8, 8, 8, 8, 8, 8, 8, 8, 8, 8, 8, 8, 8, 8, 8, 8, 8, 8, 8, 8, 8, 8, 8, 8, 8, 8, 8, 8, 8, 8, 8, 8, 8, 8, 8, 8, 8, 8, 8, 8, 8, 8, 8, 8, 8, 8, 8, 8, 8, 8, 8, 8, 8, 8, 8, 8, 8, 8, 8, 8, 8, 8]⟩) t_6) w fun t_7 w =>
        pvv prog (convert 5 3 t_7) w fun t_8 w =>
        pvv prog (binOp .add 3 n_5 t_8) w fun t_9 w =>
        K t_9 w) fun k_10 =>
      pvv prog (binOp .geq 150 x_2 (.int .u64 256)) w fun t_11 w =>
      cd t_11 (
        pvv prog (binOp .shr 150 x_2 (.int .u64 8)) w fun t_12 w =>
        pvv prog (binOp .add 3 n_3 (.int .i64 8)) w fun t_13 w =>
        k_10 [t_12, t_13] w) <|
      k_10 [x_2, n_3] w) fun k_14 =>
    pvv prog (binOp .geq 150 x_0 (.int .u64 65536)) w fun t_15 w =>
    cd t_15 (
      pvv prog (binOp .shr 150 x_0 (.int .u64 16)) w fun t_16 w =>
      pvv prog (binOp .add 3 n_1 (.int .i64 16)) w fun t_17 w =>
      k_14 [t_16, t_17] w) <|
    k_14 [x_0, n_1] w) fun k_18 =>
  pvv prog (binOp .geq 150 x_p0 (.int .u64 4294967296)) w fun t_19 w =>
  cd t_19 (
    pvv prog (binOp .shr 150 x_p0 (.int .u64 32)) w fun t_20 w =>
    k_18 [t_20, (.int .i64 32)] w) <|
  k_18 [x_p0, (.int .i64 0)] w
theorem B103_eq (x_p0 : Value) (w : World) (K : Value → World → Prop) : denFn prog Try.f103 T103 [x_p0] w K = B103 x_p0 w K := by kernel_rfl
theorem c103 {x_p0 : Value} {w : World} {K : Value → World → Prop} (h : B103 x_p0 w K) : Calls prog 103 #[x_p0] w (Ret K) :=
  denFn_calls Try.func103 T103_ok (Eq.mpr (B103_eq x_p0 w K) h)

-- 24 holdfast/block.New
def T24 : Ann := (.seq .none (.seq (.seq .none (.seq (.seq .none .none) .none)) (.seq .none (.seq (.seq .none (.block (.loop 4292870176 [21] (.seq .none (.seq (.seq .none .none) (.seq (.block (.seq .none (.draw [.op 0 .pure, .op 1 .pure, .op 2 .pure, .op 4 .pure, .op 3 .load, .op 5 .eff, .op 6 .pure, .op 7 .eff]))) .none)))))) (.seq .none .none)))))
theorem T24_ok : chkFn prog Try.f24 T24 = true := by kernel_rfl
def B24 (blocks_p0 : Value) (w : World) (K : Value → World → Prop) : Prop :=
  pvv prog (binOp .lss 3 blocks_p0 (.int .i64 1)) w fun t_0 w =>
  gate (some (t_0, false)) (fun K => K blocks_p0 w) w fun t_1 w =>
  gate (some (t_0, false)) (fun K => pvv prog (binOp .gtr 3 t_1 (.int .i64 1024)) w K) w fun t_2 w =>
  pv prog (oPick t_0 (.bool true) t_2) w fun t_3 w =>
  cd t_3 (
    K (.tuple #[(.pointer none), (.int .i64 2)]) w) <|
  efv prog (Instr.makeSlice 78 blocks_p0 blocks_p0) w fun t_4 w =>
  pvv prog (Instr.build 86 #[(0, t_4)]) w fun t_5 w =>
  efv prog (Instr.box 86 t_5) w fun t_6 w =>
  pv prog (oNil t_6) w fun t_7 w =>
  pvv prog (Instr.fieldAt 86 t_7 0) w fun t_8 w =>
  ldv prog (Instr.loadAt 78 t_8) w fun t_9 w =>
  pv prog (oBi .len #[78] 3 #[false] #[t_9]) w fun t_10 w =>
  lp (fun σ w again_12 => pop σ fun t_11 σ => fin σ <|
    pvv prog (binOp .lss 3 t_11 t_10) w fun t_13 w =>
    cd t_13 (
      dr w fun w =>
      pv prog (oNil t_6) w fun t_14 w =>
      pvv prog (Instr.fieldAt 86 t_14 0) w fun t_15 w =>
      bindS (vN (Instr.loadAt 78 t_15)) fun m_17 => ldv prog (Instr.loadAt 78 t_15) w fun t_16 w =>
      efv prog (Instr.makeSlice 33 (.int .i64 256) (.int .i64 256)) w fun t_18 w => stay prog none m_17 t_16 w <| 
      pvv prog (Instr.indexAt 78 t_16 t_11) w fun t_19 w =>
      efu prog (Instr.storeAt 33 t_19 t_18) w fun u_20 w =>
      pvv prog (binOp .add 3 t_11 (.int .i64 1)) w fun t_21 w =>
      again_12 [t_21] w) <|
    K (.tuple #[t_6, (.int .i64 0)]) w) [(.int .i64 0)] w
theorem B24_eq (blocks_p0 : Value) (w : World) (K : Value → World → Prop) : denFn prog Try.f24 T24 [blocks_p0] w K = B24 blocks_p0 w K := by kernel_rfl
theorem c24 {blocks_p0 : Value} {w : World} {K : Value → World → Prop} (h : B24 blocks_p0 w K) : Calls prog 24 #[blocks_p0] w (Ret K) :=
  denFn_calls Try.func24 T24_ok (Eq.mpr (B24_eq blocks_p0 w K) h)

-- 78 slices.DeleteFunc[[]int,int]
def T78 : Ann := (.seq .none (.seq .none (.seq (.seq .none (.seq (.seq .none .none) .none)) (.seq (.seq .none (.block (.loop 68719411424 [5, 6] (.seq (.seq .none (.seq .none .none)) (.meet 68715282592 [5] (.block (.seq .none (.seq .none (.seq (.seq .none .none) .none)))) .none))))) (.seq .none (.seq .none .none))))))
theorem T78_ok : chkFn prog Try.f78 T78 = true := by kernel_rfl
def B78 (s_p0 del_p1 : Value) (w : World) (K : Value → World → Prop) : Prop :=
  Calls prog 91 #[s_p0, del_p1] w (Ret fun t_0 w =>
  pvv prog (oEq .eql 3 (.tmp 11) (.const (.int .i64 (-1))) t_0 (.int .i64 (-1))) w fun t_1 w =>
  cd t_1 (
    K s_p0 w) <|
  pvv prog (binOp .add 3 t_0 (.int .i64 1)) w fun t_2 w =>
  lp (fun σ w again_5 => pop σ fun i_3 σ => pop σ fun j_4 σ => fin σ <|
    pv prog (oBi .len #[29] 3 #[false] #[s_p0]) w fun t_6 w =>
    pvv prog (binOp .lss 3 j_4 t_6) w fun t_7 w =>
    cd t_7 (
      jn (fun σ w => pop σ fun i_8 σ => fin σ <|
        pvv prog (binOp .add 3 j_4 (.int .i64 1)) w fun t_9 w =>
        again_5 [i_8, t_9] w) fun k_10 =>
      pvv prog (Instr.indexAt 29 s_p0 j_4) w fun t_11 w =>
      ldv prog (Instr.loadAt 3 t_11) w fun t_12 w =>
      ef prog (oCall del_p1 #[t_12]) w fun t_13 w =>
      pvv prog (Op.unary .not t_13) w fun t_14 w =>
      cd t_14 (
        pvv prog (Instr.indexAt 29 s_p0 i_3) w fun t_15 w =>
        efu prog (Instr.storeAt 3 t_15 t_12) w fun u_16 w =>
        pvv prog (binOp .add 3 i_3 (.int .i64 1)) w fun t_17 w =>
        k_10 [t_17] w) <|
      k_10 [i_3] w) <|
    pvv prog (Instr.sliceAt 29 s_p0 (some i_3) none none) w fun t_18 w =>
    ef prog (oBi .clear #[29] 0 #[false] #[t_18]) w fun u_19 w =>
    pvv prog (Instr.sliceAt 29 s_p0 none (some i_3) none) w fun t_20 w =>
    K t_20 w) [t_0, t_2] w)
theorem B78_eq (s_p0 del_p1 : Value) (w : World) (K : Value → World → Prop) : denFn prog Try.f78 T78 [s_p0, del_p1] w K = B78 s_p0 del_p1 w K := by kernel_rfl
theorem c78 {s_p0 del_p1 : Value} {w : World} {K : Value → World → Prop} (h : B78 s_p0 del_p1 w K) : Calls prog 78 #[s_p0, del_p1] w (Ret K) :=
  denFn_calls Try.func78 T78_ok (Eq.mpr (B78_eq s_p0 del_p1 w K) h)

-- 41 (*holdfast/block.Disk).Fork
def T41 : Ann := (.seq .none (.seq (.seq .none (.seq (.seq .none .none) .none)) (.seq (.draw [.op 0 .pure, .op 1 .pure, .op 2 .pure, .op 5 .pure, .op 6 .pure, .op 7 .pure, .op 3 .load, .op 8 .load, .op 4 .eff, .op 9 .eff, .op 10 .pure, .op 11 .eff, .op 12 .pure]) (.seq (.draw [.op 0 .pure, .op 1 .pure, .op 2 .pure, .op 3 .pure, .op 4 .pure, .op 5 .pure, .op 6 .eff, .op 7 .eff]) (.seq .none .none)))))
theorem T41_ok : chkFn prog Try.f41 T41 = true := by kernel_rfl
def B41 (d_p0 : Value) (w : World) (K : Value → World → Prop) : Prop :=
  pvv prog (oEq .eql 39 (.tmp 4) (.const (.pointer none)) d_p0 (.pointer none)) w fun t_0 w =>
  cd t_0 (
    K (.pointer none) w) <|
  dr w fun w =>
  pv prog (oNil d_p0) w fun t_1 w =>
  pvv prog (Instr.fieldAt 86 t_1 0) w fun t_2 w =>
  pv prog (oNil d_p0) w fun t_3 w =>
  pvv prog (Instr.fieldAt 86 t_3 1) w fun t_4 w =>
  bindS (vN (Instr.loadAt 78 t_2)) fun m_6 => ldv prog (Instr.loadAt 78 t_2) w fun t_5 w =>
  bindS (vN (Instr.loadAt 79 t_4)) fun m_8 => ldv prog (Instr.loadAt 79 t_4) w fun t_7 w =>
  Calls prog 68 #[t_5] w (Ret fun t_9 w => stay prog none m_8 t_7 w <| 
  Calls prog 69 #[t_7] w (Ret fun t_10 w => stay prog none m_6 t_5 w <| 
  pvv prog (Instr.build 86 #[(0, t_9), (1, t_10)]) w fun t_11 w =>
  efv prog (Instr.box 86 t_11) w fun t_12 w => stay prog none m_8 t_7 w <| stay prog none m_6 t_5 w <| 
  dr w fun w =>
  pv prog (oNil t_12) w fun t_13 w =>
  pvv prog (Instr.fieldAt 86 t_13 2) w fun t_14 w =>
  pv prog (oNil d_p0) w fun t_15 w =>
  pvv prog (Instr.fieldAt 86 t_15 2) w fun t_16 w =>
  Calls prog 42 #[t_16] w (Ret fun t_17 w =>
  Calls prog 70 #[t_14, t_17] w (Ret fun t_18 w =>
  K t_12 w))))
theorem B41_eq (d_p0 : Value) (w : World) (K : Value → World → Prop) : denFn prog Try.f41 T41 [d_p0] w K = B41 d_p0 w K := by kernel_rfl
theorem c41 {d_p0 : Value} {w : World} {K : Value → World → Prop} (h : B41 d_p0 w K) : Calls prog 41 #[d_p0] w (Ret K) :=
  denFn_calls Try.func41 T41_ok (Eq.mpr (B41_eq d_p0 w K) h)

-- 44 (*holdfast/block.Disk).Read
def T44 : Ann := (.seq .none (.seq (.block (.seq .none (.seq (.seq .none .none) (.seq .none (.seq (.seq .none .none) .none))))) (.seq .none .none)))
theorem T44_ok : chkFn prog Try.f44 T44 = true := by kernel_rfl
def B44 (d_p0 n_p1 : Value) (w : World) (K : Value → World → Prop) : Prop :=
  pvv prog (oEq .eql 39 (.tmp 7) (.const (.pointer none)) d_p0 (.pointer none)) w fun t_0 w =>
  cd t_0 (
    K (.tuple #[(.slice none 0 0), (.int .i64 1)]) w) <|
  pvv prog (binOp .lss 3 n_p1 (.int .i64 0)) w fun t_1 w =>
  gate (some (t_1, false)) (fun K => K n_p1 w) w fun t_2 w =>
  gate (some (t_1, false)) (fun K => K d_p0 w) w fun t_3 w =>
  gate (some (t_1, false)) (fun K => pv prog (oNil t_3) w K) w fun t_4 w =>
  gate (some (t_1, false)) (fun K => pvv prog (Instr.fieldAt 86 t_4 0) w K) w fun t_5 w =>
  gate (some (t_1, false)) (fun K => ldv prog (Instr.loadAt 78 t_5) w K) w fun t_6 w =>
  gate (some (t_1, false)) (fun K => pv prog (oBi .len #[78] 3 #[false] #[t_6]) w K) w fun t_7 w =>
  gate (some (t_1, false)) (fun K => pvv prog (binOp .geq 3 t_2 t_7) w K) w fun t_8 w =>
  pv prog (oPick t_1 (.bool true) t_8) w fun t_9 w =>
  cd t_9 (
    K (.tuple #[(.slice none 0 0), (.int .i64 2)]) w) <|
  pv prog (oNil d_p0) w fun t_10 w =>
  pvv prog (Instr.fieldAt 86 t_10 0) w fun t_11 w =>
  ldv prog (Instr.loadAt 78 t_11) w fun t_12 w =>
  pvv prog (Instr.indexAt 78 t_12 n_p1) w fun t_13 w =>
  ldv prog (Instr.loadAt 33 t_13) w fun t_14 w =>
  Calls prog 54 #[t_14] w (Ret fun t_15 w =>
  K (.tuple #[t_15, (.int .i64 0)]) w)
theorem B44_eq (d_p0 n_p1 : Value) (w : World) (K : Value → World → Prop) : denFn prog Try.f44 T44 [d_p0, n_p1] w K = B44 d_p0 n_p1 w K := by kernel_rfl
theorem c44 {d_p0 n_p1 : Value} {w : World} {K : Value → World → Prop} (h : B44 d_p0 n_p1 w K) : Calls prog 44 #[d_p0, n_p1] w (Ret K) :=
  denFn_calls Try.func44 T44_ok (Eq.mpr (B44_eq d_p0 n_p1 w K) h)

-- 53 (*holdfast/pager.Pager).look
def T53 : Ann := (.seq .none (.seq (.block (.seq .none (.seq (.seq .none .none) (.seq .none (.seq (.seq .none .none) .none))))) (.seq .none .none)))
theorem T53_ok : chkFn prog Try.f53 T53 = true := by kernel_rfl
def B53 (p_p0 n_p1 : Value) (w : World) (K : Value → World → Prop) : Prop :=
  pvv prog (oEq .eql 53 (.tmp 6) (.const (.pointer none)) p_p0 (.pointer none)) w fun t_0 w =>
  cd t_0 (
    K (.int .i64 1) w) <|
  pvv prog (binOp .lss 3 n_p1 (.int .i64 0)) w fun t_1 w =>
  gate (some (t_1, false)) (fun K => K n_p1 w) w fun t_2 w =>
  gate (some (t_1, false)) (fun K => K p_p0 w) w fun t_3 w =>
  gate (some (t_1, false)) (fun K => pv prog (oNil t_3) w K) w fun t_4 w =>
  gate (some (t_1, false)) (fun K => pvv prog (Instr.fieldAt 95 t_4 0) w K) w fun t_5 w =>
  gate (some (t_1, false)) (fun K => ldv prog (Instr.loadAt 23 t_5) w K) w fun t_6 w =>
  gate (some (t_1, false)) (fun K => Calls prog 18 #[t_6] w (Ret K)) w fun t_7 w =>
  gate (some (t_1, false)) (fun K => pvv prog (binOp .geq 3 t_2 t_7) w K) w fun t_8 w =>
  pv prog (oPick t_1 (.bool true) t_8) w fun t_9 w =>
  cd t_9 (
    K (.int .i64 2) w) <|
  K (.int .i64 0) w
theorem B53_eq (p_p0 n_p1 : Value) (w : World) (K : Value → World → Prop) : denFn prog Try.f53 T53 [p_p0, n_p1] w K = B53 p_p0 n_p1 w K := by kernel_rfl
theorem c53 {p_p0 n_p1 : Value} {w : World} {K : Value → World → Prop} (h : B53 p_p0 n_p1 w K) : Calls prog 53 #[p_p0, n_p1] w (Ret K) :=
  denFn_calls Try.func53 T53_ok (Eq.mpr (B53_eq p_p0 n_p1 w K) h)

-- 83 (*holdfast/holdfastref03.Log).Pages
def T83 : Ann := (.seq .none (.seq (.seq .none (.seq (.seq .none .none) .none)) (.seq (.draw [.op 0 .pure, .op 1 .pure, .op 2 .pure, .op 5 .pure, .op 6 .pure, .op 7 .pure, .op 3 .load, .op 8 .load, .op 4 .eff, .op 9 .pure, .op 10 .pure, .op 11 .pure]) .none)))
theorem T83_ok : chkFn prog Try.f83 T83 = true := by kernel_rfl
def B83 (l_p0 : Value) (w : World) (K : Value → World → Prop) : Prop :=
  pvv prog (oEq .eql 24 (.tmp 3) (.const (.pointer none)) l_p0 (.pointer none)) w fun t_0 w =>
  cd t_0 (
    K (.int .i64 0) w) <|
  dr w fun w =>
  pv prog (oNil l_p0) w fun t_1 w =>
  pvv prog (Instr.fieldAt 105 t_1 0) w fun t_2 w =>
  pv prog (oNil l_p0) w fun t_3 w =>
  pvv prog (Instr.fieldAt 105 t_3 1) w fun t_4 w =>
  bindS (vN (Instr.loadAt 58 t_2)) fun m_6 => ldv prog (Instr.loadAt 58 t_2) w fun t_5 w =>
  bindS (vN (Instr.loadAt 3 t_4)) fun m_8 => ldv prog (Instr.loadAt 3 t_4) w fun t_7 w =>
  Calls prog 56 #[t_5] w (Ret fun t_9 w => stay prog none m_8 t_7 w <| 
  pvv prog (binOp .sub 3 t_9 t_7) w fun t_10 w =>
  pvv prog (binOp .sub 3 t_10 (.int .i64 1)) w fun t_11 w =>
  K t_11 w)
theorem B83_eq (l_p0 : Value) (w : World) (K : Value → World → Prop) : denFn prog Try.f83 T83 [l_p0] w K = B83 l_p0 w K := by kernel_rfl
theorem c83 {l_p0 : Value} {w : World} {K : Value → World → Prop} (h : B83 l_p0 w K) : Calls prog 83 #[l_p0] w (Ret K) :=
  denFn_calls Try.func83 T83_ok (Eq.mpr (B83_eq l_p0 w K) h)

-- 75 holdfast/block.copied
def T75 : Ann := (.seq .none (.seq .none (.seq (.seq .none (.block (.loop 4192304 [11] (.seq .none (.seq (.seq .none .none) (.seq (.block (.seq .none .none)) .none)))))) (.seq .none .none))))
theorem T75_ok : chkFn prog Try.f75 T75 = true := by kernel_rfl
def B75 (l_p0 : Value) (w : World) (K : Value → World → Prop) : Prop :=
  pv prog (oBi .len #[78] 3 #[false] #[l_p0]) w fun t_0 w =>
  efv prog (Instr.makeSlice 78 t_0 t_0) w fun t_1 w =>
  pv prog (oBi .len #[78] 3 #[false] #[l_p0]) w fun t_2 w =>
  lp (fun σ w again_4 => pop σ fun t_3 σ => fin σ <|
    pvv prog (binOp .lss 3 t_3 t_2) w fun t_5 w =>
    cd t_5 (
      pvv prog (Instr.indexAt 78 l_p0 t_3) w fun t_6 w =>
      ldv prog (Instr.loadAt 33 t_6) w fun t_7 w =>
      Calls prog 54 #[t_7] w (Ret fun t_8 w =>
      pvv prog (Instr.indexAt 78 t_1 t_3) w fun t_9 w =>
      efu prog (Instr.storeAt 33 t_9 t_8) w fun u_10 w =>
      pvv prog (binOp .add 3 t_3 (.int .i64 1)) w fun t_11 w =>
      again_4 [t_11] w)) <|
    K t_1 w) [(.int .i64 0)] w
theorem B75_eq (l_p0 : Value) (w : World) (K : Value → World → Prop) : denFn prog Try.f75 T75 [l_p0] w K = B75 l_p0 w K := by kernel_rfl
theorem c75 {l_p0 : Value} {w : World} {K : Value → World → Prop} (h : B75 l_p0 w K) : Calls prog 75 #[l_p0] w (Ret K) :=
  denFn_calls Try.func75 T75_ok (Eq.mpr (B75_eq l_p0 w K) h)

-- 108 slices.medianOrdered[int]
def T108 : Ann := (.seq .none (.seq .none (.seq .none (.seq .none (.seq .none .none)))))
theorem T108_ok : chkFn prog Try.f108 T108 = true := by kernel_rfl
def B108 (data_p0 a_p1 b_p2 c_p3 swaps_p4 : Value) (w : World) (K : Value → World → Prop) : Prop :=
  Calls prog 110 #[data_p0, a_p1, b_p2, swaps_p4] w (Ret fun t_0 w =>
  pvv prog (Instr.extract t_0 0) w fun t_1 w =>
  pvv prog (Instr.extract t_0 1) w fun t_2 w =>
  Calls prog 110 #[data_p0, t_2, c_p3, swaps_p4] w (Ret fun t_3 w =>
  pvv prog (Instr.extract t_3 0) w fun t_4 w =>
  pvv prog (Instr.extract t_3 1) w fun t_5 w =>
  Calls prog 110 #[data_p0, t_1, t_4, swaps_p4] w (Ret fun t_6 w =>
  pvv prog (Instr.extract t_6 0) w fun t_7 w =>
  pvv prog (Instr.extract t_6 1) w fun t_8 w =>
  K t_8 w)))
theorem B108_eq (data_p0 a_p1 b_p2 c_p3 swaps_p4 : Value) (w : World) (K : Value → World → Prop) : denFn prog Try.f108 T108 [data_p0, a_p1, b_p2, c_p3, swaps_p4] w K = B108 data_p0 a_p1 b_p2 c_p3 swaps_p4 w K := by kernel_rfl
theorem c108 {data_p0 a_p1 b_p2 c_p3 swaps_p4 : Value} {w : World} {K : Value → World → Prop} (h : B108 data_p0 a_p1 b_p2 c_p3 swaps_p4 w K) : Calls prog 108 #[data_p0, a_p1, b_p2, c_p3, swaps_p4] w (Ret K) :=
  denFn_calls Try.func108 T108_ok (Eq.mpr (B108_eq data_p0 a_p1 b_p2 c_p3 swaps_p4 w K) h)

-- 72 maps.Keys[map[int]int,int,int]$1
def T72 : Ann := (.seq .none (.block (.loop 16328 [] (.seq .none (.seq (.seq .none .none) (.block (.seq .none (.seq .none (.seq .none .none)))))))))
theorem T72_ok : chkFn prog Try.f72 T72 = true := by kernel_rfl
def B72 (yield_p0 x_p1 : Value) (w : World) (K : Value → World → Prop) : Prop :=
  ldv prog (Instr.loadAt 69 x_p1) w fun t_0 w =>
  efv prog (Instr.range 69 t_0) w fun t_1 w =>
  lp (fun σ w again_2 => fin σ <|
    efv prog (Instr.next t_1 false 0) w fun t_3 w =>
    pvv prog (Instr.extract t_3 0) w fun t_4 w =>
    cd t_4 (
      efv prog (Instr.entry t_1) w fun t_5 w =>
      pvv prog (Instr.extract t_5 0) w fun t_6 w =>
      ef prog (oCall yield_p0 #[t_6]) w fun t_7 w =>
      pvv prog (Op.unary .not t_7) w fun t_8 w =>
      cd t_8 (
        K (.tuple #[]) w) <|
      again_2 [] w) <|
    K (.tuple #[]) w) [] w
theorem B72_eq (yield_p0 x_p1 : Value) (w : World) (K : Value → World → Prop) : denFn prog Try.f72 T72 [yield_p0, x_p1] w K = B72 yield_p0 x_p1 w K := by kernel_rfl
theorem c72 {yield_p0 x_p1 : Value} {w : World} {K : Value → World → Prop} (h : B72 yield_p0 x_p1 w K) : Calls prog 72 #[yield_p0, x_p1] w (Ret K) :=
  denFn_calls Try.func72 T72_ok (Eq.mpr (B72_eq yield_p0 x_p1 w K) h)

-- 84 slices.AppendSeq[[]int,int]
def T84 : Ann := (.seq .none (.seq (.seq .none (.block (.range .none (.block .none)))) (.seq .none .none)))
theorem T84_ok : chkFn prog Try.f84 T84 = true := by kernel_rfl
def B84 (s_p0 seq_p1 : Value) (w : World) (K : Value → World → Prop) : Prop :=
  efv prog (Instr.box 29 s_p0) w fun s_0 w =>
  rng prog 1 seq_p1 (fun σ w bg_2 ex_3 => pop σ fun t_1 σ => fin σ <|
    bg_2 w fun w =>
    ldv prog (Instr.loadAt 29 s_0) w fun t_4 w =>
    efv prog (Instr.buildSlice 29 1 #[(0, t_1)]) w fun t_5 w =>
    ef prog (oBi .append #[29, 29] 29 #[false, false] #[t_4, t_5]) w fun t_6 w =>
    efu prog (Instr.storeAt 29 s_0 t_6) w fun u_7 w =>
    ex_3 .normal w) w fun p_9 D_8 w =>
  jump (
    ldv prog (Instr.loadAt 29 s_0) w fun t_10 w =>
    und [D_8] w fun w => K t_10 w) (
    und [D_8] w fun w => K (.slice none 0 0) w) [] p_9
theorem B84_eq (s_p0 seq_p1 : Value) (w : World) (K : Value → World → Prop) : denFn prog Try.f84 T84 [s_p0, seq_p1] w K = B84 s_p0 seq_p1 w K := by kernel_rfl
theorem c84 {s_p0 seq_p1 : Value} {w : World} {K : Value → World → Prop} (h : B84 s_p0 seq_p1 w K) : Calls prog 84 #[s_p0, seq_p1] w (Ret K) :=
  denFn_calls Try.func84 T84_ok (Eq.mpr (B84_eq s_p0 seq_p1 w K) h)

-- 99 cmp.Less[int]
def T99 : Ann := (.seq .none (.seq .none .none))
theorem T99_ok : chkFn prog Try.f99 T99 = true := by kernel_rfl
def B99 (x_p0 y_p1 : Value) (w : World) (K : Value → World → Prop) : Prop :=
  Calls prog 109 #[x_p0] w (Ret fun t_0 w =>
  gate (some (t_0, true)) (fun K => K y_p1 w) w fun t_1 w =>
  gate (some (t_0, true)) (fun K => Calls prog 109 #[t_1] w (Ret K)) w fun t_2 w =>
  gate (some (t_0, true)) (fun K => pvv prog (Op.unary .not t_2) w K) w fun t_3 w =>
  pv prog (oPick t_0 t_3 (.bool false)) w fun t_4 w =>
  gate (some (t_4, false)) (fun K => K x_p0 w) w fun t_5 w =>
  gate (some (t_4, false)) (fun K => K y_p1 w) w fun t_6 w =>
  gate (some (t_4, false)) (fun K => pvv prog (binOp .lss 3 t_5 t_6) w K) w fun t_7 w =>
  pv prog (oPick t_4 (.bool true) t_7) w fun t_8 w =>
  K t_8 w)
theorem B99_eq (x_p0 y_p1 : Value) (w : World) (K : Value → World → Prop) : denFn prog Try.f99 T99 [x_p0, y_p1] w K = B99 x_p0 y_p1 w K := by kernel_rfl
theorem c99 {x_p0 y_p1 : Value} {w : World} {K : Value → World → Prop} (h : B99 x_p0 y_p1 w K) : Calls prog 99 #[x_p0, y_p1] w (Ret K) :=
  denFn_calls Try.func99 T99_ok (Eq.mpr (B99_eq x_p0 y_p1 w K) h)

-- 14 (*holdfast/wal.Log).Touched
def T14 : Ann := (.seq .none (.seq (.seq .none (.seq (.seq .none .none) .none)) (.seq .none .none)))
theorem T14_ok : chkFn prog Try.f14 T14 = true := by kernel_rfl
def B14 (l_p0 : Value) (w : World) (K : Value → World → Prop) : Prop :=
  pvv prog (oEq .eql 23 (.tmp 3) (.const (.pointer none)) l_p0 (.pointer none)) w fun t_0 w =>
  cd t_0 (
    K (.slice none 0 0) w) <|
  pv prog (oNil l_p0) w fun t_1 w =>
  pvv prog (Instr.fieldAt 71 t_1 4) w fun t_2 w =>
  ldv prog (Instr.loadAt 69 t_2) w fun t_3 w =>
  Calls prog 43 #[t_3] w (Ret fun t_4 w =>
  Calls prog 35 #[t_4] w (Ret fun t_5 w =>
  K t_5 w))
theorem B14_eq (l_p0 : Value) (w : World) (K : Value → World → Prop) : denFn prog Try.f14 T14 [l_p0] w K = B14 l_p0 w K := by kernel_rfl
theorem c14 {l_p0 : Value} {w : World} {K : Value → World → Prop} (h : B14 l_p0 w K) : Calls prog 14 #[l_p0] w (Ret K) :=
  denFn_calls Try.func14 T14_ok (Eq.mpr (B14_eq l_p0 w K) h)

-- 69 slices.Clone[[]holdfast/block.write,holdfast/block.write]
def T69 : Ann := (.seq .none (.seq (.seq .none (.seq (.seq .none .none) .none)) (.seq .none .none)))
theorem T69_ok : chkFn prog Try.f69 T69 = true := by kernel_rfl
def B69 (s_p0 : Value) (w : World) (K : Value → World → Prop) : Prop :=
  pvv prog (oEq .eql 79 (.tmp 3) (.const (.slice none 0 0)) s_p0 (.slice none 0 0)) w fun t_0 w =>
  cd t_0 (
    K (.slice none 0 0) w) <|
  efv prog (Instr.buildSlice 79 0 #[]) w fun t_1 w =>
  ef prog (oBi .append #[79, 79] 79 #[false, false] #[t_1, s_p0]) w fun t_2 w =>
  K t_2 w
theorem B69_eq (s_p0 : Value) (w : World) (K : Value → World → Prop) : denFn prog Try.f69 T69 [s_p0] w K = B69 s_p0 w K := by kernel_rfl
theorem c69 {s_p0 : Value} {w : World} {K : Value → World → Prop} (h : B69 s_p0 w K) : Calls prog 69 #[s_p0] w (Ret K) :=
  denFn_calls Try.func69 T69_ok (Eq.mpr (B69_eq s_p0 w K) h)

-- 21 (*holdfast/wal.Log).Groups
def T21 : Ann := (.seq .none (.seq (.seq .none (.seq (.seq .none .none) .none)) (.seq .none .none)))
theorem T21_ok : chkFn prog Try.f21 T21 = true := by kernel_rfl
def B21 (l_p0 : Value) (w : World) (K : Value → World → Prop) : Prop :=
  pvv prog (oEq .eql 23 (.tmp 3) (.const (.pointer none)) l_p0 (.pointer none)) w fun t_0 w =>
  cd t_0 (
    K (.int .i64 0) w) <|
  pv prog (oNil l_p0) w fun t_1 w =>
  pvv prog (Instr.fieldAt 71 t_1 2) w fun t_2 w =>
  ldv prog (Instr.loadAt 3 t_2) w fun t_3 w =>
  K t_3 w
theorem B21_eq (l_p0 : Value) (w : World) (K : Value → World → Prop) : denFn prog Try.f21 T21 [l_p0] w K = B21 l_p0 w K := by kernel_rfl
theorem c21 {l_p0 : Value} {w : World} {K : Value → World → Prop} (h : B21 l_p0 w K) : Calls prog 21 #[l_p0] w (Ret K) :=
  denFn_calls Try.func21 T21_ok (Eq.mpr (B21_eq l_p0 w K) h)

-- 67 (*sync/atomic.Int64).Add
def T67 : Ann := (.seq .none (.seq .none .none))
theorem T67_ok : chkFn prog Try.f67 T67 = true := by kernel_rfl
def B67 (x_p0 delta_p1 : Value) (w : World) (K : Value → World → Prop) : Prop :=
  pv prog (oNil x_p0) w fun t_0 w =>
  pvv prog (Instr.fieldAt 84 t_0 2) w fun t_1 w =>
  ef prog (oCall (.func (.func 87) #[] #[]) #[t_1, delta_p1]) w fun t_2 w =>
  K t_2 w
theorem B67_eq (x_p0 delta_p1 : Value) (w : World) (K : Value → World → Prop) : denFn prog Try.f67 T67 [x_p0, delta_p1] w K = B67 x_p0 delta_p1 w K := by kernel_rfl
theorem c67 {x_p0 delta_p1 : Value} {w : World} {K : Value → World → Prop} (h : B67 x_p0 delta_p1 w K) : Calls prog 67 #[x_p0, delta_p1] w (Ret K) :=
  denFn_calls Try.func67 T67_ok (Eq.mpr (B67_eq x_p0 delta_p1 w K) h)

-- 32 slices.ContainsFunc[[]holdfast/api.Page,holdfast/api.Page]
def T32 : Ann := (.seq .none (.seq .none .none))
theorem T32_ok : chkFn prog Try.f32 T32 = true := by kernel_rfl
def B32 (s_p0 f_p1 : Value) (w : World) (K : Value → World → Prop) : Prop :=
  Calls prog 63 #[s_p0, f_p1] w (Ret fun t_0 w =>
  pvv prog (binOp .geq 3 t_0 (.int .i64 0)) w fun t_1 w =>
  K t_1 w)
theorem B32_eq (s_p0 f_p1 : Value) (w : World) (K : Value → World → Prop) : denFn prog Try.f32 T32 [s_p0, f_p1] w K = B32 s_p0 f_p1 w K := by kernel_rfl
theorem c32 {s_p0 f_p1 : Value} {w : World} {K : Value → World → Prop} (h : B32 s_p0 f_p1 w K) : Calls prog 32 #[s_p0, f_p1] w (Ret K) :=
  denFn_calls Try.func32 T32_ok (Eq.mpr (B32_eq s_p0 f_p1 w K) h)

-- 79 (*holdfast/pager.Pager).drop$1
def T79 : Ann := (.seq .none (.seq .none .none))
theorem T79_ok : chkFn prog Try.f79 T79 = true := by kernel_rfl
def B79 (k_p0 x_p1 : Value) (w : World) (K : Value → World → Prop) : Prop :=
  ldv prog (Instr.loadAt 3 x_p1) w fun t_0 w =>
  pvv prog (oEq .eql 3 (.tmp 4) (.tmp 5) k_p0 t_0) w fun t_1 w =>
  K t_1 w
theorem B79_eq (k_p0 x_p1 : Value) (w : World) (K : Value → World → Prop) : denFn prog Try.f79 T79 [k_p0, x_p1] w K = B79 k_p0 x_p1 w K := by kernel_rfl
theorem c79 {k_p0 x_p1 : Value} {w : World} {K : Value → World → Prop} (h : B79 k_p0 x_p1 w K) : Calls prog 79 #[k_p0, x_p1] w (Ret K) :=
  denFn_calls Try.func79 T79_ok (Eq.mpr (B79_eq k_p0 x_p1 w K) h)

-- 74 holdfast/block.Load$1
def T74 : Ann := (.seq .none (.seq .none .none))
theorem T74_ok : chkFn prog Try.f74 T74 = true := by kernel_rfl
def B74 (b_p0 : Value) (w : World) (K : Value → World → Prop) : Prop :=
  pv prog (oBi .len #[33] 3 #[false] #[b_p0]) w fun t_0 w =>
  pvv prog (oEq .neq 3 (.tmp 4) (.const (.int .i64 256)) t_0 (.int .i64 256)) w fun t_1 w =>
  K t_1 w
theorem B74_eq (b_p0 : Value) (w : World) (K : Value → World → Prop) : denFn prog Try.f74 T74 [b_p0] w K = B74 b_p0 w K := by kernel_rfl
theorem c74 {b_p0 : Value} {w : World} {K : Value → World → Prop} (h : B74 b_p0 w K) : Calls prog 74 #[b_p0] w (Ret K) :=
  denFn_calls Try.func74 T74_ok (Eq.mpr (B74_eq b_p0 w K) h)

-- 77 holdfast/wal.zeros$1
def T77 : Ann := (.seq .none (.seq .none .none))
theorem T77_ok : chkFn prog Try.f77 T77 = true := by kernel_rfl
def B77 (x_p0 : Value) (w : World) (K : Value → World → Prop) : Prop :=
  pvv prog (oEq .neq 5 (.tmp 3) (.const (.int .u8 0)) x_p0 (.int .u8 0)) w fun t_0 w =>
  K t_0 w
theorem B77_eq (x_p0 : Value) (w : World) (K : Value → World → Prop) : denFn prog Try.f77 T77 [x_p0] w K = B77 x_p0 w K := by kernel_rfl
theorem c77 {x_p0 : Value} {w : World} {K : Value → World → Prop} (h : B77 x_p0 w K) : Calls prog 77 #[x_p0] w (Ret K) :=
  denFn_calls Try.func77 T77_ok (Eq.mpr (B77_eq x_p0 w K) h)

-- 64 slices.Collect[int]
def T64 : Ann := (.seq .none (.seq .none .none))
theorem T64_ok : chkFn prog Try.f64 T64 = true := by kernel_rfl
def B64 (seq_p0 : Value) (w : World) (K : Value → World → Prop) : Prop :=
  Calls prog 84 #[(.slice none 0 0), seq_p0] w (Ret fun t_0 w =>
  K t_0 w)
theorem B64_eq (seq_p0 : Value) (w : World) (K : Value → World → Prop) : denFn prog Try.f64 T64 [seq_p0] w K = B64 seq_p0 w K := by kernel_rfl
theorem c64 {seq_p0 : Value} {w : World} {K : Value → World → Prop} (h : B64 seq_p0 w K) : Calls prog 64 #[seq_p0] w (Ret K) :=
  denFn_calls Try.func64 T64_ok (Eq.mpr (B64_eq seq_p0 w K) h)


end Go.Proofs.Ytgkeplodfkmnlaa
