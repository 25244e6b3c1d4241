import Derived.Test.YtbcimkjgpplcpaaDoorPI
set_option linter.all false
set_option maxRecDepth 100000
namespace Go.Proofs.YtbcimkjgpplcpaaDoor
open Go Hold
-- 101 slices.partialInsertionSortOrdered[int]
def T101 : Ann := (.seq .none (.seq .none (.seq (.seq .none (.block (.loop 10889035741470030830827987437816582760384 [7, 8] (.seq (.seq .none (.seq .none .none)) (.meet 10889035741470030830827987437816582637248 [7] (.block (.seq (.block (.loop 34359607424 [7] (.seq (.seq (.draw [.op 0 .pure, .op 1 .pure, .op 2 .pure, .op 3 .pure, .op 4 .pure, .op 5 .pure, .op 6 .pure, .op 8 .pure, .op 9 .pure, .op 10 .pure, .op 11 .pure, .op 7 .load, .op 12 .load, .op 13 .eff, .op 14 .pure, .op 15 .pure]) (.seq .none .none)) (.block .none)))) (.seq (.seq .none (.seq (.seq .none .none) .none)) (.seq (.seq .none (.seq (.seq .none .none) .none)) (.seq (.draw [.op 0 .pure, .op 1 .pure, .op 2 .pure, .op 3 .pure, .op 4 .pure, .op 5 .pure, .op 6 .pure, .op 7 .pure, .op 8 .pure, .op 10 .pure, .op 11 .pure, .op 12 .pure, .op 9 .load, .op 13 .load, .op 14 .pure, .op 15 .eff, .op 16 .pure, .op 17 .eff]) (.meet 39614081256843938420620263936 [] (.seq .none (.seq (.seq .none (.block (.loop 39614081238685424723062424064 [9] (.seq (.seq .none (.seq .none .none)) (.seq (.block (.seq (.seq (.draw [.op 0 .pure, .op 1 .pure, .op 2 .pure, .op 4 .pure, .op 5 .pure, .op 6 .pure, .op 7 .pure, .op 3 .load, .op 8 .load, .op 9 .eff, .op 10 .pure]) (.seq .none .none)) (.draw [.op 0 .pure, .op 1 .pure, .op 2 .pure, .op 3 .pure, .op 4 .pure, .op 5 .pure, .op 6 .pure, .op 7 .pure, .op 8 .pure, .op 10 .pure, .op 11 .pure, .op 12 .pure, .op 9 .load, .op 13 .load, .op 14 .pure, .op 15 .eff, .op 16 .pure, .op 17 .eff]))) .none))))) .none)) (.seq .none (.seq (.seq .none (.block (.loop 10889035738934729630371528634823176356864 [10] (.seq (.seq .none (.seq .none .none)) (.seq (.block (.seq (.seq (.draw [.op 0 .pure, .op 1 .pure, .op 2 .pure, .op 4 .pure, .op 5 .pure, .op 6 .pure, .op 7 .pure, .op 3 .load, .op 8 .load, .op 9 .eff, .op 10 .pure]) (.seq .none .none)) (.draw [.op 0 .pure, .op 1 .pure, .op 2 .pure, .op 3 .pure, .op 4 .pure, .op 5 .pure, .op 6 .pure, .op 7 .pure, .op 8 .pure, .op 10 .pure, .op 11 .pure, .op 12 .pure, .op 9 .load, .op 13 .load, .op 14 .pure, .op 15 .eff, .op 16 .pure, .op 17 .eff]))) .none))))) .none)))))))) .none))))) (.seq .none .none))))
theorem T101_ok : chkFn prog Tryd.f101 T101 = true := by kernel_rfl
def B101 (data_p0 a_p1 b_p2 : Value) (w : World) (K : Value → World → Prop) : Prop :=
  pvv prog (binOp .add 3 a_p1 (.int .i64 1)) w fun t_0 w =>
  lp (fun σ w again_3 => pop σ fun i_1 σ => pop σ fun j_2 σ => fin σ <|
    pvv prog (binOp .lss 3 j_2 (.int .i64 5)) w fun t_4 w =>
    cd t_4 (
      jn (fun σ w => pop σ fun i_5 σ => fin σ <|
        pvv prog (binOp .add 3 j_2 (.int .i64 1)) w fun t_6 w =>
        again_3 [i_5, t_6] w) fun k_7 =>
      lp (fun σ w again_9 => pop σ fun i_8 σ => fin σ <|
        dr w fun w =>
        pvv prog (binOp .lss 3 i_8 b_p2) w fun t_10 w =>
        gate (some (t_10, true)) (fun K => K data_p0 w) w fun t_11 w =>
        gate (some (t_10, true)) (fun K => K i_8 w) w fun t_12 w =>
        gate (some (t_10, true)) (fun K => pvv prog (Instr.indexAt 41 t_11 t_12) w K) w fun t_13 w =>
        gate (some (t_10, true)) (fun K => K data_p0 w) w fun t_14 w =>
        gate (some (t_10, true)) (fun K => K i_8 w) w fun t_15 w =>
        gate (some (t_10, true)) (fun K => pvv prog (binOp .sub 3 t_15 (.int .i64 1)) w K) w fun t_16 w =>
        gate (some (t_10, true)) (fun K => pvv prog (Instr.indexAt 41 t_14 t_16) w K) w fun t_17 w =>
        bindS (vN (Instr.loadAt 3 t_13)) fun m_19 => gate (some (t_10, true)) (fun K => ldv prog (Instr.loadAt 3 t_13) w K) w fun t_18 w =>
        bindS (vN (Instr.loadAt 3 t_17)) fun m_21 => gate (some (t_10, true)) (fun K => ldv prog (Instr.loadAt 3 t_17) w K) w fun t_20 w =>
        gate (some (t_10, true)) (fun K => Calls prog 102 #[t_18, t_20] w (Ret fun s_106 w => K s_106 w)) w fun t_22 w =>
        gate (some (t_10, true)) (fun K => pvv prog (Op.unary .not t_22) w K) w fun t_23 w =>
        pv prog (oPick t_10 t_23 (.bool false)) w fun t_24 w =>
        cd t_24 (
          pvv prog (binOp .add 3 i_8 (.int .i64 1)) w fun t_25 w =>
          again_9 [t_25] w) <|
        pvv prog (oEq .eql 3 (.tmp 35) (.tmp 36) i_8 b_p2) w fun t_26 w =>
        cd t_26 (
          K (.bool true) w) <|
        pvv prog (binOp .sub 3 b_p2 a_p1) w fun t_27 w =>
        pvv prog (binOp .lss 3 t_27 (.int .i64 50)) w fun t_28 w =>
        cd t_28 (
          K (.bool false) w) <|
        dr w fun w =>
        pvv prog (binOp .sub 3 i_8 (.int .i64 1)) w fun t_29 w =>
        pvv prog (binOp .sub 3 i_8 (.int .i64 1)) w fun t_30 w =>
        pvv prog (Instr.indexAt 41 data_p0 t_30) w fun t_31 w =>
        pvv prog (Instr.indexAt 41 data_p0 i_8) w fun t_32 w =>
        bindS (vN (Instr.loadAt 3 t_31)) fun m_34 => ldv prog (Instr.loadAt 3 t_31) w fun t_33 w =>
        bindS (vN (Instr.loadAt 3 t_32)) fun m_36 => ldv prog (Instr.loadAt 3 t_32) w fun t_35 w =>
        pvv prog (Instr.indexAt 41 data_p0 i_8) w fun t_37 w =>
        efu prog (Instr.storeAt 3 t_37 t_33) w fun u_38 w =>
        pvv prog (Instr.indexAt 41 data_p0 t_29) w fun t_39 w =>
        efu prog (Instr.storeAt 3 t_39 t_35) w fun u_40 w =>
        jn (fun σ w => fin σ <|
          pvv prog (binOp .sub 3 b_p2 i_8) w fun t_41 w =>
          pvv prog (binOp .geq 3 t_41 (.int .i64 2)) w fun t_42 w =>
          cd t_42 (
            pvv prog (binOp .add 3 i_8 (.int .i64 1)) w fun t_43 w =>
            lp (fun σ w again_45 => pop σ fun j_44 σ => fin σ <|
              pvv prog (binOp .lss 3 j_44 b_p2) w fun t_46 w =>
              cd t_46 (
                dr w fun w =>
                pvv prog (Instr.indexAt 41 data_p0 j_44) w fun t_47 w =>
                pvv prog (binOp .sub 3 j_44 (.int .i64 1)) w fun t_48 w =>
                pvv prog (Instr.indexAt 41 data_p0 t_48) w fun t_49 w =>
                bindS (vN (Instr.loadAt 3 t_47)) fun m_51 => ldv prog (Instr.loadAt 3 t_47) w fun t_50 w =>
                bindS (vN (Instr.loadAt 3 t_49)) fun m_53 => ldv prog (Instr.loadAt 3 t_49) w fun t_52 w =>
                Calls prog 102 #[t_50, t_52] w (Ret fun t_54 w =>
                pvv prog (Op.unary .not t_54) w fun t_55 w =>
                cd t_55 (
                  k_7 [i_8] w) <|
                dr w fun w =>
                pvv prog (binOp .sub 3 j_44 (.int .i64 1)) w fun t_56 w =>
                pvv prog (binOp .sub 3 j_44 (.int .i64 1)) w fun t_57 w =>
                pvv prog (Instr.indexAt 41 data_p0 t_57) w fun t_58 w =>
                pvv prog (Instr.indexAt 41 data_p0 j_44) w fun t_59 w =>
                bindS (vN (Instr.loadAt 3 t_58)) fun m_61 => ldv prog (Instr.loadAt 3 t_58) w fun t_60 w =>
                bindS (vN (Instr.loadAt 3 t_59)) fun m_63 => ldv prog (Instr.loadAt 3 t_59) w fun t_62 w =>
                pvv prog (Instr.indexAt 41 data_p0 j_44) w fun t_64 w =>
                efu prog (Instr.storeAt 3 t_64 t_60) w fun u_65 w =>
                pvv prog (Instr.indexAt 41 data_p0 t_56) w fun t_66 w =>
                efu prog (Instr.storeAt 3 t_66 t_62) w fun u_67 w =>
                pvv prog (binOp .add 3 j_44 (.int .i64 1)) w fun t_68 w =>
                again_45 [t_68] w)) <|
              k_7 [i_8] w) [t_43] w) <|
          k_7 [i_8] w) fun k_72 =>
        pvv prog (binOp .sub 3 i_8 a_p1) w fun t_73 w =>
        pvv prog (binOp .geq 3 t_73 (.int .i64 2)) w fun t_74 w =>
        cd t_74 (
          pvv prog (binOp .sub 3 i_8 (.int .i64 1)) w fun t_75 w =>
          lp (fun σ w again_77 => pop σ fun j_76 σ => fin σ <|
            pvv prog (binOp .geq 3 j_76 (.int .i64 1)) w fun t_78 w =>
            cd t_78 (
              dr w fun w =>
              pvv prog (Instr.indexAt 41 data_p0 j_76) w fun t_79 w =>
              pvv prog (binOp .sub 3 j_76 (.int .i64 1)) w fun t_80 w =>
              pvv prog (Instr.indexAt 41 data_p0 t_80) w fun t_81 w =>
              bindS (vN (Instr.loadAt 3 t_79)) fun m_83 => ldv prog (Instr.loadAt 3 t_79) w fun t_82 w =>
              bindS (vN (Instr.loadAt 3 t_81)) fun m_85 => ldv prog (Instr.loadAt 3 t_81) w fun t_84 w =>
              Calls prog 102 #[t_82, t_84] w (Ret fun t_86 w =>
              pvv prog (Op.unary .not t_86) w fun t_87 w =>
              cd t_87 (
                k_72 [] w) <|
              dr w fun w =>
              pvv prog (binOp .sub 3 j_76 (.int .i64 1)) w fun t_88 w =>
              pvv prog (binOp .sub 3 j_76 (.int .i64 1)) w fun t_89 w =>
              pvv prog (Instr.indexAt 41 data_p0 t_89) w fun t_90 w =>
              pvv prog (Instr.indexAt 41 data_p0 j_76) w fun t_91 w =>
              bindS (vN (Instr.loadAt 3 t_90)) fun m_93 => ldv prog (Instr.loadAt 3 t_90) w fun t_92 w =>
              bindS (vN (Instr.loadAt 3 t_91)) fun m_95 => ldv prog (Instr.loadAt 3 t_91) w fun t_94 w =>
              pvv prog (Instr.indexAt 41 data_p0 j_76) w fun t_96 w =>
              efu prog (Instr.storeAt 3 t_96 t_92) w fun u_97 w =>
              pvv prog (Instr.indexAt 41 data_p0 t_88) w fun t_98 w =>
              efu prog (Instr.storeAt 3 t_98 t_94) w fun u_99 w =>
              pvv prog (binOp .sub 3 j_76 (.int .i64 1)) w fun t_100 w =>
              again_77 [t_100] w)) <|
            k_72 [] w) [t_75] w) <|
        k_72 [] w) [i_1] w) <|
    K (.bool false) w) [t_0, (.int .i64 0)] w
theorem B101_eq (data_p0 a_p1 b_p2 : Value) (w : World) (K : Value → World → Prop) : denFn prog Tryd.f101 T101 [data_p0, a_p1, b_p2] w K = B101 data_p0 a_p1 b_p2 w K := by kernel_rfl
theorem c101 {data_p0 a_p1 b_p2 : Value} {w : World} {K : Value → World → Prop} (h : B101 data_p0 a_p1 b_p2 w K) : Calls prog 101 #[data_p0, a_p1, b_p2] w (Ret K) :=
  denFn_calls Tryd.func101 T101_ok (Eq.mpr (B101_eq data_p0 a_p1 b_p2 w K) h)

-- 6 holdfast/holdfasttop.TopEnded
def T6 : Ann := (.seq .none (.seq .none (.seq (.seq .none (.seq (.seq .none .none) .none)) (.seq .none (.seq .none (.seq (.seq .none (.block (.loop 11150372599265311570767859136324179681345476 [6, 7] (.seq (.seq .none (.seq .none .none)) (.seq (.block (.seq .none (.seq .none (.seq .none (.seq (.seq .none (.seq (.seq .none .none) .none)) (.meet 649037107316852877105559737744384 [] (.seq .none (.block (.seq .none (.seq .none (.seq .none (.seq (.seq .none (.seq .none (.seq .none .none))) (.seq .none (.seq .none (.seq .none .none))))))))) (.seq .none (.block (.loop 11150372598616274463451005682757868713918468 [14] (.seq (.seq .none (.seq .none .none)) (.meet 11150372588880717853698203879263188096614404 [] (.block (.seq .none (.seq (.seq .none (.seq .none .none)) (.seq .none (.seq .none (.seq .none (.seq (.seq .none .none) .none))))))) .none))))))))))) .none))))) (.seq .none .none)))))))
theorem T6_ok : chkFn prog Tryd.f6 T6 = true := by kernel_rfl
def B6 (times_p0 : Value) (w : World) (K : Value → World → Prop) : Prop :=
  Calls prog 16 #[] w (Ret fun t_0 w =>
  Calls prog 7 #[] w (Ret fun t_1 w =>
  pvv prog (oEq .eql 50 (.tmp 23) (.const (.pointer none)) t_0 (.pointer none)) w fun t_2 w =>
  gate (some (t_2, false)) (fun K => K t_1 w) w fun t_3 w =>
  gate (some (t_2, false)) (fun K => pvv prog (oEq .eql 22 (.tmp 26) (.const (.pointer none)) t_3 (.pointer none)) w K) w fun t_4 w =>
  pv prog (oPick t_2 (.bool true) t_4) w fun t_5 w =>
  cd t_5 (
    K (.bool false) w) <|
  pvv prog (Instr.build 53 #[(0, (.string ⟨#[116]⟩)), (1, (.string ⟨#[117]⟩))]) w fun t_6 w =>
  efv prog (Instr.alloc 53 true (.tuple #[])) w fun o_7 w =>
  efu prog (Instr.storeAt 53 o_7 t_6) w fun u_8 w =>
  lp (fun σ w again_11 => pop σ fun now_9 σ => pop σ fun i_10 σ => fin σ <|
    pv prog (oBi .len #[49] 3 #[false] #[times_p0]) w fun t_12 w =>
    pvv prog (binOp .lss 3 i_10 t_12) w fun t_13 w =>
    gate (some (t_13, true)) (fun K => K i_10 w) w fun t_14 w =>
    gate (some (t_13, true)) (fun K => pvv prog (binOp .lss 3 t_14 (.int .i64 40)) w K) w fun t_15 w =>
    pv prog (oPick t_13 t_15 (.bool false)) w fun t_16 w =>
    cd t_16 (
      pvv prog (Instr.indexAt 49 times_p0 i_10) w fun t_17 w =>
      ldv prog (Instr.loadAt 54 t_17) w fun t_18 w =>
      pvv prog (convert 54 3 t_18) w fun t_19 w =>
      pvv prog (binOp .rem 3 t_19 (.int .i64 120)) w fun t_20 w =>
      pvv prog (binOp .add 3 now_9 t_20) w fun t_21 w =>
      Calls prog 17 #[t_0, t_21] w (Ret fun t_22 w =>
      pvv prog (Instr.extract t_22 0) w fun t_23 w =>
      pvv prog (Instr.extract t_22 1) w fun t_24 w =>
      Calls prog 18 #[t_1, t_23] w (Ret fun t_25 w =>
      pvv prog (oEq .neq 30 (.tmp 57) (.const (.int .i64 0)) t_24 (.int .i64 0)) w fun t_26 w =>
      cd t_26 (
        K (.bool false) w) <|
      jn (fun σ w => fin σ <|
        lp (fun σ w again_28 => pop σ fun id_27 σ => fin σ <|
          pvv prog (binOp .lss 3 id_27 (.int .i64 20)) w fun t_29 w =>
          cd t_29 (
            jn (fun σ w => fin σ <|
              pvv prog (binOp .add 3 id_27 (.int .i64 1)) w fun t_30 w =>
              again_28 [t_30] w) fun k_31 =>
            Calls prog 14 #[t_1, id_27, t_21] w (Ret fun t_32 w =>
            pvv prog (Instr.extract t_32 0) w fun t_33 w =>
            pvv prog (Instr.extract t_32 1) w fun t_34 w =>
            efv prog (Instr.alloc 29 true (.tuple #[])) w fun a_35 w =>
            efu prog (Instr.storeAt 29 a_35 t_33) w fun u_36 w =>
            pvv prog (oEq .neq 30 (.tmp 120) (.const (.int .i64 0)) t_34 (.int .i64 0)) w fun t_37 w =>
            cd t_37 (
              k_31 [] w) <|
            pvv prog (Instr.fieldAt 29 a_35 1) w fun t_38 w =>
            ldv prog (Instr.loadAt 3 t_38) w fun t_39 w =>
            Calls prog 15 #[t_1, t_39] w (Ret fun t_40 w =>
            pvv prog (Instr.extract t_40 0) w fun t_41 w =>
            pvv prog (Instr.extract t_40 1) w fun t_42 w =>
            efv prog (Instr.alloc 27 true (.tuple #[])) w fun fam_43 w =>
            efu prog (Instr.storeAt 27 fam_43 t_41) w fun u_44 w =>
            pvv prog (Instr.fieldAt 27 fam_43 1) w fun t_45 w =>
            ldv prog (Instr.loadAt 3 t_45) w fun t_46 w =>
            Calls prog 22 #[t_0, t_46, t_21] w (Ret fun t_47 w =>
            pvv prog (Instr.extract t_47 0) w fun t_48 w =>
            pvv prog (Instr.extract t_47 1) w fun t_49 w =>
            efv prog (Instr.alloc 59 true (.tuple #[])) w fun t_50 w =>
            efu prog (Instr.storeAt 59 t_50 t_48) w fun u_51 w =>
            pvv prog (oEq .neq 30 (.tmp 137) (.const (.int .i64 0)) t_42 (.int .i64 0)) w fun t_52 w =>
            gate (some (t_52, false)) (fun K => K t_49 w) w fun t_53 w =>
            gate (some (t_52, false)) (fun K => pvv prog (oEq .neq 30 (.tmp 140) (.const (.int .i64 0)) t_53 (.int .i64 0)) w K) w fun t_54 w =>
            pv prog (oPick t_52 (.bool true) t_54) w fun t_55 w =>
            cd t_55 (
              K (.bool false) w) <|
            k_31 [] w)))) <|
          pvv prog (binOp .add 3 i_10 (.int .i64 1)) w fun t_56 w =>
          again_11 [t_21, t_56] w) [(.int .i64 1)] w) fun k_57 =>
      pvv prog (Instr.indexAt 49 times_p0 i_10) w fun t_58 w =>
      ldv prog (Instr.loadAt 54 t_58) w fun t_59 w =>
      pvv prog (binOp .rem 54 t_59 (.int .u16 3)) w fun t_60 w =>
      pvv prog (oEq .eql 54 (.tmp 63) (.const (.int .u16 0)) t_60 (.int .u16 0)) w fun t_61 w =>
      cd t_61 (
        ldv prog (Instr.loadAt 53 o_7) w fun t_62 w =>
        Calls prog 19 #[t_0, t_62, t_21] w (Ret fun t_63 w =>
        k_57 [] w)) <|
      pvv prog (oEq .eql 54 (.tmp 63) (.const (.int .u16 1)) t_60 (.int .u16 1)) w fun t_64 w =>
      cd t_64 (
        ldv prog (Instr.loadAt 53 o_7) w fun t_65 w =>
        Calls prog 20 #[t_0, t_65, t_21] w (Ret fun t_66 w =>
        pvv prog (Instr.extract t_66 0) w fun t_67 w =>
        pvv prog (Instr.extract t_66 1) w fun t_68 w =>
        pv prog (oBi .len #[62] 3 #[false] #[t_67]) w fun t_69 w =>
        pvv prog (binOp .gtr 3 t_69 (.int .i64 0)) w fun t_70 w =>
        cd t_70 (
          pvv prog (Instr.indexAt 62 t_67 (.int .i64 0)) w fun t_71 w =>
          pvv prog (Instr.fieldAt 59 t_71 0) w fun t_72 w =>
          ldv prog (Instr.loadAt 3 t_72) w fun t_73 w =>
          Calls prog 9 #[t_1, t_73, (.string ⟨#[99]⟩), (.int .u8 7), t_21] w (Ret fun t_74 w =>
          k_57 [] w)) <|
        k_57 [] w)) <|
      ldv prog (Instr.loadAt 53 o_7) w fun t_75 w =>
      Calls prog 20 #[t_0, t_75, t_21] w (Ret fun t_76 w =>
      pvv prog (Instr.extract t_76 0) w fun t_77 w =>
      pvv prog (Instr.extract t_76 1) w fun t_78 w =>
      pv prog (oBi .len #[62] 3 #[false] #[t_77]) w fun t_79 w =>
      pvv prog (binOp .gtr 3 t_79 (.int .i64 0)) w fun t_80 w =>
      cd t_80 (
        pv prog (oBi .len #[62] 3 #[false] #[t_77]) w fun t_81 w =>
        pvv prog (binOp .sub 3 t_81 (.int .i64 1)) w fun t_82 w =>
        pvv prog (Instr.indexAt 62 t_77 t_82) w fun t_83 w =>
        pvv prog (Instr.fieldAt 59 t_83 0) w fun t_84 w =>
        ldv prog (Instr.loadAt 3 t_84) w fun t_85 w =>
        Calls prog 21 #[t_0, t_85, t_21] w (Ret fun t_86 w =>
        k_57 [] w)) <|
      k_57 [] w)))) <|
    K (.bool true) w) [(.int .i64 0), (.int .i64 0)] w))
theorem B6_eq (times_p0 : Value) (w : World) (K : Value → World → Prop) : denFn prog Tryd.f6 T6 [times_p0] w K = B6 times_p0 w K := by kernel_rfl
theorem c6 {times_p0 : Value} {w : World} {K : Value → World → Prop} (h : B6 times_p0 w K) : Calls prog 6 #[times_p0] w (Ret K) :=
  denFn_calls Tryd.func6 T6_ok (Eq.mpr (B6_eq times_p0 w K) h)

-- 91 slices.pdqsortOrdered[int]
def T91 : Ann := (.seq .none (.seq .none (.block (.loop 21778071482940061661655974875633165532942 [1, 2, 3, 8, 9] (.block (.seq .none (.seq (.seq .none (.seq (.seq .none .none) .none)) (.seq (.seq .none (.seq (.seq .none .none) .none)) (.meet 4380866641928 [3] (.seq .none (.seq (.seq .none .none) .none)) (.seq .none (.meet 2305280059260278784 [11, 12] (.seq .none (.seq (.seq .none (.seq .none .none)) .none)) (.meet 9442427122730076733440 [] (.seq .none (.seq (.seq .none (.seq .none .none)) .none)) (.seq (.seq (.draw [.op 0 .pure, .op 1 .pure, .op 2 .pure, .op 3 .pure, .op 4 .pure, .op 5 .pure, .op 6 .pure, .op 8 .pure, .op 9 .pure, .op 10 .pure, .op 7 .load, .op 11 .load, .op 12 .eff, .op 13 .pure, .op 14 .pure]) (.seq (.seq .none (.seq .none .none)) .none)) (.seq .none (.seq .none (.seq .none (.seq .none (.seq .none (.seq (.seq .none (.seq .none .none)) (.seq .none (.seq .none .none)))))))))))))))))))))
theorem T91_ok : chkFn prog Tryd.f91 T91 = true := by kernel_rfl
def B91 (data_p0 a_p1 b_p2 limit_p3 : Value) (w : World) (K : Value → World → Prop) : Prop :=
  lp (fun σ w again_5 => pop σ fun a_0 σ => pop σ fun b_1 σ => pop σ fun limit_2 σ => pop σ fun wasBalanced_3 σ => pop σ fun wasPartitioned_4 σ => fin σ <|
    pvv prog (binOp .sub 3 b_1 a_0) w fun t_6 w =>
    pvv prog (binOp .leq 3 t_6 (.int .i64 12)) w fun t_7 w =>
    cd t_7 (
      Calls prog 96 #[data_p0, a_0, b_1] w (Ret fun t_8 w =>
      K (.tuple #[]) w)) <|
    pvv prog (oEq .eql 3 (.tmp 28) (.const (.int .i64 0)) limit_2 (.int .i64 0)) w fun t_9 w =>
    cd t_9 (
      Calls prog 97 #[data_p0, a_0, b_1] w (Ret fun t_10 w =>
      K (.tuple #[]) w)) <|
    jn (fun σ w => pop σ fun limit_11 σ => fin σ <|
      Calls prog 99 #[data_p0, a_0, b_1] w (Ret fun t_12 w =>
      pvv prog (Instr.extract t_12 0) w fun t_13 w =>
      pvv prog (Instr.extract t_12 1) w fun t_14 w =>
      jn (fun σ w => pop σ fun pivot_15 σ => pop σ fun hint_16 σ => fin σ <|
        jn (fun σ w => fin σ <|
          dr w fun w =>
          pvv prog (binOp .gtr 3 a_0 (.int .i64 0)) w fun t_17 w =>
          gate (some (t_17, true)) (fun K => K data_p0 w) w fun t_18 w =>
          gate (some (t_17, true)) (fun K => K a_0 w) w fun t_19 w =>
          gate (some (t_17, true)) (fun K => pvv prog (binOp .sub 3 t_19 (.int .i64 1)) w K) w fun t_20 w =>
          gate (some (t_17, true)) (fun K => pvv prog (Instr.indexAt 41 t_18 t_20) w K) w fun t_21 w =>
          gate (some (t_17, true)) (fun K => K data_p0 w) w fun t_22 w =>
          gate (some (t_17, true)) (fun K => K pivot_15 w) w fun t_23 w =>
          gate (some (t_17, true)) (fun K => pvv prog (Instr.indexAt 41 t_22 t_23) w K) w fun t_24 w =>
          bindS (vN (Instr.loadAt 3 t_21)) fun m_26 => gate (some (t_17, true)) (fun K => ldv prog (Instr.loadAt 3 t_21) w K) w fun t_25 w =>
          bindS (vN (Instr.loadAt 3 t_24)) fun m_28 => gate (some (t_17, true)) (fun K => ldv prog (Instr.loadAt 3 t_24) w K) w fun t_27 w =>
          gate (some (t_17, true)) (fun K => Calls prog 102 #[t_25, t_27] w (Ret fun s_46 w => K s_46 w)) w fun t_29 w =>
          gate (some (t_17, true)) (fun K => pvv prog (Op.unary .not t_29) w K) w fun t_30 w =>
          pv prog (oPick t_17 t_30 (.bool false)) w fun t_31 w =>
          cd t_31 (
            Calls prog 103 #[data_p0, a_0, b_1, pivot_15] w (Ret fun t_32 w =>
            again_5 [t_32, b_1, limit_11, wasBalanced_3, wasPartitioned_4] w)) <|
          Calls prog 104 #[data_p0, a_0, b_1, pivot_15] w (Ret fun t_33 w =>
          pvv prog (Instr.extract t_33 0) w fun t_34 w =>
          pvv prog (Instr.extract t_33 1) w fun t_35 w =>
          pvv prog (binOp .sub 3 t_34 a_0) w fun t_36 w =>
          pvv prog (binOp .sub 3 b_1 t_34) w fun t_37 w =>
          pvv prog (binOp .quo 3 t_6 (.int .i64 8)) w fun t_38 w =>
          pvv prog (binOp .lss 3 t_36 t_37) w fun t_39 w =>
          cd t_39 (
            pvv prog (binOp .geq 3 t_36 t_38) w fun t_40 w =>
            Calls prog 91 #[data_p0, a_0, t_34, limit_11] w (Ret fun t_41 w =>
            pvv prog (binOp .add 3 t_34 (.int .i64 1)) w fun t_42 w =>
            again_5 [t_42, b_1, limit_11, t_40, t_35] w)) <|
          pvv prog (binOp .geq 3 t_37 t_38) w fun t_43 w =>
          pvv prog (binOp .add 3 t_34 (.int .i64 1)) w fun t_44 w =>
          Calls prog 91 #[data_p0, t_44, b_1, limit_11] w (Ret fun t_45 w =>
          again_5 [a_0, t_34, limit_11, t_43, t_35] w))) fun k_47 =>
        gate (some (wasBalanced_3, true)) (fun K => K wasPartitioned_4 w) w fun t_48 w =>
        pv prog (oPick wasBalanced_3 t_48 (.bool false)) w fun t_49 w =>
        gate (some (t_49, true)) (fun K => K hint_16 w) w fun t_50 w =>
        gate (some (t_49, true)) (fun K => pvv prog (oEq .eql 136 (.tmp 66) (.const (.int .i64 1)) t_50 (.int .i64 1)) w K) w fun t_51 w =>
        pv prog (oPick t_49 t_51 (.bool false)) w fun t_52 w =>
        cd t_52 (
          Calls prog 101 #[data_p0, a_0, b_1] w (Ret fun t_53 w =>
          cd t_53 (
            K (.tuple #[]) w) <|
          k_47 [] w)) <|
        k_47 [] w) fun k_54 =>
      pvv prog (oEq .eql 136 (.tmp 49) (.const (.int .i64 2)) t_14 (.int .i64 2)) w fun t_55 w =>
      cd t_55 (
        Calls prog 100 #[data_p0, a_0, b_1] w (Ret fun t_56 w =>
        pvv prog (binOp .sub 3 b_1 (.int .i64 1)) w fun t_57 w =>
        pvv prog (binOp .sub 3 t_13 a_0) w fun t_58 w =>
        pvv prog (binOp .sub 3 t_57 t_58) w fun t_59 w =>
        k_54 [t_59, (.int .i64 1)] w)) <|
      k_54 [t_13, t_14] w)) fun k_60 =>
    pvv prog (Op.unary .not wasBalanced_3) w fun t_61 w =>
    cd t_61 (
      Calls prog 98 #[data_p0, a_0, b_1] w (Ret fun t_62 w =>
      pvv prog (binOp .sub 3 limit_2 (.int .i64 1)) w fun t_63 w =>
      k_60 [t_63] w)) <|
    k_60 [limit_2] w) [a_p1, b_p2, limit_p3, (.bool true), (.bool true)] w
theorem B91_eq (data_p0 a_p1 b_p2 limit_p3 : Value) (w : World) (K : Value → World → Prop) : denFn prog Tryd.f91 T91 [data_p0, a_p1, b_p2, limit_p3] w K = B91 data_p0 a_p1 b_p2 limit_p3 w K := by kernel_rfl
theorem c91 {data_p0 a_p1 b_p2 limit_p3 : Value} {w : World} {K : Value → World → Prop} (h : B91 data_p0 a_p1 b_p2 limit_p3 w K) : Calls prog 91 #[data_p0, a_p1, b_p2, limit_p3] w (Ret K) :=
  denFn_calls Tryd.func91 T91_ok (Eq.mpr (B91_eq data_p0 a_p1 b_p2 limit_p3 w K) h)

-- 19 (*holdfast/session.Table).Begin
def T19 : Ann := (.seq .none (.seq (.block (.seq .none (.seq (.seq .none .none) (.seq .none (.seq (.seq .none .none) .none))))) (.seq .none (.seq (.block (.seq .none (.seq (.seq .none .none) (.seq .none (.seq (.seq .none .none) (.seq .none (.seq (.seq .none .none) .none))))))) (.seq (.draw [.op 0 .pure, .op 1 .pure, .op 2 .pure, .op 5 .pure, .op 6 .pure, .op 3 .load, .op 4 .load, .op 7 .pure, .op 8 .eff, .op 9 .eff]) (.seq (.draw [.op 0 .pure, .op 1 .pure, .op 2 .pure, .op 4 .pure, .op 3 .load, .op 5 .load, .op 6 .load, .op 7 .eff]) (.seq .none (.seq .none (.seq .none .none)))))))))
theorem T19_ok : chkFn prog Tryd.f19 T19 = true := by kernel_rfl
def B19 (t_p0 o_p1 now_p2 : Value) (w : World) (K : Value → World → Prop) : Prop :=
  efv prog (Instr.box 53 o_p1) w fun o_0 w =>
  efv prog (Instr.alloc 59 true (.tuple #[])) w fun t_1 w =>
  pvv prog (oEq .eql 50 (.tmp 12) (.const (.pointer none)) t_p0 (.pointer none)) w fun t_2 w =>
  cd t_2 (
    pvv prog (Instr.build 59 #[]) w fun t_3 w =>
    efu prog (Instr.storeAt 59 t_1 t_3) w fun u_4 w =>
    ∃ r_5, (do loadVar 59 (← asAddr t_1)).run prog w = .ok r_5 w ∧ K (.tuple #[r_5, (.int .i64 1)]) w) <|
  pvv prog (Instr.fieldAt 53 o_0 0) w fun t_6 w =>
  ldv prog (Instr.loadAt 9 t_6) w fun t_7 w =>
  Calls prog 25 #[t_7] w (Ret fun t_8 w =>
  pvv prog (Op.unary .not t_8) w fun t_9 w =>
  gate (some (t_9, false)) (fun K => pvv prog (Instr.fieldAt 53 o_0 1) w K) w fun t_10 w =>
  gate (some (t_9, false)) (fun K => ldv prog (Instr.loadAt 9 t_10) w K) w fun t_11 w =>
  gate (some (t_9, false)) (fun K => Calls prog 25 #[t_11] w (Ret K)) w fun t_12 w =>
  gate (some (t_9, false)) (fun K => pvv prog (Op.unary .not t_12) w K) w fun t_13 w =>
  pv prog (oPick t_9 (.bool true) t_13) w fun t_14 w =>
  cd t_14 (
    pvv prog (Instr.build 59 #[]) w fun t_15 w =>
    efu prog (Instr.storeAt 59 t_1 t_15) w fun u_16 w =>
    ∃ r_17, (do loadVar 59 (← asAddr t_1)).run prog w = .ok r_17 w ∧ K (.tuple #[r_17, (.int .i64 8)]) w) <|
  ldv prog (Instr.loadAt 53 o_0) w fun t_18 w =>
  Calls prog 20 #[t_p0, t_18, now_p2] w (Ret fun t_19 w =>
  pvv prog (Instr.extract t_19 0) w fun t_20 w =>
  pvv prog (Instr.extract t_19 1) w fun t_21 w =>
  pvv prog (oEq .neq 30 (.tmp 35) (.const (.int .i64 0)) t_21 (.int .i64 0)) w fun t_22 w =>
  cd t_22 (
    pvv prog (Instr.build 59 #[]) w fun t_23 w =>
    efu prog (Instr.storeAt 59 t_1 t_23) w fun u_24 w =>
    ∃ r_25, (do loadVar 59 (← asAddr t_1)).run prog w = .ok r_25 w ∧ K (.tuple #[r_25, t_21]) w) <|
  pv prog (oNil t_p0) w fun t_26 w =>
  pvv prog (Instr.fieldAt 96 t_26 1) w fun t_27 w =>
  ldv prog (Instr.loadAt 3 t_27) w fun t_28 w =>
  pvv prog (binOp .gtr 3 t_28 (.int .i64 1099511627776)) w fun t_29 w =>
  cd t_29 (
    pvv prog (Instr.build 59 #[]) w fun t_30 w =>
    efu prog (Instr.storeAt 59 t_1 t_30) w fun u_31 w =>
    ∃ r_32, (do loadVar 59 (← asAddr t_1)).run prog w = .ok r_32 w ∧ K (.tuple #[r_32, (.int .i64 7)]) w) <|
  pv prog (oBi .len #[62] 3 #[false] #[t_20]) w fun t_33 w =>
  pvv prog (binOp .geq 3 t_33 (.int .i64 3)) w fun t_34 w =>
  cd t_34 (
    pvv prog (Instr.build 59 #[]) w fun t_35 w =>
    efu prog (Instr.storeAt 59 t_1 t_35) w fun u_36 w =>
    ∃ r_37, (do loadVar 59 (← asAddr t_1)).run prog w = .ok r_37 w ∧ K (.tuple #[r_37, (.int .i64 22)]) w) <|
  dr w fun w =>
  pv prog (oNil t_p0) w fun t_38 w =>
  pvv prog (Instr.fieldAt 96 t_38 1) w fun t_39 w =>
  bindS (vN (Instr.loadAt 3 t_39)) fun m_41 => ldv prog (Instr.loadAt 3 t_39) w fun t_40 w =>
  bindS (vN (Instr.loadAt 53 o_0)) fun m_43 => ldv prog (Instr.loadAt 53 o_0) w fun t_42 w =>
  pvv prog (Instr.build 59 #[(0, t_40), (1, t_42), (2, now_p2), (3, now_p2)]) w fun t_44 w =>
  efv prog (Instr.alloc 59 true (.tuple #[])) w fun s_45 w => stay prog none m_43 t_42 w <| stay prog none m_41 t_40 w <| 
  efu prog (Instr.storeAt 59 s_45 t_44) w fun u_46 w =>
  dr w fun w =>
  pv prog (oNil t_p0) w fun t_47 w =>
  pvv prog (Instr.fieldAt 96 t_47 2) w fun t_48 w =>
  pvv prog (Instr.fieldAt 59 s_45 0) w fun t_49 w =>
  bindS (vN (Instr.loadAt 92 t_48)) fun m_51 => ldv prog (Instr.loadAt 92 t_48) w fun t_50 w =>
  bindS (vN (Instr.loadAt 3 t_49)) fun m_53 => ldv prog (Instr.loadAt 3 t_49) w fun t_52 w =>
  bindS (vN (Instr.loadAt 59 s_45)) fun m_55 => ldv prog (Instr.loadAt 59 s_45) w fun t_54 w =>
  efu prog (Instr.mapUpdate 92 t_50 t_52 t_54) w fun u_56 w =>
  pv prog (oNil t_p0) w fun t_57 w =>
  pvv prog (Instr.fieldAt 96 t_57 1) w fun t_58 w =>
  ldv prog (Instr.loadAt 3 t_58) w fun t_59 w =>
  pvv prog (binOp .add 3 t_59 (.int .i64 1)) w fun t_60 w =>
  pv prog (oNil t_p0) w fun t_61 w =>
  pvv prog (Instr.fieldAt 96 t_61 1) w fun t_62 w =>
  efu prog (Instr.storeAt 3 t_62 t_60) w fun u_63 w =>
  pv prog (oNil t_p0) w fun t_64 w =>
  pvv prog (Instr.fieldAt 96 t_64 0) w fun t_65 w =>
  pvv prog (Instr.fieldAt 94 t_65 0) w fun t_66 w =>
  efu prog (Instr.storeAt 3 t_66 now_p2) w fun u_67 w =>
  ldv prog (Instr.loadAt 59 s_45) w fun t_68 w =>
  efu prog (Instr.storeAt 59 t_1 t_68) w fun u_69 w =>
  ∃ r_70, (do loadVar 59 (← asAddr t_1)).run prog w = .ok r_70 w ∧ K (.tuple #[r_70, (.int .i64 0)]) w))
theorem B19_eq (t_p0 o_p1 now_p2 : Value) (w : World) (K : Value → World → Prop) : denFn prog Tryd.f19 T19 [t_p0, o_p1, now_p2] w K = B19 t_p0 o_p1 now_p2 w K := by kernel_rfl
theorem c19 {t_p0 o_p1 now_p2 : Value} {w : World} {K : Value → World → Prop} (h : B19 t_p0 o_p1 now_p2 w K) : Calls prog 19 #[t_p0, o_p1, now_p2] w (Ret K) :=
  denFn_calls Tryd.func19 T19_ok (Eq.mpr (B19_eq t_p0 o_p1 now_p2 w K) h)

-- 35 (*holdfast/holdfastref12.Store).Access
def T35 : Ann := (.seq .none (.seq (.seq .none (.seq .none (.seq (.seq .none .none) .none))) (.seq (.seq .none (.seq (.seq .none .none) .none)) (.seq (.seq .none (.block (.loop 73786976294569771648 [9] (.seq (.seq .none (.seq .none .none)) (.seq (.block (.seq .none (.seq (.seq .none .none) .none))) .none))))) (.seq .none .none)))))
theorem T35_ok : chkFn prog Tryd.f35 T35 = true := by kernel_rfl
def B35 (s_p0 id_p1 now_p2 : Value) (w : World) (K : Value → World → Prop) : Prop :=
  efv prog (Instr.alloc 29 true (.tuple #[])) w fun t_0 w =>
  Calls prog 64 #[s_p0, now_p2] w (Ret fun t_1 w =>
  pvv prog (oEq .neq 30 (.tmp 13) (.const (.int .i64 0)) t_1 (.int .i64 0)) w fun t_2 w =>
  cd t_2 (
    pvv prog (Instr.build 29 #[]) w fun t_3 w =>
    efu prog (Instr.storeAt 29 t_0 t_3) w fun u_4 w =>
    ∃ r_5, (do loadVar 29 (← asAddr t_0)).run prog w = .ok r_5 w ∧ K (.tuple #[r_5, t_1]) w) <|
  pvv prog (binOp .lss 3 id_p1 (.int .i64 1)) w fun t_6 w =>
  gate (some (t_6, false)) (fun K => K id_p1 w) w fun t_7 w =>
  gate (some (t_6, false)) (fun K => K s_p0 w) w fun t_8 w =>
  gate (some (t_6, false)) (fun K => pv prog (oNil t_8) w K) w fun t_9 w =>
  gate (some (t_6, false)) (fun K => pvv prog (Instr.fieldAt 83 t_9 1) w K) w fun t_10 w =>
  gate (some (t_6, false)) (fun K => ldv prog (Instr.loadAt 3 t_10) w K) w fun t_11 w =>
  gate (some (t_6, false)) (fun K => pvv prog (binOp .geq 3 t_7 t_11) w K) w fun t_12 w =>
  pv prog (oPick t_6 (.bool true) t_12) w fun t_13 w =>
  cd t_13 (
    pvv prog (Instr.build 29 #[]) w fun t_14 w =>
    efu prog (Instr.storeAt 29 t_0 t_14) w fun u_15 w =>
    ∃ r_16, (do loadVar 29 (← asAddr t_0)).run prog w = .ok r_16 w ∧ K (.tuple #[r_16, (.int .i64 4)]) w) <|
  lp (fun σ w again_18 => pop σ fun i_17 σ => fin σ <|
    pv prog (oNil s_p0) w fun t_19 w =>
    pvv prog (Instr.fieldAt 83 t_19 4) w fun t_20 w =>
    ldv prog (Instr.loadAt 81 t_20) w fun t_21 w =>
    pv prog (oBi .len #[81] 3 #[false] #[t_21]) w fun t_22 w =>
    pvv prog (binOp .lss 3 i_17 t_22) w fun t_23 w =>
    cd t_23 (
      pv prog (oNil s_p0) w fun t_24 w =>
      pvv prog (Instr.fieldAt 83 t_24 4) w fun t_25 w =>
      ldv prog (Instr.loadAt 81 t_25) w fun t_26 w =>
      pvv prog (Instr.indexAt 81 t_26 i_17) w fun t_27 w =>
      pvv prog (Instr.fieldAt 29 t_27 0) w fun t_28 w =>
      ldv prog (Instr.loadAt 3 t_28) w fun t_29 w =>
      pvv prog (oEq .eql 3 (.tmp 44) (.tmp 45) t_29 id_p1) w fun t_30 w =>
      gate (some (t_30, true)) (fun K => K now_p2 w) w fun t_31 w =>
      gate (some (t_30, true)) (fun K => K s_p0 w) w fun t_32 w =>
      gate (some (t_30, true)) (fun K => pv prog (oNil t_32) w K) w fun t_33 w =>
      gate (some (t_30, true)) (fun K => pvv prog (Instr.fieldAt 83 t_33 4) w K) w fun t_34 w =>
      gate (some (t_30, true)) (fun K => ldv prog (Instr.loadAt 81 t_34) w K) w fun t_35 w =>
      gate (some (t_30, true)) (fun K => K i_17 w) w fun t_36 w =>
      gate (some (t_30, true)) (fun K => pvv prog (Instr.indexAt 81 t_35 t_36) w K) w fun t_37 w =>
      gate (some (t_30, true)) (fun K => pvv prog (Instr.fieldAt 29 t_37 3) w K) w fun t_38 w =>
      gate (some (t_30, true)) (fun K => ldv prog (Instr.loadAt 3 t_38) w K) w fun t_39 w =>
      gate (some (t_30, true)) (fun K => pvv prog (binOp .lss 3 t_31 t_39) w K) w fun t_40 w =>
      pv prog (oPick t_30 t_40 (.bool false)) w fun t_41 w =>
      cd t_41 (
        pv prog (oNil s_p0) w fun t_42 w =>
        pvv prog (Instr.fieldAt 83 t_42 4) w fun t_43 w =>
        ldv prog (Instr.loadAt 81 t_43) w fun t_44 w =>
        pvv prog (Instr.indexAt 81 t_44 i_17) w fun t_45 w =>
        ldv prog (Instr.loadAt 29 t_45) w fun t_46 w =>
        efu prog (Instr.storeAt 29 t_0 t_46) w fun u_47 w =>
        ∃ r_48, (do loadVar 29 (← asAddr t_0)).run prog w = .ok r_48 w ∧ K (.tuple #[r_48, (.int .i64 0)]) w) <|
      pvv prog (binOp .add 3 i_17 (.int .i64 1)) w fun t_49 w =>
      again_18 [t_49] w) <|
    pvv prog (Instr.build 29 #[]) w fun t_50 w =>
    efu prog (Instr.storeAt 29 t_0 t_50) w fun u_51 w =>
    ∃ r_52, (do loadVar 29 (← asAddr t_0)).run prog w = .ok r_52 w ∧ K (.tuple #[r_52, (.int .i64 12)]) w) [(.int .i64 0)] w)
theorem B35_eq (s_p0 id_p1 now_p2 : Value) (w : World) (K : Value → World → Prop) : denFn prog Tryd.f35 T35 [s_p0, id_p1, now_p2] w K = B35 s_p0 id_p1 now_p2 w K := by kernel_rfl
theorem c35 {s_p0 id_p1 now_p2 : Value} {w : World} {K : Value → World → Prop} (h : B35 s_p0 id_p1 now_p2 w K) : Calls prog 35 #[s_p0, id_p1, now_p2] w (Ret K) :=
  denFn_calls Tryd.func35 T35_ok (Eq.mpr (B35_eq s_p0 id_p1 now_p2 w K) h)

-- 96 slices.insertionSortOrdered[int]
def T96 : Ann := (.seq .none (.block (.loop 562949953420480 [6] (.seq (.seq .none (.seq .none .none)) (.seq (.block (.seq .none (.block (.loop 562949953355904 [7] (.seq (.seq (.draw [.op 0 .pure, .op 1 .pure, .op 2 .pure, .op 3 .pure, .op 4 .pure, .op 5 .pure, .op 6 .pure, .op 8 .pure, .op 9 .pure, .op 10 .pure, .op 11 .pure, .op 7 .load, .op 12 .load, .op 13 .eff, .op 14 .pure]) (.seq .none .none)) (.seq (.block (.draw [.op 0 .pure, .op 1 .pure, .op 2 .pure, .op 3 .pure, .op 4 .pure, .op 5 .pure, .op 6 .pure, .op 7 .pure, .op 8 .pure, .op 10 .pure, .op 11 .pure, .op 12 .pure, .op 9 .load, .op 13 .load, .op 14 .pure, .op 15 .eff, .op 16 .pure, .op 17 .eff])) .none)))))) .none)))))
theorem T96_ok : chkFn prog Tryd.f96 T96 = true := by kernel_rfl
def B96 (data_p0 a_p1 b_p2 : Value) (w : World) (K : Value → World → Prop) : Prop :=
  pvv prog (binOp .add 3 a_p1 (.int .i64 1)) w fun t_0 w =>
  lp (fun σ w again_2 => pop σ fun i_1 σ => fin σ <|
    pvv prog (binOp .lss 3 i_1 b_p2) w fun t_3 w =>
    cd t_3 (
      lp (fun σ w again_5 => pop σ fun j_4 σ => fin σ <|
        dr w fun w =>
        pvv prog (binOp .gtr 3 j_4 a_p1) w fun t_6 w =>
        gate (some (t_6, true)) (fun K => K data_p0 w) w fun t_7 w =>
        gate (some (t_6, true)) (fun K => K j_4 w) w fun t_8 w =>
        gate (some (t_6, true)) (fun K => pvv prog (Instr.indexAt 41 t_7 t_8) w K) w fun t_9 w =>
        gate (some (t_6, true)) (fun K => K data_p0 w) w fun t_10 w =>
        gate (some (t_6, true)) (fun K => K j_4 w) w fun t_11 w =>
        gate (some (t_6, true)) (fun K => pvv prog (binOp .sub 3 t_11 (.int .i64 1)) w K) w fun t_12 w =>
        gate (some (t_6, true)) (fun K => pvv prog (Instr.indexAt 41 t_10 t_12) w K) w fun t_13 w =>
        bindS (vN (Instr.loadAt 3 t_9)) fun m_15 => gate (some (t_6, true)) (fun K => ldv prog (Instr.loadAt 3 t_9) w K) w fun t_14 w =>
        bindS (vN (Instr.loadAt 3 t_13)) fun m_17 => gate (some (t_6, true)) (fun K => ldv prog (Instr.loadAt 3 t_13) w K) w fun t_16 w =>
        gate (some (t_6, true)) (fun K => Calls prog 102 #[t_14, t_16] w (Ret fun s_36 w => K s_36 w)) w fun t_18 w =>
        pv prog (oPick t_6 t_18 (.bool false)) w fun t_19 w =>
        cd t_19 (
          dr w fun w =>
          pvv prog (binOp .sub 3 j_4 (.int .i64 1)) w fun t_20 w =>
          pvv prog (binOp .sub 3 j_4 (.int .i64 1)) w fun t_21 w =>
          pvv prog (Instr.indexAt 41 data_p0 t_21) w fun t_22 w =>
          pvv prog (Instr.indexAt 41 data_p0 j_4) w fun t_23 w =>
          bindS (vN (Instr.loadAt 3 t_22)) fun m_25 => ldv prog (Instr.loadAt 3 t_22) w fun t_24 w =>
          bindS (vN (Instr.loadAt 3 t_23)) fun m_27 => ldv prog (Instr.loadAt 3 t_23) w fun t_26 w =>
          pvv prog (Instr.indexAt 41 data_p0 j_4) w fun t_28 w =>
          efu prog (Instr.storeAt 3 t_28 t_24) w fun u_29 w =>
          pvv prog (Instr.indexAt 41 data_p0 t_20) w fun t_30 w =>
          efu prog (Instr.storeAt 3 t_30 t_26) w fun u_31 w =>
          pvv prog (binOp .sub 3 j_4 (.int .i64 1)) w fun t_32 w =>
          again_5 [t_32] w) <|
        pvv prog (binOp .add 3 i_1 (.int .i64 1)) w fun t_35 w =>
        again_2 [t_35] w) [i_1] w) <|
    K (.tuple #[]) w) [t_0] w
theorem B96_eq (data_p0 a_p1 b_p2 : Value) (w : World) (K : Value → World → Prop) : denFn prog Tryd.f96 T96 [data_p0, a_p1, b_p2] w K = B96 data_p0 a_p1 b_p2 w K := by kernel_rfl
theorem c96 {data_p0 a_p1 b_p2 : Value} {w : World} {K : Value → World → Prop} (h : B96 data_p0 a_p1 b_p2 w K) : Calls prog 96 #[data_p0, a_p1, b_p2] w (Ret K) :=
  denFn_calls Tryd.func96 T96_ok (Eq.mpr (B96_eq data_p0 a_p1 b_p2 w K) h)

-- 36 (*holdfast/token.Store).Exchange
def T36 : Ann := (.seq .none (.seq .none (.seq (.block (.seq .none (.seq (.seq .none .none) (.seq .none (.seq (.seq .none .none) (.seq .none (.seq (.seq .none .none) .none))))))) (.seq .none (.seq .none .none)))))
theorem T36_ok : chkFn prog Tryd.f36 T36 = true := by kernel_rfl
def B36 (s_p0 id_p1 scopes_p2 now_p3 : Value) (w : World) (K : Value → World → Prop) : Prop :=
  efv prog (Instr.alloc 29 true (.tuple #[])) w fun t_0 w =>
  Calls prog 14 #[s_p0, id_p1, now_p3] w (Ret fun t_1 w =>
  pvv prog (Instr.extract t_1 0) w fun t_2 w =>
  pvv prog (Instr.extract t_1 1) w fun t_3 w =>
  efv prog (Instr.alloc 29 true (.tuple #[])) w fun t_4 w =>
  efu prog (Instr.storeAt 29 t_4 t_2) w fun u_5 w =>
  pvv prog (oEq .neq 30 (.tmp 20) (.const (.int .i64 0)) t_3 (.int .i64 0)) w fun t_6 w =>
  cd t_6 (
    pvv prog (Instr.build 29 #[]) w fun t_7 w =>
    efu prog (Instr.storeAt 29 t_0 t_7) w fun u_8 w =>
    ∃ r_9, (do loadVar 29 (← asAddr t_0)).run prog w = .ok r_9 w ∧ K (.tuple #[r_9, t_3]) w) <|
  pvv prog (Instr.fieldAt 29 t_4 2) w fun t_10 w =>
  ldv prog (Instr.loadAt 25 t_10) w fun t_11 w =>
  pvv prog (binOp .andNot 25 scopes_p2 t_11) w fun t_12 w =>
  pvv prog (oEq .neq 25 (.tmp 28) (.const (.int .u8 0)) t_12 (.int .u8 0)) w fun t_13 w =>
  cd t_13 (
    pvv prog (Instr.build 29 #[]) w fun t_14 w =>
    efu prog (Instr.storeAt 29 t_0 t_14) w fun u_15 w =>
    ∃ r_16, (do loadVar 29 (← asAddr t_0)).run prog w = .ok r_16 w ∧ K (.tuple #[r_16, (.int .i64 14)]) w) <|
  pv prog (oNil s_p0) w fun t_17 w =>
  pvv prog (Instr.fieldAt 74 t_17 1) w fun t_18 w =>
  ldv prog (Instr.loadAt 72 t_18) w fun t_19 w =>
  Calls prog 27 #[t_19] w (Ret fun t_20 w =>
  cd t_20 (
    pvv prog (Instr.build 29 #[]) w fun t_21 w =>
    efu prog (Instr.storeAt 29 t_0 t_21) w fun u_22 w =>
    ∃ r_23, (do loadVar 29 (← asAddr t_0)).run prog w = .ok r_23 w ∧ K (.tuple #[r_23, (.int .i64 7)]) w) <|
  pv prog (oNil s_p0) w fun t_24 w =>
  pvv prog (Instr.fieldAt 74 t_24 2) w fun t_25 w =>
  efu prog (Instr.storeAt 3 t_25 now_p3) w fun u_26 w =>
  pvv prog (Instr.fieldAt 29 t_4 1) w fun t_27 w =>
  ldv prog (Instr.loadAt 3 t_27) w fun t_28 w =>
  pvv prog (Instr.fieldAt 29 t_4 3) w fun t_29 w =>
  ldv prog (Instr.loadAt 3 t_29) w fun t_30 w =>
  Calls prog 28 #[s_p0, t_28, scopes_p2, t_30] w (Ret fun t_31 w =>
  efu prog (Instr.storeAt 29 t_0 t_31) w fun u_32 w =>
  ∃ r_33, (do loadVar 29 (← asAddr t_0)).run prog w = .ok r_33 w ∧ K (.tuple #[r_33, (.int .i64 0)]) w)))
theorem B36_eq (s_p0 id_p1 scopes_p2 now_p3 : Value) (w : World) (K : Value → World → Prop) : denFn prog Tryd.f36 T36 [s_p0, id_p1, scopes_p2, now_p3] w K = B36 s_p0 id_p1 scopes_p2 now_p3 w K := by kernel_rfl
theorem c36 {s_p0 id_p1 scopes_p2 now_p3 : Value} {w : World} {K : Value → World → Prop} (h : B36 s_p0 id_p1 scopes_p2 now_p3 w K) : Calls prog 36 #[s_p0, id_p1, scopes_p2, now_p3] w (Ret K) :=
  denFn_calls Tryd.func36 T36_ok (Eq.mpr (B36_eq s_p0 id_p1 scopes_p2 now_p3 w K) h)

-- 61 holdfast/holdfastref02.IsName
def T61 : Ann := (.seq .none (.seq (.seq .none (.block (.loop 8589934588 [3] (.seq (.seq .none (.seq .none .none)) (.seq (.block (.seq .none (.seq .none (.seq (.seq .none .none) .none)))) .none))))) (.seq .none .none)))
theorem T61_ok : chkFn prog Tryd.f61 T61 = true := by kernel_rfl
def B61 (s_p0 : Value) (w : World) (K : Value → World → Prop) : Prop :=
  lp (fun σ w again_1 => pop σ fun i_0 σ => fin σ <|
    pv prog (oBi .len #[9] 3 #[false] #[s_p0]) w fun t_2 w =>
    pvv prog (binOp .lss 3 i_0 t_2) w fun t_3 w =>
    cd t_3 (
      pvv prog (Instr.index 9 s_p0 i_0) w fun t_4 w =>
      pvv prog (binOp .geq 5 t_4 (.int .u8 97)) w fun t_5 w =>
      gate (some (t_5, true)) (fun K => K t_4 w) w fun t_6 w =>
      gate (some (t_5, true)) (fun K => pvv prog (binOp .leq 5 t_6 (.int .u8 122)) w K) w fun t_7 w =>
      pv prog (oPick t_5 t_7 (.bool false)) w fun t_8 w =>
      gate (some (t_8, false)) (fun K => K t_4 w) w fun t_9 w =>
      gate (some (t_8, false)) (fun K => pvv prog (binOp .geq 5 t_9 (.int .u8 48)) w K) w fun t_10 w =>
      gate (some (t_8, false)) (fun K => K t_10 w) w fun t_11 w =>
      gate (some (t_11, true)) (fun K => K t_4 w) w fun t_12 w =>
      gate (some (t_11, true)) (fun K => pvv prog (binOp .leq 5 t_12 (.int .u8 57)) w K) w fun t_13 w =>
      gate (some (t_8, false)) (fun K => pv prog (oPick t_11 t_13 (.bool false)) w K) w fun t_14 w =>
      pv prog (oPick t_8 (.bool true) t_14) w fun t_15 w =>
      gate (some (t_15, false)) (fun K => K t_4 w) w fun t_16 w =>
      gate (some (t_15, false)) (fun K => pvv prog (oEq .eql 5 (.tmp 29) (.const (.int .u8 45)) t_16 (.int .u8 45)) w K) w fun t_17 w =>
      pv prog (oPick t_15 (.bool true) t_17) w fun t_18 w =>
      pvv prog (Op.unary .not t_18) w fun t_19 w =>
      cd t_19 (
        K (.bool false) w) <|
      pvv prog (binOp .add 3 i_0 (.int .i64 1)) w fun t_20 w =>
      again_1 [t_20] w) <|
    pv prog (oBi .len #[9] 3 #[false] #[s_p0]) w fun t_21 w =>
    pvv prog (binOp .geq 3 t_21 (.int .i64 1)) w fun t_22 w =>
    gate (some (t_22, true)) (fun K => K s_p0 w) w fun t_23 w =>
    gate (some (t_22, true)) (fun K => pv prog (oBi .len #[9] 3 #[false] #[t_23]) w K) w fun t_24 w =>
    gate (some (t_22, true)) (fun K => pvv prog (binOp .leq 3 t_24 (.int .i64 9)) w K) w fun t_25 w =>
    pv prog (oPick t_22 t_25 (.bool false)) w fun t_26 w =>
    K t_26 w) [(.int .i64 0)] w
theorem B61_eq (s_p0 : Value) (w : World) (K : Value → World → Prop) : denFn prog Tryd.f61 T61 [s_p0] w K = B61 s_p0 w K := by kernel_rfl
theorem c61 {s_p0 : Value} {w : World} {K : Value → World → Prop} (h : B61 s_p0 w K) : Calls prog 61 #[s_p0] w (Ret K) :=
  denFn_calls Tryd.func61 T61_ok (Eq.mpr (B61_eq s_p0 w K) h)

-- 28 (*holdfast/token.Store).fresh
def T28 : Ann := (.seq .none (.seq .none (.seq (.draw [.op 0 .pure, .op 1 .pure, .op 2 .pure, .op 3 .pure, .op 5 .pure, .op 4 .load, .op 6 .load, .op 7 .load, .op 8 .eff]) (.seq .none (.seq .none .none)))))
theorem T28_ok : chkFn prog Tryd.f28 T28 = true := by kernel_rfl
def B28 (s_p0 family_p1 scopes_p2 until_p3 : Value) (w : World) (K : Value → World → Prop) : Prop :=
  efv prog (Instr.alloc 29 true (.tuple #[])) w fun t_0 w =>
  pv prog (oNil s_p0) w fun t_1 w =>
  pvv prog (Instr.fieldAt 74 t_1 1) w fun t_2 w =>
  pvv prog (Instr.fieldAt 72 t_2 0) w fun t_3 w =>
  ldv prog (Instr.loadAt 3 t_3) w fun t_4 w =>
  pv prog (oBi .min #[3, 3] 3 #[false, true] #[until_p3, (.int .i64 1099511627776)]) w fun t_5 w =>
  pvv prog (Instr.build 29 #[(0, t_4), (1, family_p1), (2, scopes_p2), (3, t_5)]) w fun t_6 w =>
  efv prog (Instr.alloc 29 true (.tuple #[])) w fun t_7 w =>
  efu prog (Instr.storeAt 29 t_7 t_6) w fun u_8 w =>
  dr w fun w =>
  pv prog (oNil s_p0) w fun t_9 w =>
  pvv prog (Instr.fieldAt 74 t_9 1) w fun t_10 w =>
  pvv prog (Instr.fieldAt 72 t_10 1) w fun t_11 w =>
  pvv prog (Instr.fieldAt 29 t_7 0) w fun t_12 w =>
  bindS (vN (Instr.loadAt 70 t_11)) fun m_14 => ldv prog (Instr.loadAt 70 t_11) w fun t_13 w =>
  bindS (vN (Instr.loadAt 3 t_12)) fun m_16 => ldv prog (Instr.loadAt 3 t_12) w fun t_15 w =>
  bindS (vN (Instr.loadAt 29 t_7)) fun m_18 => ldv prog (Instr.loadAt 29 t_7) w fun t_17 w =>
  efu prog (Instr.mapUpdate 70 t_13 t_15 t_17) w fun u_19 w =>
  pv prog (oNil s_p0) w fun t_20 w =>
  pvv prog (Instr.fieldAt 74 t_20 1) w fun t_21 w =>
  pvv prog (Instr.fieldAt 72 t_21 0) w fun t_22 w =>
  ldv prog (Instr.loadAt 3 t_22) w fun t_23 w =>
  pvv prog (binOp .add 3 t_23 (.int .i64 1)) w fun t_24 w =>
  pv prog (oNil s_p0) w fun t_25 w =>
  pvv prog (Instr.fieldAt 74 t_25 1) w fun t_26 w =>
  pvv prog (Instr.fieldAt 72 t_26 0) w fun t_27 w =>
  efu prog (Instr.storeAt 3 t_27 t_24) w fun u_28 w =>
  ldv prog (Instr.loadAt 29 t_7) w fun t_29 w =>
  efu prog (Instr.storeAt 29 t_0 t_29) w fun u_30 w =>
  ∃ r_31, (do loadVar 29 (← asAddr t_0)).run prog w = .ok r_31 w ∧ K r_31 w
theorem B28_eq (s_p0 family_p1 scopes_p2 until_p3 : Value) (w : World) (K : Value → World → Prop) : denFn prog Tryd.f28 T28 [s_p0, family_p1, scopes_p2, until_p3] w K = B28 s_p0 family_p1 scopes_p2 until_p3 w K := by kernel_rfl
theorem c28 {s_p0 family_p1 scopes_p2 until_p3 : Value} {w : World} {K : Value → World → Prop} (h : B28 s_p0 family_p1 scopes_p2 until_p3 w K) : Calls prog 28 #[s_p0, family_p1, scopes_p2, until_p3] w (Ret K) :=
  denFn_calls Tryd.func28 T28_ok (Eq.mpr (B28_eq s_p0 family_p1 scopes_p2 until_p3 w K) h)

-- 14 (*holdfast/token.Store).Access
def T14 : Ann := (.seq .none (.seq (.seq .none (.seq .none (.seq (.seq .none .none) .none))) (.seq .none (.seq (.seq .none (.seq (.seq .none .none) .none)) (.seq .none .none)))))
theorem T14_ok : chkFn prog Tryd.f14 T14 = true := by kernel_rfl
def B14 (s_p0 id_p1 now_p2 : Value) (w : World) (K : Value → World → Prop) : Prop :=
  efv prog (Instr.alloc 29 true (.tuple #[])) w fun t_0 w =>
  Calls prog 24 #[s_p0, now_p2] w (Ret fun t_1 w =>
  pvv prog (oEq .neq 30 (.tmp 14) (.const (.int .i64 0)) t_1 (.int .i64 0)) w fun t_2 w =>
  cd t_2 (
    pvv prog (Instr.build 29 #[]) w fun t_3 w =>
    efu prog (Instr.storeAt 29 t_0 t_3) w fun u_4 w =>
    ∃ r_5, (do loadVar 29 (← asAddr t_0)).run prog w = .ok r_5 w ∧ K (.tuple #[r_5, t_1]) w) <|
  pv prog (oNil s_p0) w fun t_6 w =>
  pvv prog (Instr.fieldAt 74 t_6 1) w fun t_7 w =>
  ldv prog (Instr.loadAt 72 t_7) w fun t_8 w =>
  Calls prog 45 #[t_8, id_p1] w (Ret fun t_9 w =>
  pvv prog (Instr.extract t_9 0) w fun t_10 w =>
  pvv prog (Instr.extract t_9 1) w fun t_11 w =>
  efv prog (Instr.alloc 29 true (.tuple #[])) w fun t_12 w =>
  efu prog (Instr.storeAt 29 t_12 t_10) w fun u_13 w =>
  pvv prog (oEq .eql 30 (.tmp 27) (.const (.int .i64 0)) t_11 (.int .i64 0)) w fun t_14 w =>
  gate (some (t_14, true)) (fun K => K now_p2 w) w fun t_15 w =>
  gate (some (t_14, true)) (fun K => pvv prog (Instr.fieldAt 29 t_12 3) w K) w fun t_16 w =>
  gate (some (t_14, true)) (fun K => ldv prog (Instr.loadAt 3 t_16) w K) w fun t_17 w =>
  gate (some (t_14, true)) (fun K => pvv prog (binOp .geq 3 t_15 t_17) w K) w fun t_18 w =>
  pv prog (oPick t_14 t_18 (.bool false)) w fun t_19 w =>
  cd t_19 (
    pvv prog (Instr.build 29 #[]) w fun t_20 w =>
    efu prog (Instr.storeAt 29 t_0 t_20) w fun u_21 w =>
    ∃ r_22, (do loadVar 29 (← asAddr t_0)).run prog w = .ok r_22 w ∧ K (.tuple #[r_22, (.int .i64 12)]) w) <|
  ldv prog (Instr.loadAt 29 t_12) w fun t_23 w =>
  efu prog (Instr.storeAt 29 t_0 t_23) w fun u_24 w =>
  ∃ r_25, (do loadVar 29 (← asAddr t_0)).run prog w = .ok r_25 w ∧ K (.tuple #[r_25, t_11]) w))
theorem B14_eq (s_p0 id_p1 now_p2 : Value) (w : World) (K : Value → World → Prop) : denFn prog Tryd.f14 T14 [s_p0, id_p1, now_p2] w K = B14 s_p0 id_p1 now_p2 w K := by kernel_rfl
theorem c14 {s_p0 id_p1 now_p2 : Value} {w : World} {K : Value → World → Prop} (h : B14 s_p0 id_p1 now_p2 w K) : Calls prog 14 #[s_p0, id_p1, now_p2] w (Ret K) :=
  denFn_calls Tryd.func14 T14_ok (Eq.mpr (B14_eq s_p0 id_p1 now_p2 w K) h)

-- 105 math/bits.Len32
def T105 : Ann := (.seq .none (.meet 125 [0, 2] (.seq .none (.seq (.seq .none .none) .none)) (.meet 8069 [0, 2] (.seq .none (.seq (.seq .none .none) .none)) (.seq .none .none))))
theorem T105_ok : chkFn prog Tryd.f105 T105 = true := by kernel_rfl
def B105 (x_p0 : Value) (w : World) (K : Value → World → Prop) : Prop :=
  jn (fun σ w => pop σ fun x_0 σ => pop σ fun n_1 σ => fin σ <|
    jn (fun σ w => pop σ fun x_2 σ => pop σ fun n_3 σ => fin σ <|
      pvv prog (convert 145 5 x_2) w fun t_4 w =>
      pvv prog (Instr.index 9 (.string ⟨#[0, 1, 2, 2, 3, 3, 3, 3, 4, 4, 4, 4, 4, 4, 4, 4, 5, 5, 5, 5, 5, 5, 5, 5, 5, 5, 5, 5, 5, 5, 5, 5, 6, 6, 6, 6, 6, 6, 6, 6, 6, 6, 6, 6, 6, 6, 6, 6, 6, 6, 6, 6, 6, 6, 6, 6, 6, 6, 6, 6, 6, 6, 6, 6, 7, 7, 7, 7, 7, 7, 7, 7, 7, 7, 7, 7, 7, 7, 7, 7, 7, 7, 7, 7, 7, 7, 7, 7, 7, 7, 7, 7, 7, 7, 7, 7, 7, 7, 7, 7, 7, 7, 7, 7, 7, 7, 7, 7, 7, 7, 7, 7, 7, 7, 7, 7, 7, 7, 7, 7, 7, 7, 7, 7, 7, 7, 7, 7, 8, 8, 8, 8, 8, 8, 8, 8, 8, 8, 8, 8, 8, 8, 8, 8, 8, 8, 8, 8, 8, 8, 8, 8, 8, 8, 8, 8, 8, 8, 8, 8, 8, 8, 8, 8, 8, 8, 8, 8, 8, 8, 8, 8, 8, 8, 8, 8, 8, 8, 8, 8, 8, 8, 8, 8, 8, 8, 8, 8, 8, 8, 8, 8, 8, 8, 8, 8, 8, 8, 8, 8, 8, 8, 8, 8, 8, 8, 8, 8, 8, 8, 8, 8, 8, 8, 8, 8, 8, 8, 8, 8, 8, 8, 8, 8, 8, 8, 8, 8, 8, 8, 8, 8, 8, 8, 8, 8, 8, 8, 8, 8, 8, 8, 8, 8, 8, 8, 8, 8, 8, 8, 8, 8, 8, 8, 8, 8]⟩) t_4) w fun t_5 w =>
      pvv prog (convert 5 3 t_5) w fun t_6 w =>
      pvv prog (binOp .add 3 n_3 t_6) w fun t_7 w =>
      K t_7 w) fun k_8 =>
    pvv prog (binOp .geq 145 x_0 (.int .u32 256)) w fun t_9 w =>
    cd t_9 (
      pvv prog (binOp .shr 145 x_0 (.int .u64 8)) w fun t_10 w =>
      pvv prog (binOp .add 3 n_1 (.int .i64 8)) w fun t_11 w =>
      k_8 [t_10, t_11] w) <|
    k_8 [x_0, n_1] w) fun k_12 =>
  pvv prog (binOp .geq 145 x_p0 (.int .u32 65536)) w fun t_13 w =>
  cd t_13 (
    pvv prog (binOp .shr 145 x_p0 (.int .u64 16)) w fun t_14 w =>
    k_12 [t_14, (.int .i64 16)] w) <|
  k_12 [x_p0, (.int .i64 0)] w
theorem B105_eq (x_p0 : Value) (w : World) (K : Value → World → Prop) : denFn prog Tryd.f105 T105 [x_p0] w K = B105 x_p0 w K := by kernel_rfl
theorem c105 {x_p0 : Value} {w : World} {K : Value → World → Prop} (h : B105 x_p0 w K) : Calls prog 105 #[x_p0] w (Ret K) :=
  denFn_calls Tryd.func105 T105_ok (Eq.mpr (B105_eq x_p0 w K) h)

-- 51 (*holdfast/token.Store).ends
def T51 : Ann := (.seq .none (.seq (.seq .none (.seq (.seq .none .none) .none)) (.seq .none (.seq (.seq .none (.block (.loop 2147352736 [5, 17] (.seq .none (.seq (.seq .none .none) (.seq (.block (.seq .none (.seq .none .none))) .none)))))) (.seq .none .none)))))
theorem T51_ok : chkFn prog Tryd.f51 T51 = true := by kernel_rfl
def B51 (s_p0 is_p1 : Value) (w : World) (K : Value → World → Prop) : Prop :=
  pvv prog (oEq .eql 22 (.tmp 8) (.const (.pointer none)) s_p0 (.pointer none)) w fun t_0 w =>
  cd t_0 (
    K (.slice none 0 0) w) <|
  pv prog (oNil s_p0) w fun t_1 w =>
  pvv prog (Instr.fieldAt 74 t_1 0) w fun t_2 w =>
  ldv prog (Instr.loadAt 69 t_2) w fun t_3 w =>
  Calls prog 29 #[t_3, is_p1] w (Ret fun t_4 w =>
  pv prog (oBi .len #[33] 3 #[false] #[t_4]) w fun t_5 w =>
  lp (fun σ w again_8 => pop σ fun out_6 σ => pop σ fun t_7 σ => fin σ <|
    pvv prog (binOp .lss 3 t_7 t_5) w fun t_9 w =>
    cd t_9 (
      pvv prog (Instr.indexAt 33 t_4 t_7) w fun t_10 w =>
      ldv prog (Instr.loadAt 27 t_10) w fun t_11 w =>
      efv prog (Instr.alloc 27 true (.tuple #[])) w fun f_12 w =>
      efu prog (Instr.storeAt 27 f_12 t_11) w fun u_13 w =>
      pvv prog (Instr.fieldAt 27 f_12 0) w fun t_14 w =>
      ldv prog (Instr.loadAt 3 t_14) w fun t_15 w =>
      Calls prog 32 #[s_p0, t_15] w (Ret fun t_16 w =>
      pvv prog (Instr.fieldAt 27 f_12 0) w fun t_17 w =>
      ldv prog (Instr.loadAt 3 t_17) w fun t_18 w =>
      efv prog (Instr.buildSlice 41 1 #[(0, t_18)]) w fun t_19 w =>
      ef prog (oBi .append #[41, 41] 41 #[false, false] #[out_6, t_19]) w fun t_20 w =>
      pvv prog (binOp .add 3 t_7 (.int .i64 1)) w fun t_21 w =>
      again_8 [t_20, t_21] w)) <|
    K out_6 w) [(.slice none 0 0), (.int .i64 0)] w)
theorem B51_eq (s_p0 is_p1 : Value) (w : World) (K : Value → World → Prop) : denFn prog Tryd.f51 T51 [s_p0, is_p1] w K = B51 s_p0 is_p1 w K := by kernel_rfl
theorem c51 {s_p0 is_p1 : Value} {w : World} {K : Value → World → Prop} (h : B51 s_p0 is_p1 w K) : Calls prog 51 #[s_p0, is_p1] w (Ret K) :=
  denFn_calls Tryd.func51 T51_ok (Eq.mpr (B51_eq s_p0 is_p1 w K) h)

-- 47 (*holdfast/session.Table).ended
def T47 : Ann := (.seq .none (.seq .none (.seq (.seq .none (.block (.loop 67108000 [5, 10] (.seq .none (.seq (.seq .none .none) (.seq (.block (.seq .none (.seq (.draw [.op 0 .pure, .op 1 .pure, .op 2 .pure, .op 4 .pure, .op 3 .load, .op 5 .load, .op 6 .eff]) .none))) .none)))))) (.seq .none .none))))
theorem T47_ok : chkFn prog Tryd.f47 T47 = true := by kernel_rfl
def B47 (t_p0 l_p1 : Value) (w : World) (K : Value → World → Prop) : Prop :=
  pv prog (oBi .len #[62] 3 #[false] #[l_p1]) w fun t_0 w =>
  lp (fun σ w again_3 => pop σ fun out_1 σ => pop σ fun t_2 σ => fin σ <|
    pvv prog (binOp .lss 3 t_2 t_0) w fun t_4 w =>
    cd t_4 (
      pvv prog (Instr.indexAt 62 l_p1 t_2) w fun t_5 w =>
      ldv prog (Instr.loadAt 59 t_5) w fun t_6 w =>
      efv prog (Instr.alloc 59 true (.tuple #[])) w fun s_7 w =>
      efu prog (Instr.storeAt 59 s_7 t_6) w fun u_8 w =>
      dr w fun w =>
      pv prog (oNil t_p0) w fun t_9 w =>
      pvv prog (Instr.fieldAt 96 t_9 2) w fun t_10 w =>
      pvv prog (Instr.fieldAt 59 s_7 0) w fun t_11 w =>
      bindS (vN (Instr.loadAt 92 t_10)) fun m_13 => ldv prog (Instr.loadAt 92 t_10) w fun t_12 w =>
      bindS (vN (Instr.loadAt 3 t_11)) fun m_15 => ldv prog (Instr.loadAt 3 t_11) w fun t_14 w =>
      ef prog (oBi .delete #[92, 3] 0 #[false, false] #[t_12, t_14]) w fun u_16 w =>
      pvv prog (Instr.fieldAt 59 s_7 0) w fun t_17 w =>
      ldv prog (Instr.loadAt 3 t_17) w fun t_18 w =>
      efv prog (Instr.buildSlice 41 1 #[(0, t_18)]) w fun t_19 w =>
      ef prog (oBi .append #[41, 41] 41 #[false, false] #[out_1, t_19]) w fun t_20 w =>
      pvv prog (binOp .add 3 t_2 (.int .i64 1)) w fun t_21 w =>
      again_3 [t_20, t_21] w) <|
    K out_1 w) [(.slice none 0 0), (.int .i64 0)] w
theorem B47_eq (t_p0 l_p1 : Value) (w : World) (K : Value → World → Prop) : denFn prog Tryd.f47 T47 [t_p0, l_p1] w K = B47 t_p0 l_p1 w K := by kernel_rfl
theorem c47 {t_p0 l_p1 : Value} {w : World} {K : Value → World → Prop} (h : B47 t_p0 l_p1 w K) : Calls prog 47 #[t_p0, l_p1] w (Ret K) :=
  denFn_calls Tryd.func47 T47_ok (Eq.mpr (B47_eq t_p0 l_p1 w K) h)

-- 39 holdfast/holdfastref01.SameInts
def T39 : Ann := (.seq .none (.seq (.seq .none (.seq (.seq .none .none) .none)) (.seq (.seq .none (.block (.loop 67106864 [5] (.seq (.seq .none (.seq .none .none)) (.seq (.block (.seq (.draw [.op 0 .pure, .op 1 .pure, .op 2 .pure, .op 4 .pure, .op 5 .pure, .op 6 .pure, .op 3 .load, .op 7 .load, .op 8 .pure]) (.seq (.seq .none .none) .none))) .none))))) (.seq .none .none))))
theorem T39_ok : chkFn prog Tryd.f39 T39 = true := by kernel_rfl
def B39 (a_p0 b_p1 : Value) (w : World) (K : Value → World → Prop) : Prop :=
  pv prog (oBi .len #[41] 3 #[false] #[a_p0]) w fun t_0 w =>
  pv prog (oBi .len #[41] 3 #[false] #[b_p1]) w fun t_1 w =>
  pvv prog (oEq .neq 3 (.tmp 7) (.tmp 9) t_0 t_1) w fun t_2 w =>
  cd t_2 (
    K (.bool false) w) <|
  lp (fun σ w again_4 => pop σ fun i_3 σ => fin σ <|
    pv prog (oBi .len #[41] 3 #[false] #[a_p0]) w fun t_5 w =>
    pvv prog (binOp .lss 3 i_3 t_5) w fun t_6 w =>
    cd t_6 (
      dr w fun w =>
      pvv prog (Instr.indexAt 41 a_p0 i_3) w fun t_7 w =>
      pvv prog (Instr.indexAt 41 b_p1 i_3) w fun t_8 w =>
      bindS (vN (Instr.loadAt 3 t_7)) fun m_10 => ldv prog (Instr.loadAt 3 t_7) w fun t_9 w =>
      bindS (vN (Instr.loadAt 3 t_8)) fun m_12 => ldv prog (Instr.loadAt 3 t_8) w fun t_11 w =>
      pvv prog (oEq .neq 3 (.tmp 20) (.tmp 24) t_9 t_11) w fun t_13 w =>
      cd t_13 (
        K (.bool false) w) <|
      pvv prog (binOp .add 3 i_3 (.int .i64 1)) w fun t_14 w =>
      again_4 [t_14] w) <|
    K (.bool true) w) [(.int .i64 0)] w
theorem B39_eq (a_p0 b_p1 : Value) (w : World) (K : Value → World → Prop) : denFn prog Tryd.f39 T39 [a_p0, b_p1] w K = B39 a_p0 b_p1 w K := by kernel_rfl
theorem c39 {a_p0 b_p1 : Value} {w : World} {K : Value → World → Prop} (h : B39 a_p0 b_p1 w K) : Calls prog 39 #[a_p0, b_p1] w (Ret K) :=
  denFn_calls Tryd.func39 T39_ok (Eq.mpr (B39_eq a_p0 b_p1 w K) h)

-- 78 strings.trimRightASCII
def T78 : Ann := (.seq .none (.meet 2097121 [0] (.block (.loop 2097121 [0] (.seq (.seq .none (.seq .none .none)) (.block (.seq (.seq .none (.seq .none .none)) .none))))) (.seq .none .none)))
theorem T78_ok : chkFn prog Tryd.f78 T78 = true := by kernel_rfl
def B78 (s_p0 as_p1 : Value) (w : World) (K : Value → World → Prop) : Prop :=
  jn (fun σ w => pop σ fun s_0 σ => fin σ <|
    K s_0 w) fun k_1 =>
  lp (fun σ w again_3 => pop σ fun s_2 σ => fin σ <|
    pv prog (oBi .len #[9] 3 #[false] #[s_2]) w fun t_4 w =>
    pvv prog (binOp .gtr 3 t_4 (.int .i64 0)) w fun t_5 w =>
    cd t_5 (
      pv prog (oBi .len #[9] 3 #[false] #[s_2]) w fun t_6 w =>
      pvv prog (binOp .sub 3 t_6 (.int .i64 1)) w fun t_7 w =>
      pvv prog (Instr.index 9 s_2 t_7) w fun t_8 w =>
      Calls prog 86 #[as_p1, t_8] w (Ret fun t_9 w =>
      pvv prog (Op.unary .not t_9) w fun t_10 w =>
      cd t_10 (
        k_1 [s_2] w) <|
      pv prog (oBi .len #[9] 3 #[false] #[s_2]) w fun t_11 w =>
      pvv prog (binOp .sub 3 t_11 (.int .i64 1)) w fun t_12 w =>
      pvv prog (Instr.sliceAt 9 s_2 none (some t_12) none) w fun t_13 w =>
      again_3 [t_13] w)) <|
    k_1 [s_2] w) [s_p0] w
theorem B78_eq (s_p0 as_p1 : Value) (w : World) (K : Value → World → Prop) : denFn prog Tryd.f78 T78 [s_p0, as_p1] w K = B78 s_p0 as_p1 w K := by kernel_rfl
theorem c78 {s_p0 as_p1 : Value} {w : World} {K : Value → World → Prop} (h : B78 s_p0 as_p1 w K) : Calls prog 78 #[s_p0, as_p1] w (Ret K) :=
  denFn_calls Tryd.func78 T78_ok (Eq.mpr (B78_eq s_p0 as_p1 w K) h)

-- 32 (*holdfast/token.Store).drop
def T32 : Ann := (.seq .none (.seq (.draw [.op 0 .pure, .op 1 .pure, .op 2 .pure, .op 3 .pure, .op 4 .load, .op 5 .load, .op 6 .eff]) .none))
theorem T32_ok : chkFn prog Tryd.f32 T32 = true := by kernel_rfl
def B32 (s_p0 id_p1 : Value) (w : World) (K : Value → World → Prop) : Prop :=
  efv prog (Instr.box 3 id_p1) w fun id_0 w =>
  dr w fun w =>
  pv prog (oNil s_p0) w fun t_1 w =>
  pvv prog (Instr.fieldAt 74 t_1 0) w fun t_2 w =>
  pvv prog (Instr.fieldAt 69 t_2 1) w fun t_3 w =>
  bindS (vN (Instr.loadAt 67 t_3)) fun m_5 => ldv prog (Instr.loadAt 67 t_3) w fun t_4 w =>
  bindS (vN (Instr.loadAt 3 id_0)) fun m_7 => ldv prog (Instr.loadAt 3 id_0) w fun t_6 w =>
  ef prog (oBi .delete #[67, 3] 0 #[false, false] #[t_4, t_6]) w fun u_8 w =>
  pv prog (oNil s_p0) w fun t_9 w =>
  pvv prog (Instr.fieldAt 74 t_9 1) w fun t_10 w =>
  pvv prog (Instr.fieldAt 72 t_10 1) w fun t_11 w =>
  ldv prog (Instr.loadAt 70 t_11) w fun t_12 w =>
  pvv prog (Instr.makeFunc (.func 60) #[] #[id_0]) w fun t_13 w =>
  Calls prog 59 #[t_12, t_13] w (Ret fun t_14 w =>
  K (.tuple #[]) w)
theorem B32_eq (s_p0 id_p1 : Value) (w : World) (K : Value → World → Prop) : denFn prog Tryd.f32 T32 [s_p0, id_p1] w K = B32 s_p0 id_p1 w K := by kernel_rfl
theorem c32 {s_p0 id_p1 : Value} {w : World} {K : Value → World → Prop} (h : B32 s_p0 id_p1 w K) : Calls prog 32 #[s_p0, id_p1] w (Ret K) :=
  denFn_calls Tryd.func32 T32_ok (Eq.mpr (B32_eq s_p0 id_p1 w K) h)

-- 24 (*holdfast/token.Store).time
def T24 : Ann := (.seq .none (.seq (.block (.seq .none (.seq (.seq .none .none) (.seq .none (.seq (.seq .none .none) (.seq .none (.seq (.seq .none .none) .none))))))) (.seq .none .none)))
theorem T24_ok : chkFn prog Tryd.f24 T24 = true := by kernel_rfl
def B24 (s_p0 now_p1 : Value) (w : World) (K : Value → World → Prop) : Prop :=
  pvv prog (oEq .eql 22 (.tmp 6) (.const (.pointer none)) s_p0 (.pointer none)) w fun t_0 w =>
  cd t_0 (
    K (.int .i64 1) w) <|
  pvv prog (binOp .lss 3 now_p1 (.int .i64 0)) w fun t_1 w =>
  gate (some (t_1, false)) (fun K => K now_p1 w) w fun t_2 w =>
  gate (some (t_1, false)) (fun K => pvv prog (binOp .gtr 3 t_2 (.int .i64 1099511627776)) w K) w fun t_3 w =>
  pv prog (oPick t_1 (.bool true) t_3) w fun t_4 w =>
  cd t_4 (
    K (.int .i64 2) w) <|
  pv prog (oNil s_p0) w fun t_5 w =>
  pvv prog (Instr.fieldAt 74 t_5 2) w fun t_6 w =>
  ldv prog (Instr.loadAt 3 t_6) w fun t_7 w =>
  pvv prog (binOp .lss 3 now_p1 t_7) w fun t_8 w =>
  cd t_8 (
    K (.int .i64 9) w) <|
  K (.int .i64 0) w
theorem B24_eq (s_p0 now_p1 : Value) (w : World) (K : Value → World → Prop) : denFn prog Tryd.f24 T24 [s_p0, now_p1] w K = B24 s_p0 now_p1 w K := by kernel_rfl
theorem c24 {s_p0 now_p1 : Value} {w : World} {K : Value → World → Prop} (h : B24 s_p0 now_p1 w K) : Calls prog 24 #[s_p0, now_p1] w (Ret K) :=
  denFn_calls Tryd.func24 T24_ok (Eq.mpr (B24_eq s_p0 now_p1 w K) h)

-- 115 slices.medianOrdered[int]
def T115 : Ann := (.seq .none (.seq .none (.seq .none (.seq .none (.seq .none .none)))))
theorem T115_ok : chkFn prog Tryd.f115 T115 = true := by kernel_rfl
def B115 (data_p0 a_p1 b_p2 c_p3 swaps_p4 : Value) (w : World) (K : Value → World → Prop) : Prop :=
  Calls prog 118 #[data_p0, a_p1, b_p2, swaps_p4] w (Ret fun t_0 w =>
  pvv prog (Instr.extract t_0 0) w fun t_1 w =>
  pvv prog (Instr.extract t_0 1) w fun t_2 w =>
  Calls prog 118 #[data_p0, t_2, c_p3, swaps_p4] w (Ret fun t_3 w =>
  pvv prog (Instr.extract t_3 0) w fun t_4 w =>
  pvv prog (Instr.extract t_3 1) w fun t_5 w =>
  Calls prog 118 #[data_p0, t_1, t_4, swaps_p4] w (Ret fun t_6 w =>
  pvv prog (Instr.extract t_6 0) w fun t_7 w =>
  pvv prog (Instr.extract t_6 1) w fun t_8 w =>
  K t_8 w)))
theorem B115_eq (data_p0 a_p1 b_p2 c_p3 swaps_p4 : Value) (w : World) (K : Value → World → Prop) : denFn prog Tryd.f115 T115 [data_p0, a_p1, b_p2, c_p3, swaps_p4] w K = B115 data_p0 a_p1 b_p2 c_p3 swaps_p4 w K := by kernel_rfl
theorem c115 {data_p0 a_p1 b_p2 c_p3 swaps_p4 : Value} {w : World} {K : Value → World → Prop} (h : B115 data_p0 a_p1 b_p2 c_p3 swaps_p4 w K) : Calls prog 115 #[data_p0, a_p1, b_p2, c_p3, swaps_p4] w (Ret K) :=
  denFn_calls Tryd.func115 T115_ok (Eq.mpr (B115_eq data_p0 a_p1 b_p2 c_p3 swaps_p4 w K) h)

-- 108 unicode/utf8.ValidRune
def T108 : Ann := (.seq .none (.seq (.block (.seq .none (.seq (.seq .none .none) (.seq .none (.seq (.seq .none .none) .none))))) (.seq .none .none)))
theorem T108_ok : chkFn prog Tryd.f108 T108 = true := by kernel_rfl
def B108 (r_p0 : Value) (w : World) (K : Value → World → Prop) : Prop :=
  pvv prog (binOp .leq 21 (.int .i32 0) r_p0) w fun t_0 w =>
  gate (some (t_0, true)) (fun K => K r_p0 w) w fun t_1 w =>
  gate (some (t_0, true)) (fun K => pvv prog (binOp .lss 21 t_1 (.int .i32 55296)) w K) w fun t_2 w =>
  pv prog (oPick t_0 t_2 (.bool false)) w fun t_3 w =>
  cd t_3 (
    K (.bool true) w) <|
  pvv prog (binOp .lss 21 (.int .i32 57343) r_p0) w fun t_4 w =>
  gate (some (t_4, true)) (fun K => K r_p0 w) w fun t_5 w =>
  gate (some (t_4, true)) (fun K => pvv prog (binOp .leq 21 t_5 (.int .i32 1114111)) w K) w fun t_6 w =>
  pv prog (oPick t_4 t_6 (.bool false)) w fun t_7 w =>
  cd t_7 (
    K (.bool true) w) <|
  K (.bool false) w
theorem B108_eq (r_p0 : Value) (w : World) (K : Value → World → Prop) : denFn prog Tryd.f108 T108 [r_p0] w K = B108 r_p0 w K := by kernel_rfl
theorem c108 {r_p0 : Value} {w : World} {K : Value → World → Prop} (h : B108 r_p0 w K) : Calls prog 108 #[r_p0] w (Ret K) :=
  denFn_calls Tryd.func108 T108_ok (Eq.mpr (B108_eq r_p0 w K) h)

-- 73 slices.Index[[]int,int]
def T73 : Ann := (.seq .none (.seq (.seq .none (.block (.loop 524080 [8] (.seq .none (.seq (.seq .none .none) (.seq (.block (.seq .none (.seq .none (.seq (.seq .none .none) .none)))) .none)))))) (.seq .none .none)))
theorem T73_ok : chkFn prog Tryd.f73 T73 = true := by kernel_rfl
def B73 (s_p0 v_p1 : Value) (w : World) (K : Value → World → Prop) : Prop :=
  pv prog (oBi .len #[41] 3 #[false] #[s_p0]) w fun t_0 w =>
  lp (fun σ w again_2 => pop σ fun t_1 σ => fin σ <|
    pvv prog (binOp .lss 3 t_1 t_0) w fun t_3 w =>
    cd t_3 (
      pvv prog (Instr.indexAt 41 s_p0 t_1) w fun t_4 w =>
      ldv prog (Instr.loadAt 3 t_4) w fun t_5 w =>
      pvv prog (oEq .eql 3 (.tmp 11) (.tmp 15) v_p1 t_5) w fun t_6 w =>
      cd t_6 (
        K t_1 w) <|
      pvv prog (binOp .add 3 t_1 (.int .i64 1)) w fun t_7 w =>
      again_2 [t_7] w) <|
    K (.int .i64 (-1)) w) [(.int .i64 0)] w
theorem B73_eq (s_p0 v_p1 : Value) (w : World) (K : Value → World → Prop) : denFn prog Tryd.f73 T73 [s_p0, v_p1] w K = B73 s_p0 v_p1 w K := by kernel_rfl
theorem c73 {s_p0 v_p1 : Value} {w : World} {K : Value → World → Prop} (h : B73 s_p0 v_p1 w K) : Calls prog 73 #[s_p0, v_p1] w (Ret K) :=
  denFn_calls Tryd.func73 T73_ok (Eq.mpr (B73_eq s_p0 v_p1 w K) h)

-- 38 (*holdfast/holdfastref12.Store).End
def T38 : Ann := (.seq .none (.seq (.seq .none (.seq (.seq .none .none) .none)) (.seq (.seq .none (.seq .none (.seq (.seq .none .none) .none))) (.seq .none (.seq .none .none)))))
theorem T38_ok : chkFn prog Tryd.f38 T38 = true := by kernel_rfl
def B38 (s_p0 family_p1 : Value) (w : World) (K : Value → World → Prop) : Prop :=
  pvv prog (oEq .eql 38 (.tmp 7) (.const (.pointer none)) s_p0 (.pointer none)) w fun t_0 w =>
  cd t_0 (
    K (.int .i64 1) w) <|
  Calls prog 65 #[s_p0, family_p1] w (Ret fun t_1 w =>
  pvv prog (Instr.extract t_1 0) w fun t_2 w =>
  pvv prog (Instr.extract t_1 1) w fun t_3 w =>
  pvv prog (oEq .neq 30 (.tmp 15) (.const (.int .i64 0)) t_3 (.int .i64 0)) w fun t_4 w =>
  cd t_4 (
    K t_3 w) <|
  Calls prog 66 #[s_p0, family_p1] w (Ret fun t_5 w =>
  K (.int .i64 0) w))
theorem B38_eq (s_p0 family_p1 : Value) (w : World) (K : Value → World → Prop) : denFn prog Tryd.f38 T38 [s_p0, family_p1] w K = B38 s_p0 family_p1 w K := by kernel_rfl
theorem c38 {s_p0 family_p1 : Value} {w : World} {K : Value → World → Prop} (h : B38 s_p0 family_p1 w K) : Calls prog 38 #[s_p0, family_p1] w (Ret K) :=
  denFn_calls Tryd.func38 T38_ok (Eq.mpr (B38_eq s_p0 family_p1 w K) h)

-- 49 (*holdfast/session.Table).Sweep$1
def T49 : Ann := (.seq .none (.seq (.draw [.op 0 .load, .op 1 .load, .op 2 .eff, .op 3 .pure, .op 4 .pure]) .none))
theorem T49_ok : chkFn prog Tryd.f49 T49 = true := by kernel_rfl
def B49 (s_p0 x_p1 : Value) (w : World) (K : Value → World → Prop) : Prop :=
  efv prog (Instr.box 59 s_p0) w fun s_0 w =>
  dr w fun w =>
  bindS (vN (Instr.loadAt 3 x_p1)) fun m_2 => ldv prog (Instr.loadAt 3 x_p1) w fun t_1 w =>
  bindS (vN (Instr.loadAt 59 s_0)) fun m_4 => ldv prog (Instr.loadAt 59 s_0) w fun t_3 w =>
  Calls prog 50 #[t_3] w (Ret fun t_5 w => stay prog none m_2 t_1 w <| 
  pvv prog (binOp .geq 3 t_1 t_5) w fun t_6 w =>
  K t_6 w)
theorem B49_eq (s_p0 x_p1 : Value) (w : World) (K : Value → World → Prop) : denFn prog Tryd.f49 T49 [s_p0, x_p1] w K = B49 s_p0 x_p1 w K := by kernel_rfl
theorem c49 {s_p0 x_p1 : Value} {w : World} {K : Value → World → Prop} (h : B49 s_p0 x_p1 w K) : Calls prog 49 #[s_p0, x_p1] w (Ret K) :=
  denFn_calls Tryd.func49 T49_ok (Eq.mpr (B49_eq s_p0 x_p1 w K) h)

-- 46 (*holdfast/session.Table).time
def T46 : Ann := (.seq .none (.seq (.seq .none (.seq (.seq .none .none) .none)) (.seq .none .none)))
theorem T46_ok : chkFn prog Tryd.f46 T46 = true := by kernel_rfl
def B46 (t_p0 now_p1 : Value) (w : World) (K : Value → World → Prop) : Prop :=
  pvv prog (oEq .eql 50 (.tmp 5) (.const (.pointer none)) t_p0 (.pointer none)) w fun t_0 w =>
  cd t_0 (
    K (.int .i64 1) w) <|
  pv prog (oNil t_p0) w fun t_1 w =>
  pvv prog (Instr.fieldAt 96 t_1 0) w fun t_2 w =>
  ldv prog (Instr.loadAt 94 t_2) w fun t_3 w =>
  Calls prog 70 #[t_3, now_p1] w (Ret fun t_4 w =>
  K t_4 w)
theorem B46_eq (t_p0 now_p1 : Value) (w : World) (K : Value → World → Prop) : denFn prog Tryd.f46 T46 [t_p0, now_p1] w K = B46 t_p0 now_p1 w K := by kernel_rfl
theorem c46 {t_p0 now_p1 : Value} {w : World} {K : Value → World → Prop} (h : B46 t_p0 now_p1 w K) : Calls prog 46 #[t_p0, now_p1] w (Ret K) :=
  denFn_calls Tryd.func46 T46_ok (Eq.mpr (B46_eq t_p0 now_p1 w K) h)

-- 30 (*holdfast/token.Store).Families$1
def T30 : Ann := (.seq .none (.seq .none .none))
theorem T30_ok : chkFn prog Tryd.f30 T30 = true := by kernel_rfl
def B30 (f_p0 x_p1 : Value) (w : World) (K : Value → World → Prop) : Prop :=
  efv prog (Instr.box 27 f_p0) w fun f_0 w =>
  pvv prog (Instr.fieldAt 27 f_0 1) w fun t_1 w =>
  ldv prog (Instr.loadAt 3 t_1) w fun t_2 w =>
  ldv prog (Instr.loadAt 3 x_p1) w fun t_3 w =>
  pvv prog (oEq .eql 3 (.tmp 5) (.tmp 6) t_2 t_3) w fun t_4 w =>
  K t_4 w
theorem B30_eq (f_p0 x_p1 : Value) (w : World) (K : Value → World → Prop) : denFn prog Tryd.f30 T30 [f_p0, x_p1] w K = B30 f_p0 x_p1 w K := by kernel_rfl
theorem c30 {f_p0 x_p1 : Value} {w : World} {K : Value → World → Prop} (h : B30 f_p0 x_p1 w K) : Calls prog 30 #[f_p0, x_p1] w (Ret K) :=
  denFn_calls Tryd.func30 T30_ok (Eq.mpr (B30_eq f_p0 x_p1 w K) h)

-- 26 (holdfast/token.row[holdfast/api.Family]).full
def T26 : Ann := (.seq .none (.seq .none .none))
theorem T26_ok : chkFn prog Tryd.f26 T26 = true := by kernel_rfl
def B26 (r_p0 : Value) (w : World) (K : Value → World → Prop) : Prop :=
  efv prog (Instr.box 69 r_p0) w fun r_0 w =>
  pvv prog (Instr.fieldAt 69 r_0 0) w fun t_1 w =>
  ldv prog (Instr.loadAt 3 t_1) w fun t_2 w =>
  pvv prog (binOp .gtr 3 t_2 (.int .i64 1099511627776)) w fun t_3 w =>
  K t_3 w
theorem B26_eq (r_p0 : Value) (w : World) (K : Value → World → Prop) : denFn prog Tryd.f26 T26 [r_p0] w K = B26 r_p0 w K := by kernel_rfl
theorem c26 {r_p0 : Value} {w : World} {K : Value → World → Prop} (h : B26 r_p0 w K) : Calls prog 26 #[r_p0] w (Ret K) :=
  denFn_calls Tryd.func26 T26_ok (Eq.mpr (B26_eq r_p0 w K) h)

-- 82 slices.Sort[[]int,int]
def T82 : Ann := (.seq .none .none)
theorem T82_ok : chkFn prog Tryd.f82 T82 = true := by kernel_rfl
def B82 (x_p0 : Value) (w : World) (K : Value → World → Prop) : Prop :=
  pv prog (oBi .len #[41] 3 #[false] #[x_p0]) w fun t_0 w =>
  pvv prog (convert 3 133 t_0) w fun t_1 w =>
  Calls prog 92 #[t_1] w (Ret fun t_2 w =>
  Calls prog 91 #[x_p0, (.int .i64 0), t_0, t_2] w (Ret fun t_3 w =>
  K (.tuple #[]) w))
theorem B82_eq (x_p0 : Value) (w : World) (K : Value → World → Prop) : denFn prog Tryd.f82 T82 [x_p0] w K = B82 x_p0 w K := by kernel_rfl
theorem c82 {x_p0 : Value} {w : World} {K : Value → World → Prop} (h : B82 x_p0 w K) : Calls prog 82 #[x_p0] w (Ret K) :=
  denFn_calls Tryd.func82 T82_ok (Eq.mpr (B82_eq x_p0 w K) h)

-- 53 slices.Contains[[]int,int]
def T53 : Ann := (.seq .none (.seq .none .none))
theorem T53_ok : chkFn prog Tryd.f53 T53 = true := by kernel_rfl
def B53 (s_p0 v_p1 : Value) (w : World) (K : Value → World → Prop) : Prop :=
  Calls prog 73 #[s_p0, v_p1] w (Ret fun t_0 w =>
  pvv prog (binOp .geq 3 t_0 (.int .i64 0)) w fun t_1 w =>
  K t_1 w)
theorem B53_eq (s_p0 v_p1 : Value) (w : World) (K : Value → World → Prop) : denFn prog Tryd.f53 T53 [s_p0, v_p1] w K = B53 s_p0 v_p1 w K := by kernel_rfl
theorem c53 {s_p0 v_p1 : Value} {w : World} {K : Value → World → Prop} (h : B53 s_p0 v_p1 w K) : Calls prog 53 #[s_p0, v_p1] w (Ret K) :=
  denFn_calls Tryd.func53 T53_ok (Eq.mpr (B53_eq s_p0 v_p1 w K) h)

-- 58 maps.Keys[map[int]holdfast/api.Family,int,holdfast/api.Family]
def T58 : Ann := (.seq .none (.seq .none .none))
theorem T58_ok : chkFn prog Tryd.f58 T58 = true := by kernel_rfl
def B58 (m_p0 : Value) (w : World) (K : Value → World → Prop) : Prop :=
  efv prog (Instr.box 67 m_p0) w fun m_0 w =>
  pvv prog (Instr.makeFunc (.func 83) #[] #[m_0]) w fun t_1 w =>
  K t_1 w
theorem B58_eq (m_p0 : Value) (w : World) (K : Value → World → Prop) : denFn prog Tryd.f58 T58 [m_p0] w K = B58 m_p0 w K := by kernel_rfl
theorem c58 {m_p0 : Value} {w : World} {K : Value → World → Prop} (h : B58 m_p0 w K) : Calls prog 58 #[m_p0] w (Ret K) :=
  denFn_calls Tryd.func58 T58_ok (Eq.mpr (B58_eq m_p0 w K) h)

-- 57 slices.Sorted[int]
def T57 : Ann := (.seq .none (.seq .none (.seq .none (.seq .none .none))))
theorem T57_ok : chkFn prog Tryd.f57 T57 = true := by kernel_rfl
def B57 (seq_p0 : Value) (w : World) (K : Value → World → Prop) : Prop :=
  Calls prog 81 #[seq_p0] w (Ret fun t_0 w =>
  Calls prog 82 #[t_0] w (Ret fun t_1 w =>
  K t_0 w))
theorem B57_eq (seq_p0 : Value) (w : World) (K : Value → World → Prop) : denFn prog Tryd.f57 T57 [seq_p0] w K = B57 seq_p0 w K := by kernel_rfl
theorem c57 {seq_p0 : Value} {w : World} {K : Value → World → Prop} (h : B57 seq_p0 w K) : Calls prog 57 #[seq_p0] w (Ret K) :=
  denFn_calls Tryd.func57 T57_ok (Eq.mpr (B57_eq seq_p0 w K) h)


end Go.Proofs.YtbcimkjgpplcpaaDoor
