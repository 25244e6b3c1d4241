import Derived.Test.YtfaeklinhchidaaGreatPI
set_option linter.all false
set_option maxRecDepth 100000
namespace Go.Proofs.YtfaeklinhchidaaGreat
open Go Hold
-- 4 holdfast/holdfasttop.TopHashed
def T4 : Ann := (.seq .none (.seq .none (.seq (.seq .none (.seq (.seq .none .none) .none)) (.seq (.seq .none (.block (.loop 562949949227108 [5] (.seq (.seq .none (.seq .none .none)) (.seq (.block (.seq .none (.seq .none (.seq (.seq .none .none) .none)))) .none))))) (.seq (.seq .none (.block (.loop 81129638414606681132839051724676 [7] (.seq (.seq .none (.seq .none .none)) (.seq (.block (.seq .none (.seq .none (.seq (.draw [.op 0 .pure, .op 1 .pure, .op 2 .pure, .op 3 .pure, .op 4 .pure, .op 5 .pure, .op 6 .pure, .op 7 .pure, .op 8 .pure, .op 9 .pure, .op 12 .pure, .op 13 .pure, .op 10 .load, .op 11 .pure, .op 14 .pure, .op 15 .pure, .op 16 .pure, .op 17 .pure, .op 18 .pure, .op 19 .pure, .op 20 .load, .op 21 .pure, .op 22 .load, .op 24 .load, .op 23 .eff, .op 25 .eff, .op 26 .pure, .op 27 .pure, .op 28 .pure, .op 29 .pure, .op 30 .pure, .op 33 .pure, .op 31 .load, .op 32 .pure, .op 34 .pure, .op 35 .pure]) (.seq (.seq .none .none) .none))))) .none))))) (.seq .none (.seq (.seq .none (.block (.loop 2722256339219078440293182594205981089796 [13] (.seq (.seq .none (.seq .none .none)) (.seq (.block (.seq (.draw [.op 0 .pure, .op 1 .pure, .op 2 .pure, .op 3 .pure, .op 4 .pure, .op 7 .pure, .op 8 .pure, .op 9 .pure, .op 10 .pure, .op 5 .load, .op 11 .load, .par [⟨6, .eff, (some 123), []⟩, ⟨12, .eff, (some 129), []⟩], .op 13 .pure]) (.seq (.seq .none .none) .none))) .none))))) (.seq .none (.seq .none .none)))))))))
theorem T4_ok : chkFn prog Tryz.f4 T4 = true := by kernel_rfl
def B4 (l_p0 : Value) (w : World) (K : Value → World → Prop) : Prop :=
  Calls prog 5 #[(.int .i64 200), (.int .i64 110)] w (Ret fun t_0 w =>
  pvv prog (Instr.extract t_0 0) w fun t_1 w =>
  pvv prog (Instr.extract t_0 1) w fun t_2 w =>
  pvv prog (oEq .neq 24 (.tmp 20) (.const (.int .i64 0)) t_2 (.int .i64 0)) w fun t_3 w =>
  cd t_3 (
    K (.bool false) w) <|
  lp (fun σ w again_5 => pop σ fun i_4 σ => fin σ <|
    pv prog (oBi .len #[36] 3 #[false] #[l_p0]) w fun t_6 w =>
    pvv prog (binOp .lss 3 i_4 t_6) w fun t_7 w =>
    gate (some (t_7, true)) (fun K => K i_4 w) w fun t_8 w =>
    gate (some (t_7, true)) (fun K => pvv prog (binOp .lss 3 t_8 (.int .i64 25)) w K) w fun t_9 w =>
    pv prog (oPick t_7 t_9 (.bool false)) w fun t_10 w =>
    cd t_10 (
      pvv prog (Instr.indexAt 36 l_p0 i_4) w fun t_11 w =>
      ldv prog (Instr.loadAt 22 t_11) w fun t_12 w =>
      Calls prog 10 #[t_12] w (Ret fun t_13 w =>
      efv prog (Instr.alloc 38 true (.tuple #[])) w fun h_14 w =>
      efu prog (Instr.storeAt 38 h_14 t_13) w fun u_15 w =>
      pvv prog (Instr.sliceAt 38 h_14 none none none) w fun t_16 w =>
      pvv prog (convert 3 5 i_4) w fun t_17 w =>
      efv prog (Instr.buildSlice 22 1 #[(0, t_17)]) w fun t_18 w =>
      Calls prog 6 #[t_1, t_16, t_18] w (Ret fun t_19 w =>
      pvv prog (oEq .neq 24 (.tmp 42) (.const (.int .i64 0)) t_19 (.int .i64 0)) w fun t_20 w =>
      gate (some (t_20, false)) (fun K => K t_1 w) w fun t_21 w =>
      gate (some (t_20, false)) (fun K => Calls prog 7 #[t_21] w (Ret K)) w fun t_22 w =>
      gate (some (t_20, false)) (fun K => pvv prog (oEq .neq 24 (.tmp 46) (.const (.int .i64 0)) t_22 (.int .i64 0)) w K) w fun t_23 w =>
      pv prog (oPick t_20 (.bool true) t_23) w fun t_24 w =>
      cd t_24 (
        K (.bool false) w) <|
      pvv prog (binOp .add 3 i_4 (.int .i64 1)) w fun t_25 w =>
      again_5 [t_25] w))) <|
    lp (fun σ w again_27 => pop σ fun i_26 σ => fin σ <|
      pv prog (oBi .len #[36] 3 #[false] #[l_p0]) w fun t_28 w =>
      pvv prog (binOp .lss 3 i_26 t_28) w fun t_29 w =>
      gate (some (t_29, true)) (fun K => K i_26 w) w fun t_30 w =>
      gate (some (t_29, true)) (fun K => pvv prog (binOp .lss 3 t_30 (.int .i64 25)) w K) w fun t_31 w =>
      pv prog (oPick t_29 t_31 (.bool false)) w fun t_32 w =>
      cd t_32 (
        pvv prog (Instr.indexAt 36 l_p0 i_26) w fun t_33 w =>
        ldv prog (Instr.loadAt 22 t_33) w fun t_34 w =>
        Calls prog 10 #[t_34] w (Ret fun t_35 w =>
        efv prog (Instr.alloc 38 true (.tuple #[])) w fun h_36 w =>
        efu prog (Instr.storeAt 38 h_36 t_35) w fun u_37 w =>
        pvv prog (Instr.sliceAt 38 h_36 none none none) w fun t_38 w =>
        Calls prog 11 #[t_1, t_38] w (Ret fun t_39 w =>
        pvv prog (Instr.extract t_39 0) w fun t_40 w =>
        pvv prog (Instr.extract t_39 1) w fun t_41 w =>
        dr w fun w =>
        pvv prog (oEq .neq 24 (.tmp 70) (.const (.int .i64 0)) t_41 (.int .i64 0)) w fun t_42 w =>
        gate (some (t_42, false)) (fun K => K t_40 w) w fun t_43 w =>
        gate (some (t_42, false)) (fun K => pv prog (oBi .len #[22] 3 #[false] #[t_43]) w K) w fun t_44 w =>
        gate (some (t_42, false)) (fun K => pvv prog (oEq .neq 3 (.tmp 74) (.const (.int .i64 1)) t_44 (.int .i64 1)) w K) w fun t_45 w =>
        pv prog (oPick t_42 (.bool true) t_45) w fun t_46 w =>
        gate (some (t_46, false)) (fun K => K t_40 w) w fun t_47 w =>
        gate (some (t_46, false)) (fun K => pvv prog (Instr.indexAt 22 t_47 (.int .i64 0)) w K) w fun t_48 w =>
        gate (some (t_46, false)) (fun K => K l_p0 w) w fun t_49 w =>
        gate (some (t_46, false)) (fun K => pv prog (oBi .len #[36] 3 #[false] #[t_49]) w K) w fun t_50 w =>
        bindS (vN (Instr.loadAt 5 t_48)) fun m_52 => gate (some (t_46, false)) (fun K => ldv prog (Instr.loadAt 5 t_48) w K) w fun t_51 w =>
        gate (some (t_46, false)) (fun K => pvv prog (convert 5 3 t_51) w K) w fun t_53 w =>
        gate (some (t_46, false)) (fun K => pvv prog (binOp .geq 3 t_53 t_50) w K) w fun t_54 w =>
        pv prog (oPick t_46 (.bool true) t_54) w fun t_55 w =>
        gate (some (t_55, false)) (fun K => K l_p0 w) w fun t_56 w =>
        gate (some (t_55, false)) (fun K => K t_40 w) w fun t_57 w =>
        gate (some (t_55, false)) (fun K => pvv prog (Instr.indexAt 22 t_57 (.int .i64 0)) w K) w fun t_58 w =>
        bindS (vN (Instr.loadAt 5 t_58)) fun m_60 => gate (some (t_55, false)) (fun K => ldv prog (Instr.loadAt 5 t_58) w K) w fun t_59 w =>
        gate (some (t_55, false)) (fun K => pvv prog (Instr.indexAt 36 t_56 t_59) w K) w fun t_61 w =>
        bindS (vN (Instr.loadAt 22 t_61)) fun m_63 => gate (some (t_55, false)) (fun K => ldv prog (Instr.loadAt 22 t_61) w K) w fun t_62 w =>
        bindS (vN (Instr.loadAt 38 h_36)) fun m_65 => gate (some (t_55, false)) (fun K => ldv prog (Instr.loadAt 38 h_36) w K) w fun t_64 w =>
        gate (some (t_55, false)) (fun K => Calls prog 10 #[t_62] w (Ret fun s_80 w => stay prog (some (t_55, false)) m_65 t_64 w <| stay prog (some (t_55, false)) m_60 t_59 w <| stay prog (some (t_46, false)) m_52 t_51 w <| K s_80 w)) w fun t_66 w =>
        gate (some (t_55, false)) (fun K => Calls prog 12 #[t_66, t_64] w (Ret fun s_79 w => stay prog (some (t_55, false)) m_63 t_62 w <| stay prog (some (t_55, false)) m_60 t_59 w <| stay prog (some (t_46, false)) m_52 t_51 w <| K s_79 w)) w fun t_67 w =>
        gate (some (t_55, false)) (fun K => pvv prog (Op.unary .not t_67) w K) w fun t_68 w =>
        pv prog (oPick t_55 (.bool true) t_68) w fun t_69 w =>
        gate (some (t_69, false)) (fun K => K t_40 w) w fun t_70 w =>
        gate (some (t_69, false)) (fun K => pvv prog (Instr.indexAt 22 t_70 (.int .i64 0)) w K) w fun t_71 w =>
        gate (some (t_69, false)) (fun K => K i_26 w) w fun t_72 w =>
        bindS (vN (Instr.loadAt 5 t_71)) fun m_74 => gate (some (t_69, false)) (fun K => ldv prog (Instr.loadAt 5 t_71) w K) w fun t_73 w =>
        gate (some (t_69, false)) (fun K => pvv prog (convert 5 3 t_73) w K) w fun t_75 w =>
        gate (some (t_69, false)) (fun K => pvv prog (binOp .lss 3 t_75 t_72) w K) w fun t_76 w =>
        pv prog (oPick t_69 (.bool true) t_76) w fun t_77 w =>
        cd t_77 (
          K (.bool false) w) <|
        pvv prog (binOp .add 3 i_26 (.int .i64 1)) w fun t_78 w =>
        again_27 [t_78] w))) <|
      Calls prog 13 #[t_1, (.slice none 0 0), (.slice none 0 0), (.int .i64 100)] w (Ret fun t_81 w =>
      pvv prog (Instr.extract t_81 0) w fun t_82 w =>
      pvv prog (Instr.extract t_81 1) w fun t_83 w =>
      lp (fun σ w again_85 => pop σ fun i_84 σ => fin σ <|
        pv prog (oBi .len #[43] 3 #[false] #[t_82]) w fun t_86 w =>
        pvv prog (binOp .lss 3 i_84 t_86) w fun t_87 w =>
        cd t_87 (
          dr w fun w =>
          pvv prog (binOp .sub 3 i_84 (.int .i64 1)) w fun t_88 w =>
          pvv prog (Instr.indexAt 43 t_82 t_88) w fun t_89 w =>
          pvv prog (Instr.fieldAt 47 t_89 0) w fun t_90 w =>
          pvv prog (Instr.indexAt 43 t_82 i_84) w fun t_91 w =>
          pvv prog (Instr.fieldAt 47 t_91 0) w fun t_92 w =>
          bindS (vN (Instr.loadAt 22 t_90)) fun m_94 => ldv prog (Instr.loadAt 22 t_90) w fun t_93 w =>
          bindS (vN (Instr.loadAt 22 t_92)) fun m_96 => ldv prog (Instr.loadAt 22 t_92) w fun t_95 w =>
          par 2 w fun J_97 =>
            (∀ (σ : List (Option Value)) (w : World), J_97 σ w → un σ 0 (efv prog (convert 22 9 t_93) w fun v_98 w => stay prog none m_96 t_95 w <| J_97 (σ.set 0 (some v_98)) w)) ∧
            (∀ (σ : List (Option Value)) (w : World), J_97 σ w → un σ 1 (efv prog (convert 22 9 t_95) w fun v_99 w => stay prog none m_94 t_93 w <| J_97 (σ.set 1 (some v_99)) w)) ∧
            ∀ (σ : List (Option Value)) (w : World), J_97 σ w → is σ 0 fun t_100 => is σ 1 fun t_101 => 
            pvv prog (binOp .geq 9 t_100 t_101) w fun t_102 w =>
            cd t_102 (
              K (.bool false) w) <|
            pvv prog (binOp .add 3 i_84 (.int .i64 1)) w fun t_103 w =>
            again_85 [t_103] w) <|
        Calls prog 8 #[t_1] w (Ret fun t_104 w =>
        pvv prog (Instr.extract t_104 0) w fun t_105 w =>
        pvv prog (Instr.extract t_104 1) w fun t_106 w =>
        efv prog (Instr.alloc 31 true (.tuple #[])) w fun t_107 w =>
        efu prog (Instr.storeAt 31 t_107 t_105) w fun u_108 w =>
        pvv prog (oEq .eql 24 (.tmp 136) (.const (.int .i64 0)) t_83 (.int .i64 0)) w fun t_109 w =>
        gate (some (t_109, true)) (fun K => K t_106 w) w fun t_110 w =>
        gate (some (t_109, true)) (fun K => pvv prog (oEq .eql 24 (.tmp 139) (.const (.int .i64 0)) t_110 (.int .i64 0)) w K) w fun t_111 w =>
        pv prog (oPick t_109 t_111 (.bool false)) w fun t_112 w =>
        gate (some (t_112, true)) (fun K => K t_82 w) w fun t_113 w =>
        gate (some (t_112, true)) (fun K => pv prog (oBi .len #[43] 3 #[false] #[t_113]) w K) w fun t_114 w =>
        gate (some (t_112, true)) (fun K => K l_p0 w) w fun t_115 w =>
        gate (some (t_112, true)) (fun K => pv prog (oBi .len #[36] 3 #[false] #[t_115]) w K) w fun t_116 w =>
        gate (some (t_112, true)) (fun K => pvv prog (binOp .leq 3 t_114 t_116) w K) w fun t_117 w =>
        pv prog (oPick t_112 t_117 (.bool false)) w fun t_118 w =>
        K t_118 w)) [(.int .i64 1)] w)) [(.int .i64 0)] w) [(.int .i64 0)] w)
theorem B4_eq (l_p0 : Value) (w : World) (K : Value → World → Prop) : denFn prog Tryz.f4 T4 [l_p0] w K = B4 l_p0 w K := by kernel_rfl
theorem c4 {l_p0 : Value} {w : World} {K : Value → World → Prop} (h : B4 l_p0 w K) : Calls prog 4 #[l_p0] w (Ret K) :=
  denFn_calls Tryz.func4 T4_ok (Eq.mpr (B4_eq l_p0 w K) h)

-- 25 (*holdfast/tree.Tree).look
def T25 : Ann := (.seq .none (.meet 34359607296 [] (.seq .none (.seq .none .none)) (.seq .none (.seq .none (.seq .none (.meet 4835703273954917071458304 [] (.seq .none (.seq (.meet 8646911284551352320 [] (.seq .none (.seq .none .none)) (.seq .none (.seq .none (.seq .none .none)))) .none)) (.seq .none (.seq (.seq .none (.block (.loop 680564733841838241300521546729945948160 [13, 85] (.seq .none (.seq (.seq .none .none) (.meet 340282366920783720958463934897405943808 [13] (.block (.seq .none (.seq (.seq .none (.seq (.meet 162254325069056221870478413791232 [] (.seq (.draw [.op 0 .pure, .op 1 .pure, .op 2 .load, .op 3 .pure, .op 4 .pure, .op 5 .pure, .op 6 .pure, .op 8 .pure, .op 7 .load, .op 9 .load, .op 10 .eff, .op 11 .pure, .op 12 .pure]) (.seq .none .none)) (.seq .none .none)) .none)) (.seq .none (.meet 169808876461523002763461351950814019584 [] (.seq .none (.seq .none .none)) .none))))) .none)))))) (.seq .none .none)))))))))
theorem T25_ok : chkFn prog Tryz.f25 T25 = true := by kernel_rfl
def B25 (t_p0 page_p1 r_p2 last_p3 seen_p4 : Value) (w : World) (K : Value → World → Prop) : Prop :=
  jn (fun σ w => fin σ <|
    efu prog (Instr.mapUpdate 76 seen_p4 page_p1 (.bool true)) w fun u_0 w =>
    pv prog (oNil r_p2) w fun t_1 w =>
    pvv prog (Instr.fieldAt 31 t_1 1) w fun t_2 w =>
    ldv prog (Instr.loadAt 29 t_2) w fun t_3 w =>
    efv prog (Instr.buildSlice 29 1 #[(0, page_p1)]) w fun t_4 w =>
    ef prog (oBi .append #[29, 29] 29 #[false, false] #[t_3, t_4]) w fun t_5 w =>
    pv prog (oNil r_p2) w fun t_6 w =>
    pvv prog (Instr.fieldAt 31 t_6 1) w fun t_7 w =>
    efu prog (Instr.storeAt 29 t_7 t_5) w fun u_8 w =>
    pvv prog (Instr.build 124 #[(1, t_p0)]) w fun t_9 w =>
    efv prog (Instr.box 124 t_9) w fun t_10 w =>
    Calls prog 52 #[t_10, page_p1] w (Ret fun t_11 w =>
    efv prog (Instr.alloc 63 true (.tuple #[])) w fun n_12 w =>
    efu prog (Instr.storeAt 63 n_12 t_11) w fun u_13 w =>
    jn (fun σ w => fin σ <|
      pvv prog (Instr.fieldAt 63 n_12 1) w fun t_14 w =>
      ldv prog (Instr.loadAt 61 t_14) w fun t_15 w =>
      pv prog (oBi .len #[61] 3 #[false] #[t_15]) w fun t_16 w =>
      lp (fun σ w again_19 => pop σ fun high_17 σ => pop σ fun t_18 σ => fin σ <|
        pvv prog (binOp .lss 3 t_18 t_16) w fun t_20 w =>
        cd t_20 (
          jn (fun σ w => pop σ fun high_21 σ => fin σ <|
            pvv prog (binOp .add 3 t_18 (.int .i64 1)) w fun t_22 w =>
            again_19 [high_21, t_22] w) fun k_23 =>
          pvv prog (Instr.indexAt 61 t_15 t_18) w fun t_24 w =>
          ldv prog (Instr.loadAt 67 t_24) w fun t_25 w =>
          efv prog (Instr.alloc 67 true (.tuple #[])) w fun e_26 w =>
          efu prog (Instr.storeAt 67 e_26 t_25) w fun u_27 w =>
          pvv prog (Instr.fieldAt 63 n_12 0) w fun t_28 w =>
          ldv prog (Instr.loadAt 4 t_28) w fun t_29 w =>
          cd t_29 (
            jn (fun σ w => fin σ <|
              pvv prog (Instr.fieldAt 67 e_26 0) w fun t_30 w =>
              ldv prog (Instr.loadAt 22 t_30) w fun t_31 w =>
              pv prog (oNil last_p3) w fun t_32 w =>
              efu prog (Instr.storeAt 22 t_32 t_31) w fun u_33 w =>
              k_23 [high_17] w) fun k_34 =>
            dr w fun w =>
            pv prog (oNil last_p3) w fun t_35 w =>
            bindS (vN (Instr.loadAt 22 t_35)) fun m_37 => ldv prog (Instr.loadAt 22 t_35) w fun t_36 w =>
            pvv prog (oEq .neq 22 (.tmp 94) (.const (.slice none 0 0)) t_36 (.slice none 0 0)) w fun t_38 w =>
            gate (some (t_38, true)) (fun K => K last_p3 w) w fun t_39 w =>
            gate (some (t_38, true)) (fun K => pv prog (oNil t_39) w K) w fun t_40 w =>
            gate (some (t_38, true)) (fun K => pvv prog (Instr.fieldAt 67 e_26 0) w K) w fun t_41 w =>
            bindS (vN (Instr.loadAt 22 t_40)) fun m_43 => gate (some (t_38, true)) (fun K => ldv prog (Instr.loadAt 22 t_40) w K) w fun t_42 w =>
            bindS (vN (Instr.loadAt 22 t_41)) fun m_45 => gate (some (t_38, true)) (fun K => ldv prog (Instr.loadAt 22 t_41) w K) w fun t_44 w =>
            gate (some (t_38, true)) (fun K => Calls prog 37 #[t_42, t_44] w (Ret fun s_52 w => stay prog none m_37 t_36 w <| K s_52 w)) w fun t_46 w =>
            gate (some (t_38, true)) (fun K => pvv prog (binOp .geq 3 t_46 (.int .i64 0)) w K) w fun t_47 w =>
            pv prog (oPick t_38 t_47 (.bool false)) w fun t_48 w =>
            cd t_48 (
              pvv prog (Instr.build 75 #[(0, (.int .i64 15))]) w fun t_49 w =>
              pvv prog (Instr.makeInterface 75 t_49) w fun t_50 w =>
              efv prog (Instr.panic t_50) w fun u_51 w =>
              k_34 [] w) <|
            k_34 [] w) <|
          pvv prog (Instr.fieldAt 67 e_26 2) w fun t_53 w =>
          ldv prog (Instr.loadAt 3 t_53) w fun t_54 w =>
          Calls prog 25 #[t_p0, t_54, r_p2, last_p3, seen_p4] w (Ret fun t_55 w =>
          jn (fun σ w => fin σ <|
            k_23 [t_55] w) fun k_56 =>
          pvv prog (binOp .gtr 3 t_18 (.int .i64 0)) w fun t_57 w =>
          gate (some (t_57, true)) (fun K => K t_55 w) w fun t_58 w =>
          gate (some (t_57, true)) (fun K => K high_17 w) w fun t_59 w =>
          gate (some (t_57, true)) (fun K => pvv prog (oEq .neq 3 (.tmp 121) (.tmp 122) t_58 t_59) w K) w fun t_60 w =>
          pv prog (oPick t_57 t_60 (.bool false)) w fun t_61 w =>
          cd t_61 (
            pvv prog (Instr.build 75 #[(0, (.int .i64 15))]) w fun t_62 w =>
            pvv prog (Instr.makeInterface 75 t_62) w fun t_63 w =>
            efv prog (Instr.panic t_63) w fun u_64 w =>
            k_56 [] w) <|
          k_56 [] w)) <|
        pvv prog (binOp .add 3 high_17 (.int .i64 1)) w fun t_65 w =>
        K t_65 w) [(.int .i64 0), (.int .i64 0)] w) fun k_66 =>
    pv prog (oNil t_p0) w fun t_67 w =>
    pvv prog (Instr.fieldAt 73 t_67 0) w fun t_68 w =>
    pvv prog (Instr.fieldAt 71 t_68 0) w fun t_69 w =>
    ldv prog (Instr.loadAt 3 t_69) w fun t_70 w =>
    pvv prog (oEq .neq 3 (.tmp 52) (.tmp 57) page_p1 t_70) w fun t_71 w =>
    cd t_71 (
      jn (fun σ w => fin σ <|
        ldv prog (Instr.loadAt 63 n_12) w fun t_72 w =>
        Calls prog 62 #[t_72] w (Ret fun t_73 w =>
        pv prog (oNil r_p2) w fun t_74 w =>
        pvv prog (Instr.fieldAt 31 t_74 4) w fun t_75 w =>
        ldv prog (Instr.loadAt 3 t_75) w fun t_76 w =>
        pvv prog (oEq .eql 3 (.tmp 68) (.const (.int .i64 0)) t_76 (.int .i64 0)) w fun t_77 w =>
        gate (some (t_77, false)) (fun K => K t_73 w) w fun t_78 w =>
        gate (some (t_77, false)) (fun K => K r_p2 w) w fun t_79 w =>
        gate (some (t_77, false)) (fun K => pv prog (oNil t_79) w K) w fun t_80 w =>
        gate (some (t_77, false)) (fun K => pvv prog (Instr.fieldAt 31 t_80 4) w K) w fun t_81 w =>
        gate (some (t_77, false)) (fun K => ldv prog (Instr.loadAt 3 t_81) w K) w fun t_82 w =>
        gate (some (t_77, false)) (fun K => pvv prog (binOp .lss 3 t_78 t_82) w K) w fun t_83 w =>
        pv prog (oPick t_77 (.bool true) t_83) w fun t_84 w =>
        cd t_84 (
          pv prog (oNil r_p2) w fun t_85 w =>
          pvv prog (Instr.fieldAt 31 t_85 4) w fun t_86 w =>
          efu prog (Instr.storeAt 3 t_86 t_73) w fun u_87 w =>
          k_66 [] w) <|
        k_66 [] w)) fun k_88 =>
      ldv prog (Instr.loadAt 63 n_12) w fun t_89 w =>
      Calls prog 61 #[t_89] w (Ret fun t_90 w =>
      cd t_90 (
        pvv prog (Instr.build 75 #[(0, (.int .i64 15))]) w fun t_91 w =>
        pvv prog (Instr.makeInterface 75 t_91) w fun t_92 w =>
        efv prog (Instr.panic t_92) w fun u_93 w =>
        k_88 [] w) <|
      k_88 [] w)) <|
    k_66 [] w)) fun k_94 =>
  pvv prog (binOp .lss 3 page_p1 (.int .i64 1)) w fun t_95 w =>
  gate (some (t_95, false)) (fun K => K page_p1 w) w fun t_96 w =>
  gate (some (t_95, false)) (fun K => K t_p0 w) w fun t_97 w =>
  gate (some (t_95, false)) (fun K => pv prog (oNil t_97) w K) w fun t_98 w =>
  gate (some (t_95, false)) (fun K => pvv prog (Instr.fieldAt 73 t_98 0) w K) w fun t_99 w =>
  gate (some (t_95, false)) (fun K => pvv prog (Instr.fieldAt 71 t_99 2) w K) w fun t_100 w =>
  gate (some (t_95, false)) (fun K => ldv prog (Instr.loadAt 3 t_100) w K) w fun t_101 w =>
  gate (some (t_95, false)) (fun K => pvv prog (binOp .geq 3 t_96 t_101) w K) w fun t_102 w =>
  pv prog (oPick t_95 (.bool true) t_102) w fun t_103 w =>
  gate (some (t_103, false)) (fun K => K seen_p4 w) w fun t_104 w =>
  gate (some (t_103, false)) (fun K => K page_p1 w) w fun t_105 w =>
  gate (some (t_103, false)) (fun K => ldv prog (Instr.lookup 76 t_104 t_105 false) w K) w fun t_106 w =>
  pv prog (oPick t_103 (.bool true) t_106) w fun t_107 w =>
  cd t_107 (
    pvv prog (Instr.build 75 #[(0, (.int .i64 15))]) w fun t_108 w =>
    pvv prog (Instr.makeInterface 75 t_108) w fun t_109 w =>
    efv prog (Instr.panic t_109) w fun u_110 w =>
    k_94 [] w) <|
  k_94 [] w
theorem B25_eq (t_p0 page_p1 r_p2 last_p3 seen_p4 : Value) (w : World) (K : Value → World → Prop) : denFn prog Tryz.f25 T25 [t_p0, page_p1, r_p2, last_p3, seen_p4] w K = B25 t_p0 page_p1 r_p2 last_p3 seen_p4 w K := by kernel_rfl
theorem c25 {t_p0 page_p1 r_p2 last_p3 seen_p4 : Value} {w : World} {K : Value → World → Prop} (h : B25 t_p0 page_p1 r_p2 last_p3 seen_p4 w K) : Calls prog 25 #[t_p0, page_p1, r_p2, last_p3, seen_p4] w (Ret K) :=
  denFn_calls Tryz.func25 T25_ok (Eq.mpr (B25_eq t_p0 page_p1 r_p2 last_p3 seen_p4 w K) h)

-- 86 holdfast/tree.parsed
def T86 : Ann := (.seq .none (.seq .none (.seq (.seq .none (.seq (.seq .none .none) .none)) (.seq .none (.seq (.seq (.draw [.op 0 .pure, .op 1 .pure, .op 5 .pure, .op 6 .pure, .op 10 .pure, .op 2 .load, .op 3 .pure, .op 4 .pure, .op 7 .load, .op 8 .pure, .op 9 .pure]) (.block (.loop 2417851639229249759477816 [4, 33] (.seq .none (.seq (.seq .none .none) (.seq (.block (.seq .none (.seq (.seq .none (.seq .none (.seq (.seq .none .none) .none))) (.meet 18889465896294208765976 [4] (.seq .none (.seq (.seq .none (.seq .none (.seq (.seq .none .none) .none))) (.seq (.seq .none (.seq (.seq .none .none) .none)) (.seq (.draw [.op 0 .pure, .op 1 .pure, .op 5 .pure, .op 6 .pure, .op 2 .load, .op 3 .pure, .op 4 .pure, .op 7 .load, .op 8 .pure, .op 9 .pure, .op 10 .pure, .op 11 .eff]) .none)))) .none)))) .none)))))) (.seq .none .none))))))
theorem T86_ok : chkFn prog Tryz.f86 T86 = true := by kernel_rfl
def B86 (b_p0 : Value) (w : World) (K : Value → World → Prop) : Prop :=
  efv prog (Instr.alloc 63 true (.tuple #[])) w fun n_0 w =>
  pvv prog (Instr.indexAt 22 b_p0 (.int .i64 0)) w fun t_1 w =>
  ldv prog (Instr.loadAt 5 t_1) w fun t_2 w =>
  pvv prog (oEq .eql 5 (.tmp 8) (.const (.int .u8 76)) t_2 (.int .u8 76)) w fun t_3 w =>
  pvv prog (Instr.fieldAt 63 n_0 0) w fun t_4 w =>
  efu prog (Instr.storeAt 4 t_4 t_3) w fun u_5 w =>
  pvv prog (Instr.fieldAt 63 n_0 0) w fun t_6 w =>
  ldv prog (Instr.loadAt 4 t_6) w fun t_7 w =>
  pvv prog (Op.unary .not t_7) w fun t_8 w =>
  gate (some (t_8, true)) (fun K => K b_p0 w) w fun t_9 w =>
  gate (some (t_8, true)) (fun K => pvv prog (Instr.indexAt 22 t_9 (.int .i64 0)) w K) w fun t_10 w =>
  gate (some (t_8, true)) (fun K => ldv prog (Instr.loadAt 5 t_10) w K) w fun t_11 w =>
  gate (some (t_8, true)) (fun K => pvv prog (oEq .neq 5 (.tmp 17) (.const (.int .u8 73)) t_11 (.int .u8 73)) w K) w fun t_12 w =>
  pv prog (oPick t_8 t_12 (.bool false)) w fun t_13 w =>
  cd t_13 (
    ldv prog (Instr.loadAt 63 n_0) w fun t_14 w =>
    efu prog (Instr.storeAt 63 n_0 t_14) w fun u_15 w =>
    ∃ r_16, (do loadVar 63 (← asAddr n_0)).run prog w = .ok r_16 w ∧ K (.tuple #[r_16, (.bool false)]) w) <|
  pvv prog (Instr.sliceAt 22 b_p0 (some (.int .i64 3)) none none) w fun t_17 w =>
  dr w fun w =>
  pvv prog (Instr.indexAt 22 b_p0 (.int .i64 1)) w fun t_18 w =>
  pvv prog (Instr.indexAt 22 b_p0 (.int .i64 2)) w fun t_19 w =>
  bindS (vN (Instr.loadAt 5 t_18)) fun m_21 => ldv prog (Instr.loadAt 5 t_18) w fun t_20 w =>
  pvv prog (convert 5 3 t_20) w fun t_22 w =>
  pvv prog (binOp .shl 3 t_22 (.int .u64 8)) w fun t_23 w =>
  bindS (vN (Instr.loadAt 5 t_19)) fun m_25 => ldv prog (Instr.loadAt 5 t_19) w fun t_24 w =>
  pvv prog (convert 5 3 t_24) w fun t_26 w =>
  pvv prog (binOp .or 3 t_23 t_26) w fun t_27 w =>
  lp (fun σ w again_30 => pop σ fun rest_28 σ => pop σ fun t_29 σ => fin σ <|
    pvv prog (binOp .lss 3 t_29 t_27) w fun t_31 w =>
    cd t_31 (
      efv prog (Instr.alloc 67 true (.tuple #[])) w fun e_32 w =>
      Calls prog 121 #[rest_28] w (Ret fun t_33 w =>
      pvv prog (Instr.extract t_33 0) w fun t_34 w =>
      pvv prog (Instr.extract t_33 1) w fun t_35 w =>
      pvv prog (Instr.extract t_33 2) w fun t_36 w =>
      pvv prog (Instr.fieldAt 67 e_32 0) w fun t_37 w =>
      efu prog (Instr.storeAt 22 t_37 t_34) w fun u_38 w =>
      pvv prog (Op.unary .not t_36) w fun t_39 w =>
      cd t_39 (
        ldv prog (Instr.loadAt 63 n_0) w fun t_40 w =>
        efu prog (Instr.storeAt 63 n_0 t_40) w fun u_41 w =>
        ∃ r_42, (do loadVar 63 (← asAddr n_0)).run prog w = .ok r_42 w ∧ K (.tuple #[r_42, (.bool false)]) w) <|
      jn (fun σ w => pop σ fun rest_43 σ => fin σ <|
        pvv prog (Instr.fieldAt 63 n_0 1) w fun t_44 w =>
        ldv prog (Instr.loadAt 61 t_44) w fun t_45 w =>
        ldv prog (Instr.loadAt 67 e_32) w fun t_46 w =>
        efv prog (Instr.buildSlice 61 1 #[(0, t_46)]) w fun t_47 w =>
        ef prog (oBi .append #[61, 61] 61 #[false, false] #[t_45, t_47]) w fun t_48 w =>
        pvv prog (Instr.fieldAt 63 n_0 1) w fun t_49 w =>
        efu prog (Instr.storeAt 61 t_49 t_48) w fun u_50 w =>
        pvv prog (binOp .add 3 t_29 (.int .i64 1)) w fun t_51 w =>
        again_30 [rest_43, t_51] w) fun k_52 =>
      pvv prog (Instr.fieldAt 63 n_0 0) w fun t_53 w =>
      ldv prog (Instr.loadAt 4 t_53) w fun t_54 w =>
      cd t_54 (
        Calls prog 121 #[t_35] w (Ret fun t_55 w =>
        pvv prog (Instr.extract t_55 0) w fun t_56 w =>
        pvv prog (Instr.extract t_55 1) w fun t_57 w =>
        pvv prog (Instr.extract t_55 2) w fun t_58 w =>
        pvv prog (Instr.fieldAt 67 e_32 1) w fun t_59 w =>
        efu prog (Instr.storeAt 22 t_59 t_56) w fun u_60 w =>
        pvv prog (Op.unary .not t_58) w fun t_61 w =>
        cd t_61 (
          ldv prog (Instr.loadAt 63 n_0) w fun t_62 w =>
          efu prog (Instr.storeAt 63 n_0 t_62) w fun u_63 w =>
          ∃ r_64, (do loadVar 63 (← asAddr n_0)).run prog w = .ok r_64 w ∧ K (.tuple #[r_64, (.bool false)]) w) <|
        k_52 [t_57] w)) <|
      pv prog (oBi .len #[22] 3 #[false] #[t_35]) w fun t_65 w =>
      pvv prog (binOp .lss 3 t_65 (.int .i64 2)) w fun t_66 w =>
      cd t_66 (
        ldv prog (Instr.loadAt 63 n_0) w fun t_67 w =>
        efu prog (Instr.storeAt 63 n_0 t_67) w fun u_68 w =>
        ∃ r_69, (do loadVar 63 (← asAddr n_0)).run prog w = .ok r_69 w ∧ K (.tuple #[r_69, (.bool false)]) w) <|
      dr w fun w =>
      pvv prog (Instr.indexAt 22 t_35 (.int .i64 0)) w fun t_70 w =>
      pvv prog (Instr.indexAt 22 t_35 (.int .i64 1)) w fun t_71 w =>
      bindS (vN (Instr.loadAt 5 t_70)) fun m_73 => ldv prog (Instr.loadAt 5 t_70) w fun t_72 w =>
      pvv prog (convert 5 3 t_72) w fun t_74 w =>
      pvv prog (binOp .shl 3 t_74 (.int .u64 8)) w fun t_75 w =>
      bindS (vN (Instr.loadAt 5 t_71)) fun m_77 => ldv prog (Instr.loadAt 5 t_71) w fun t_76 w =>
      pvv prog (convert 5 3 t_76) w fun t_78 w =>
      pvv prog (binOp .or 3 t_75 t_78) w fun t_79 w =>
      pvv prog (Instr.fieldAt 67 e_32 2) w fun t_80 w =>
      efu prog (Instr.storeAt 3 t_80 t_79) w fun u_81 w =>
      pvv prog (Instr.sliceAt 22 t_35 (some (.int .i64 2)) none none) w fun t_82 w =>
      k_52 [t_82] w)) <|
    ldv prog (Instr.loadAt 63 n_0) w fun t_84 w =>
    efu prog (Instr.storeAt 63 n_0 t_84) w fun u_85 w =>
    ∃ r_86, (do loadVar 63 (← asAddr n_0)).run prog w = .ok r_86 w ∧ K (.tuple #[r_86, (.bool true)]) w) [t_17, (.int .i64 0)] w
theorem B86_eq (b_p0 : Value) (w : World) (K : Value → World → Prop) : denFn prog Tryz.f86 T86 [b_p0] w K = B86 b_p0 w K := by kernel_rfl
theorem c86 {b_p0 : Value} {w : World} {K : Value → World → Prop} (h : B86 b_p0 w K) : Calls prog 86 #[b_p0] w (Ret K) :=
  denFn_calls Tryz.func86 T86_ok (Eq.mpr (B86_eq b_p0 w K) h)

-- 47 (*holdfast/tree.Tree).load
def T47 : Ann := (.seq .none (.seq .none (.seq .none (.seq (.seq .none (.seq (.seq .none .none) .none)) (.seq .none (.seq .none (.seq .none (.seq (.draw [.op 1 .pure, .op 2 .pure, .op 3 .pure, .op 0 .load, .op 4 .load, .op 5 .eff, .op 6 .eff, .op 7 .pure, .op 8 .pure, .op 9 .pure, .op 10 .pure, .op 11 .pure, .op 12 .load, .op 13 .pure, .op 14 .pure, .op 15 .pure, .op 16 .pure, .op 17 .pure, .op 18 .pure, .op 19 .pure, .op 21 .pure, .op 20 .load, .op 22 .pure, .op 23 .pure, .op 24 .pure, .op 25 .pure, .op 26 .pure, .op 27 .pure, .op 28 .pure, .op 30 .pure, .op 31 .pure, .op 32 .pure, .op 33 .pure, .op 29 .load, .op 34 .load, .op 35 .pure, .op 36 .pure, .op 37 .pure, .op 38 .pure, .op 39 .pure, .op 40 .pure, .op 41 .pure, .op 43 .pure, .op 44 .pure, .op 45 .pure, .op 46 .pure, .op 42 .load, .op 47 .load, .op 48 .pure, .op 49 .pure, .op 50 .pure]) .none))))))))
theorem T47_ok : chkFn prog Tryz.f47 T47 = true := by kernel_rfl
def B47 (t_p0 : Value) (w : World) (K : Value → World → Prop) : Prop :=
  pv prog (oNil t_p0) w fun t_0 w =>
  pvv prog (Instr.fieldAt 73 t_0 1) w fun t_1 w =>
  ldv prog (Instr.loadAt 55 t_1) w fun t_2 w =>
  Calls prog 26 #[t_2, (.int .i64 0)] w (Ret fun t_3 w =>
  pvv prog (Instr.extract t_3 0) w fun t_4 w =>
  pvv prog (Instr.extract t_3 1) w fun t_5 w =>
  efv prog (Instr.alloc 22 true (.tuple #[])) w fun b_6 w =>
  efu prog (Instr.storeAt 22 b_6 t_4) w fun u_7 w =>
  pvv prog (Instr.build 71 #[(2, (.int .i64 1))]) w fun t_8 w =>
  pv prog (oNil t_p0) w fun t_9 w =>
  pvv prog (Instr.fieldAt 73 t_9 0) w fun t_10 w =>
  efu prog (Instr.storeAt 71 t_10 t_8) w fun u_11 w =>
  ldv prog (Instr.loadAt 22 b_6) w fun t_12 w =>
  Calls prog 74 #[t_12, (.func (.func 78) #[] #[])] w (Ret fun t_13 w =>
  pvv prog (Op.unary .not t_13) w fun t_14 w =>
  cd t_14 (
    K (.bool true) w) <|
  pvv prog (Instr.makeFunc (.func 79) #[] #[b_6]) w fun t_15 w =>
  ef prog (oCall t_15 #[(.int .i64 2)]) w fun t_16 w =>
  ef prog (oCall t_15 #[(.int .i64 4)]) w fun t_17 w =>
  ef prog (oCall t_15 #[(.int .i64 6)]) w fun t_18 w =>
  pvv prog (Instr.build 71 #[(0, t_16), (1, t_17), (2, t_18)]) w fun t_19 w =>
  pv prog (oNil t_p0) w fun t_20 w =>
  pvv prog (Instr.fieldAt 73 t_20 0) w fun t_21 w =>
  efu prog (Instr.storeAt 71 t_21 t_19) w fun u_22 w =>
  pv prog (oNil t_p0) w fun t_23 w =>
  pvv prog (Instr.fieldAt 73 t_23 1) w fun t_24 w =>
  ldv prog (Instr.loadAt 55 t_24) w fun t_25 w =>
  Calls prog 27 #[t_25] w (Ret fun t_26 w =>
  Calls prog 28 #[t_26] w (Ret fun t_27 w =>
  dr w fun w =>
  pv prog (oNil t_p0) w fun t_28 w =>
  pvv prog (Instr.fieldAt 73 t_28 0) w fun t_29 w =>
  bindS (vN (Instr.loadAt 22 b_6)) fun m_31 => ldv prog (Instr.loadAt 22 b_6) w fun t_30 w =>
  bindS (vN (Instr.loadAt 71 t_29)) fun m_33 => ldv prog (Instr.loadAt 71 t_29) w fun t_32 w =>
  Calls prog 81 #[t_32] w (Ret fun t_34 w => stay prog none m_31 t_30 w <| 
  Calls prog 80 #[t_30, t_34] w (Ret fun t_35 w => stay prog none m_33 t_32 w <| 
  gate (some (t_35, true)) (fun K => K t_p0 w) w fun t_36 w =>
  gate (some (t_35, true)) (fun K => pv prog (oNil t_36) w K) w fun t_37 w =>
  gate (some (t_35, true)) (fun K => pvv prog (Instr.fieldAt 73 t_37 0) w K) w fun t_38 w =>
  gate (some (t_35, true)) (fun K => pvv prog (Instr.fieldAt 71 t_38 2) w K) w fun t_39 w =>
  bindS (vN (Instr.loadAt 3 t_39)) fun m_41 => gate (some (t_35, true)) (fun K => ldv prog (Instr.loadAt 3 t_39) w K) w fun t_40 w =>
  gate (some (t_35, true)) (fun K => pvv prog (binOp .geq 3 t_40 (.int .i64 1)) w K) w fun t_42 w =>
  pv prog (oPick t_35 t_42 (.bool false)) w fun t_43 w =>
  gate (some (t_43, true)) (fun K => K t_p0 w) w fun t_44 w =>
  gate (some (t_43, true)) (fun K => pv prog (oNil t_44) w K) w fun t_45 w =>
  gate (some (t_43, true)) (fun K => pvv prog (Instr.fieldAt 73 t_45 0) w K) w fun t_46 w =>
  gate (some (t_43, true)) (fun K => pvv prog (Instr.fieldAt 71 t_46 2) w K) w fun t_47 w =>
  gate (some (t_43, true)) (fun K => K t_27 w) w fun t_48 w =>
  bindS (vN (Instr.loadAt 3 t_47)) fun m_50 => gate (some (t_43, true)) (fun K => ldv prog (Instr.loadAt 3 t_47) w K) w fun t_49 w =>
  gate (some (t_43, true)) (fun K => pvv prog (binOp .leq 3 t_49 t_48) w K) w fun t_51 w =>
  pv prog (oPick t_43 t_51 (.bool false)) w fun t_52 w =>
  gate (some (t_52, true)) (fun K => K t_p0 w) w fun t_53 w =>
  gate (some (t_52, true)) (fun K => pv prog (oNil t_53) w K) w fun t_54 w =>
  gate (some (t_52, true)) (fun K => pvv prog (Instr.fieldAt 73 t_54 0) w K) w fun t_55 w =>
  gate (some (t_52, true)) (fun K => pvv prog (Instr.fieldAt 71 t_55 0) w K) w fun t_56 w =>
  gate (some (t_52, true)) (fun K => K t_p0 w) w fun t_57 w =>
  gate (some (t_52, true)) (fun K => pv prog (oNil t_57) w K) w fun t_58 w =>
  gate (some (t_52, true)) (fun K => pvv prog (Instr.fieldAt 73 t_58 0) w K) w fun t_59 w =>
  gate (some (t_52, true)) (fun K => pvv prog (Instr.fieldAt 71 t_59 2) w K) w fun t_60 w =>
  bindS (vN (Instr.loadAt 3 t_56)) fun m_62 => gate (some (t_52, true)) (fun K => ldv prog (Instr.loadAt 3 t_56) w K) w fun t_61 w =>
  bindS (vN (Instr.loadAt 3 t_60)) fun m_64 => gate (some (t_52, true)) (fun K => ldv prog (Instr.loadAt 3 t_60) w K) w fun t_63 w =>
  gate (some (t_52, true)) (fun K => pvv prog (binOp .lss 3 t_61 t_63) w K) w fun t_65 w =>
  pv prog (oPick t_52 t_65 (.bool false)) w fun t_66 w =>
  gate (some (t_66, true)) (fun K => K t_p0 w) w fun t_67 w =>
  gate (some (t_66, true)) (fun K => pv prog (oNil t_67) w K) w fun t_68 w =>
  gate (some (t_66, true)) (fun K => pvv prog (Instr.fieldAt 73 t_68 0) w K) w fun t_69 w =>
  gate (some (t_66, true)) (fun K => pvv prog (Instr.fieldAt 71 t_69 1) w K) w fun t_70 w =>
  gate (some (t_66, true)) (fun K => K t_p0 w) w fun t_71 w =>
  gate (some (t_66, true)) (fun K => pv prog (oNil t_71) w K) w fun t_72 w =>
  gate (some (t_66, true)) (fun K => pvv prog (Instr.fieldAt 73 t_72 0) w K) w fun t_73 w =>
  gate (some (t_66, true)) (fun K => pvv prog (Instr.fieldAt 71 t_73 2) w K) w fun t_74 w =>
  bindS (vN (Instr.loadAt 3 t_70)) fun m_76 => gate (some (t_66, true)) (fun K => ldv prog (Instr.loadAt 3 t_70) w K) w fun t_75 w =>
  bindS (vN (Instr.loadAt 3 t_74)) fun m_78 => gate (some (t_66, true)) (fun K => ldv prog (Instr.loadAt 3 t_74) w K) w fun t_77 w =>
  gate (some (t_66, true)) (fun K => pvv prog (binOp .lss 3 t_75 t_77) w K) w fun t_79 w =>
  pv prog (oPick t_66 t_79 (.bool false)) w fun t_80 w =>
  K t_80 w))))))
theorem B47_eq (t_p0 : Value) (w : World) (K : Value → World → Prop) : denFn prog Tryz.f47 T47 [t_p0] w K = B47 t_p0 w K := by kernel_rfl
theorem c47 {t_p0 : Value} {w : World} {K : Value → World → Prop} (h : B47 t_p0 w K) : Calls prog 47 #[t_p0] w (Ret K) :=
  denFn_calls Tryz.func47 T47_ok (Eq.mpr (B47_eq t_p0 w K) h)

-- 10 holdfast/hash.Sum
def T54 : Ann := (.seq .none (.seq (.draw [.op 0 .pure, .op 1 .pure, .op 2 .pure, .op 4 .pure, .op 5 .pure, .op 6 .pure, .op 3 .load, .op 7 .load, .op 8 .eff, .op 9 .eff]) (.seq .none (.seq .none (.seq (.seq .none (.block (.loop 140728898421696 [6] (.seq .none (.seq (.seq .none .none) (.block (.seq .none (.seq .none (.seq .none (.seq .none .none)))))))))) (.seq (.seq .none (.seq (.seq .none .none) .none)) (.seq (.seq .none (.block (.loop 73768961896328727552 [] (.seq .none (.seq (.seq .none .none) (.block (.seq .none .none))))))) (.seq .none (.seq .none .none)))))))))
theorem T54_ok : chkFn prog Tryz.f54 T54 = true := by kernel_rfl
def B54 (t_p0 c_p1 : Value) (w : World) (K : Value → World → Prop) : Prop :=
  dr w fun w =>
  pv prog (oNil c_p1) w fun t_0 w =>
  pvv prog (Instr.fieldAt 124 t_0 2) w fun t_1 w =>
  pv prog (oNil c_p1) w fun t_2 w =>
  pvv prog (Instr.fieldAt 124 t_2 0) w fun t_3 w =>
  bindS (vN (Instr.loadAt 117 t_1)) fun m_5 => ldv prog (Instr.loadAt 117 t_1) w fun t_4 w =>
  bindS (vN (Instr.loadAt 71 t_3)) fun m_7 => ldv prog (Instr.loadAt 71 t_3) w fun t_6 w =>
  Calls prog 81 #[t_6] w (Ret fun t_8 w => stay prog none m_5 t_4 w <| 
  efu prog (Instr.mapUpdate 117 t_4 (.int .i64 0) t_8) w fun u_9 w =>
  pv prog (oNil t_p0) w fun t_10 w =>
  pvv prog (Instr.fieldAt 73 t_10 1) w fun t_11 w =>
  ldv prog (Instr.loadAt 55 t_11) w fun t_12 w =>
  Calls prog 46 #[t_12] w (Ret fun t_13 w =>
  pv prog (oBi .len #[29] 3 #[false] #[t_13]) w fun t_14 w =>
  pv prog (oNil c_p1) w fun t_15 w =>
  pvv prog (Instr.fieldAt 124 t_15 2) w fun t_16 w =>
  ldv prog (Instr.loadAt 117 t_16) w fun t_17 w =>
  efv prog (Instr.range 117 t_17) w fun t_18 w =>
  lp (fun σ w again_20 => pop σ fun n_19 σ => fin σ <|
    efv prog (Instr.next t_18 false 0) w fun t_21 w =>
    pvv prog (Instr.extract t_21 0) w fun t_22 w =>
    cd t_22 (
      efv prog (Instr.entry t_18) w fun t_23 w =>
      pvv prog (Instr.extract t_23 0) w fun t_24 w =>
      Calls prog 87 #[t_13, t_24] w (Ret fun t_25 w =>
      pvv prog (Instr.extract t_25 0) w fun t_26 w =>
      pvv prog (Instr.extract t_25 1) w fun t_27 w =>
      pvv prog (Op.unary .not t_27) w fun t_28 w =>
      cd t_28 (
        pvv prog (binOp .add 3 n_19 (.int .i64 1)) w fun t_29 w =>
        again_20 [t_29] w) <|
      again_20 [n_19] w)) <|
    pvv prog (binOp .gtr 3 n_19 (.int .i64 100)) w fun t_30 w =>
    cd t_30 (
      K (.int .i64 7) w) <|
    pv prog (oNil c_p1) w fun t_31 w =>
    pvv prog (Instr.fieldAt 124 t_31 2) w fun t_32 w =>
    ldv prog (Instr.loadAt 117 t_32) w fun t_33 w =>
    efv prog (Instr.range 117 t_33) w fun t_34 w =>
    lp (fun σ w again_35 => fin σ <|
      efv prog (Instr.next t_34 false 0) w fun t_36 w =>
      pvv prog (Instr.extract t_36 0) w fun t_37 w =>
      cd t_37 (
        efv prog (Instr.entry t_34) w fun t_38 w =>
        pvv prog (Instr.extract t_38 0) w fun t_39 w =>
        pvv prog (Instr.extract t_38 1) w fun t_40 w =>
        pv prog (oNil t_p0) w fun t_41 w =>
        pvv prog (Instr.fieldAt 73 t_41 1) w fun t_42 w =>
        ldv prog (Instr.loadAt 55 t_42) w fun t_43 w =>
        Calls prog 88 #[t_43, t_39, t_40] w (Ret fun t_44 w =>
        again_35 [] w)) <|
      pv prog (oNil c_p1) w fun t_45 w =>
      pvv prog (Instr.fieldAt 124 t_45 0) w fun t_46 w =>
      ldv prog (Instr.loadAt 71 t_46) w fun t_47 w =>
      pv prog (oNil t_p0) w fun t_48 w =>
      pvv prog (Instr.fieldAt 73 t_48 0) w fun t_49 w =>
      efu prog (Instr.storeAt 71 t_49 t_47) w fun u_50 w =>
      K (.int .i64 0) w) [] w) [t_14] w))
theorem B54_eq (t_p0 c_p1 : Value) (w : World) (K : Value → World → Prop) : denFn prog Tryz.f54 T54 [t_p0, c_p1] w K = B54 t_p0 c_p1 w K := by kernel_rfl
theorem c54 {t_p0 c_p1 : Value} {w : World} {K : Value → World → Prop} (h : B54 t_p0 c_p1 w K) : Calls prog 54 #[t_p0, c_p1] w (Ret K) :=
  denFn_calls Tryz.func54 T54_ok (Eq.mpr (B54_eq t_p0 c_p1 w K) h)

-- 103 slices.insertionSortOrdered[int]
def T87 : Ann := (.seq .none (.seq .none (.seq .none (.seq (.block (.loop 2147476352 [7, 8] (.seq (.seq .none (.seq .none .none)) (.block (.seq .none (.seq .none (.seq .none .none))))))) (.seq .none .none)))))
theorem T87_ok : chkFn prog Tryz.f87 T87 = true := by kernel_rfl
def B87 (x_p0 target_p1 : Value) (w : World) (K : Value → World → Prop) : Prop :=
  pv prog (oBi .len #[29] 3 #[false] #[x_p0]) w fun t_0 w =>
  lp (fun σ w again_3 => pop σ fun i_1 σ => pop σ fun j_2 σ => fin σ <|
    pvv prog (binOp .lss 3 i_1 j_2) w fun t_4 w =>
    cd t_4 (
      pvv prog (binOp .add 3 i_1 j_2) w fun t_5 w =>
      pvv prog (convert 3 81 t_5) w fun t_6 w =>
      pvv prog (binOp .shr 81 t_6 (.int .u64 1)) w fun t_7 w =>
      pvv prog (convert 81 3 t_7) w fun t_8 w =>
      pvv prog (Instr.indexAt 29 x_p0 t_8) w fun t_9 w =>
      ldv prog (Instr.loadAt 3 t_9) w fun t_10 w =>
      Calls prog 109 #[t_10, target_p1] w (Ret fun t_11 w =>
      cd t_11 (
        pvv prog (binOp .add 3 t_8 (.int .i64 1)) w fun t_12 w =>
        again_3 [t_12, j_2] w) <|
      again_3 [i_1, t_8] w)) <|
    pvv prog (binOp .lss 3 i_1 t_0) w fun t_13 w =>
    gate (some (t_13, true)) (fun K => K x_p0 w) w fun t_14 w =>
    gate (some (t_13, true)) (fun K => K i_1 w) w fun t_15 w =>
    gate (some (t_13, true)) (fun K => pvv prog (Instr.indexAt 29 t_14 t_15) w K) w fun t_16 w =>
    gate (some (t_13, true)) (fun K => ldv prog (Instr.loadAt 3 t_16) w K) w fun t_17 w =>
    gate (some (t_13, true)) (fun K => K target_p1 w) w fun t_18 w =>
    gate (some (t_13, true)) (fun K => pvv prog (oEq .eql 3 (.tmp 39) (.tmp 40) t_17 t_18) w K) w fun t_19 w =>
    gate (some (t_13, true)) (fun K => K t_19 w) w fun t_20 w =>
    gate (some (t_20, false)) (fun K => K x_p0 w) w fun t_21 w =>
    gate (some (t_20, false)) (fun K => K i_1 w) w fun t_22 w =>
    gate (some (t_20, false)) (fun K => pvv prog (Instr.indexAt 29 t_21 t_22) w K) w fun t_23 w =>
    gate (some (t_20, false)) (fun K => ldv prog (Instr.loadAt 3 t_23) w K) w fun t_24 w =>
    gate (some (t_20, false)) (fun K => Calls prog 122 #[t_24] w (Ret K)) w fun t_25 w =>
    gate (some (t_20, false)) (fun K => K t_25 w) w fun t_26 w =>
    gate (some (t_26, true)) (fun K => K target_p1 w) w fun t_27 w =>
    gate (some (t_26, true)) (fun K => Calls prog 122 #[t_27] w (Ret K)) w fun t_28 w =>
    gate (some (t_20, false)) (fun K => pv prog (oPick t_26 t_28 (.bool false)) w K) w fun t_29 w =>
    gate (some (t_13, true)) (fun K => pv prog (oPick t_20 (.bool true) t_29) w K) w fun t_30 w =>
    pv prog (oPick t_13 t_30 (.bool false)) w fun t_31 w =>
    K (.tuple #[i_1, t_31]) w) [(.int .i64 0), t_0] w
theorem B87_eq (x_p0 target_p1 : Value) (w : World) (K : Value → World → Prop) : denFn prog Tryz.f87 T87 [x_p0, target_p1] w K = B87 x_p0 target_p1 w K := by kernel_rfl
theorem c87 {x_p0 target_p1 : Value} {w : World} {K : Value → World → Prop} (h : B87 x_p0 target_p1 w K) : Calls prog 87 #[x_p0, target_p1] w (Ret K) :=
  denFn_calls Tryz.func87 T87_ok (Eq.mpr (B87_eq x_p0 target_p1 w K) h)

-- 118 (holdfast/tree.node).half
def T118 : Ann := (.seq .none (.seq .none (.seq (.seq .none (.block (.loop 4398045463536 [4, 5, 6, 20] (.seq .none (.seq (.seq .none .none) (.meet 2199019062256 [4, 5, 6] (.block (.seq .none (.seq .none (.seq .none (.seq .none (.seq .none .none)))))) .none)))))) (.seq .none .none))))
theorem T118_ok : chkFn prog Tryz.f118 T118 = true := by kernel_rfl
def B118 (n_p0 : Value) (w : World) (K : Value → World → Prop) : Prop :=
  efv prog (Instr.box 63 n_p0) w fun n_0 w =>
  ldv prog (Instr.loadAt 63 n_0) w fun t_1 w =>
  Calls prog 62 #[t_1] w (Ret fun t_2 w =>
  pvv prog (Instr.fieldAt 63 n_0 1) w fun t_3 w =>
  ldv prog (Instr.loadAt 61 t_3) w fun t_4 w =>
  pvv prog (Instr.fieldAt 63 n_0 1) w fun t_5 w =>
  ldv prog (Instr.loadAt 61 t_5) w fun t_6 w =>
  pv prog (oBi .len #[61] 3 #[false] #[t_6]) w fun t_7 w =>
  pvv prog (binOp .sub 3 t_7 (.int .i64 1)) w fun t_8 w =>
  pvv prog (Instr.sliceAt 61 t_4 none (some t_8) none) w fun t_9 w =>
  pv prog (oBi .len #[61] 3 #[false] #[t_9]) w fun t_10 w =>
  lp (fun σ w again_15 => pop σ fun s_11 σ => pop σ fun best_12 σ => pop σ fun at_13 σ => pop σ fun t_14 σ => fin σ <|
    pvv prog (binOp .lss 3 t_14 t_10) w fun t_16 w =>
    cd t_16 (
      jn (fun σ w => pop σ fun s_17 σ => pop σ fun best_18 σ => pop σ fun at_19 σ => fin σ <|
        pvv prog (binOp .add 3 t_14 (.int .i64 1)) w fun t_20 w =>
        again_15 [s_17, best_18, at_19, t_20] w) fun k_21 =>
      pvv prog (Instr.indexAt 61 t_9 t_14) w fun t_22 w =>
      ldv prog (Instr.loadAt 67 t_22) w fun t_23 w =>
      efv prog (Instr.alloc 67 true (.tuple #[])) w fun e_24 w =>
      efu prog (Instr.storeAt 67 e_24 t_23) w fun u_25 w =>
      ldv prog (Instr.loadAt 63 n_0) w fun t_26 w =>
      ldv prog (Instr.loadAt 67 e_24) w fun t_27 w =>
      Calls prog 97 #[t_26, t_27] w (Ret fun t_28 w =>
      pvv prog (binOp .add 3 s_11 t_28) w fun t_29 w =>
      pvv prog (binOp .sub 3 t_2 t_29) w fun t_30 w =>
      pv prog (oBi .max #[3, 3] 3 #[false, false] #[t_29, t_30]) w fun t_31 w =>
      pvv prog (binOp .lss 3 t_31 best_12) w fun t_32 w =>
      cd t_32 (
        pvv prog (binOp .add 3 t_14 (.int .i64 1)) w fun t_33 w =>
        k_21 [t_29, t_31, t_33] w) <|
      k_21 [t_29, best_12, at_13] w)) <|
    K at_13 w) [(.int .i64 0), (.int .i64 506), (.int .i64 1), (.int .i64 0)] w)
theorem B118_eq (n_p0 : Value) (w : World) (K : Value → World → Prop) : denFn prog Tryz.f118 T118 [n_p0] w K = B118 n_p0 w K := by kernel_rfl
theorem c118 {n_p0 : Value} {w : World} {K : Value → World → Prop} (h : B118 n_p0 w K) : Calls prog 118 #[n_p0] w (Ret K) :=
  denFn_calls Tryz.func118 T118_ok (Eq.mpr (B118_eq n_p0 w K) h)

-- 33 holdfast/hash.rounds
def T20 : Ann := (.seq .none (.seq .none (.seq .none (.seq (.seq .none (.seq (.seq .none (.seq .none .none)) .none)) (.seq .none (.seq .none .none))))))
theorem T20_ok : chkFn prog Tryz.f20 T20 = true := by kernel_rfl
def B20 (n_p0 x_p1 x_p2 : Value) (w : World) (K : Value → World → Prop) : Prop :=
  efv prog (Instr.box 63 n_p0) w fun n_0 w =>
  efv prog (Instr.alloc 63 true (.tuple #[])) w fun t_1 w =>
  ldv prog (Instr.loadAt 63 n_0) w fun t_2 w =>
  ldv prog (Instr.loadAt 22 x_p1) w fun t_3 w =>
  Calls prog 21 #[t_2, t_3] w (Ret fun t_4 w =>
  pvv prog (Instr.extract t_4 0) w fun t_5 w =>
  pvv prog (Instr.extract t_4 1) w fun t_6 w =>
  ldv prog (Instr.loadAt 22 x_p1) w fun t_7 w =>
  ldv prog (Instr.loadAt 22 x_p2) w fun t_8 w =>
  pvv prog (Instr.build 67 #[(0, t_7), (1, t_8)]) w fun t_9 w =>
  efv prog (Instr.alloc 67 true (.tuple #[])) w fun e_10 w =>
  efu prog (Instr.storeAt 67 e_10 t_9) w fun u_11 w =>
  cd t_6 (
    pvv prog (Instr.fieldAt 63 n_0 1) w fun t_12 w =>
    ldv prog (Instr.loadAt 61 t_12) w fun t_13 w =>
    ldv prog (Instr.loadAt 67 e_10) w fun t_14 w =>
    pvv prog (Instr.indexAt 61 t_13 t_5) w fun t_15 w =>
    efu prog (Instr.storeAt 67 t_15 t_14) w fun u_16 w =>
    ldv prog (Instr.loadAt 63 n_0) w fun t_17 w =>
    efu prog (Instr.storeAt 63 t_1 t_17) w fun u_18 w =>
    ∃ r_19, (do loadVar 63 (← asAddr t_1)).run prog w = .ok r_19 w ∧ K r_19 w) <|
  pvv prog (Instr.fieldAt 63 n_0 1) w fun t_20 w =>
  ldv prog (Instr.loadAt 61 t_20) w fun t_21 w =>
  ldv prog (Instr.loadAt 67 e_10) w fun t_22 w =>
  efv prog (Instr.buildSlice 61 1 #[(0, t_22)]) w fun t_23 w =>
  Calls prog 22 #[t_21, t_5, t_23] w (Ret fun t_24 w =>
  pvv prog (Instr.fieldAt 63 n_0 1) w fun t_25 w =>
  efu prog (Instr.storeAt 61 t_25 t_24) w fun u_26 w =>
  ldv prog (Instr.loadAt 63 n_0) w fun t_27 w =>
  efu prog (Instr.storeAt 63 t_1 t_27) w fun u_28 w =>
  ∃ r_29, (do loadVar 63 (← asAddr t_1)).run prog w = .ok r_29 w ∧ K r_29 w))
theorem B20_eq (n_p0 x_p1 x_p2 : Value) (w : World) (K : Value → World → Prop) : denFn prog Tryz.f20 T20 [n_p0, x_p1, x_p2] w K = B20 n_p0 x_p1 x_p2 w K := by kernel_rfl
theorem c20 {n_p0 x_p1 x_p2 : Value} {w : World} {K : Value → World → Prop} (h : B20 n_p0 x_p1 x_p2 w K) : Calls prog 20 #[n_p0, x_p1, x_p2] w (Ret K) :=
  denFn_calls Tryz.func20 T20_ok (Eq.mpr (B20_eq n_p0 x_p1 x_p2 w K) h)

-- 99 (*holdfast/wal.Log).Read
def T99 : Ann := (.seq .none (.seq (.block (.seq .none (.seq (.seq .none .none) (.seq .none (.seq (.seq .none .none) .none))))) (.seq (.draw [.op 0 .pure, .op 1 .pure, .op 2 .pure, .op 3 .pure, .op 5 .pure, .op 6 .pure, .op 4 .load, .op 7 .eff, .op 8 .eff, .op 9 .pure, .op 10 .pure, .op 11 .pure, .op 12 .pure]) .none)))
theorem T99_ok : chkFn prog Tryz.f99 T99 = true := by kernel_rfl
def B99 (l_p0 n_p1 : Value) (w : World) (K : Value → World → Prop) : Prop :=
  pvv prog (oEq .eql 52 (.tmp 7) (.const (.pointer none)) l_p0 (.pointer none)) w fun t_0 w =>
  cd t_0 (
    K (.tuple #[(.slice none 0 0), (.int .i64 1)]) w) <|
  pvv prog (binOp .lss 3 n_p1 (.int .i64 0)) w fun t_1 w =>
  gate (some (t_1, false)) (fun K => K n_p1 w) w fun t_2 w =>
  gate (some (t_1, false)) (fun K => K l_p0 w) w fun t_3 w =>
  gate (some (t_1, false)) (fun K => Calls prog 28 #[t_3] w (Ret K)) w fun t_4 w =>
  gate (some (t_1, false)) (fun K => pvv prog (binOp .geq 3 t_2 t_4) w K) w fun t_5 w =>
  pv prog (oPick t_1 (.bool true) t_5) w fun t_6 w =>
  cd t_6 (
    K (.tuple #[(.slice none 0 0), (.int .i64 2)]) w) <|
  dr w fun w =>
  pv prog (oNil l_p0) w fun t_7 w =>
  pvv prog (Instr.fieldAt 114 t_7 0) w fun t_8 w =>
  pvv prog (Instr.fieldAt 111 t_8 0) w fun t_9 w =>
  bindS (vN (Instr.loadAt 49 t_9)) fun m_11 => ldv prog (Instr.loadAt 49 t_9) w fun t_10 w =>
  Calls prog 127 #[l_p0, n_p1] w (Ret fun t_12 w => stay prog none m_11 t_10 w <| 
  Calls prog 41 #[t_10, t_12] w (Ret fun t_13 w =>
  pvv prog (Instr.extract t_13 0) w fun t_14 w =>
  pvv prog (Instr.extract t_13 1) w fun t_15 w =>
  K (.tuple #[t_14, t_15]) w))
theorem B99_eq (l_p0 n_p1 : Value) (w : World) (K : Value → World → Prop) : denFn prog Tryz.f99 T99 [l_p0, n_p1] w K = B99 l_p0 n_p1 w K := by kernel_rfl
theorem c99 {l_p0 n_p1 : Value} {w : World} {K : Value → World → Prop} (h : B99 l_p0 n_p1 w K) : Calls prog 99 #[l_p0, n_p1] w (Ret K) :=
  denFn_calls Tryz.func99 T99_ok (Eq.mpr (B99_eq l_p0 n_p1 w K) h)

-- 123 slices.Reverse[[]holdfast/tree.entry,holdfast/tree.entry]
def T9 : Ann := (.seq .none (.seq (.block (.seq .none (.seq (.seq .none .none) (.seq .none (.seq (.seq .none .none) .none))))) (.seq (.seq .none (.seq .none (.seq (.seq .none .none) .none))) (.seq .none .none))))
theorem T9_ok : chkFn prog Tryz.f9 T9 = true := by kernel_rfl
def B9 (t_p0 key_p1 : Value) (w : World) (K : Value → World → Prop) : Prop :=
  efv prog (Instr.box 22 key_p1) w fun key_0 w =>
  pvv prog (oEq .eql 23 (.tmp 9) (.const (.pointer none)) t_p0 (.pointer none)) w fun t_1 w =>
  cd t_1 (
    K (.int .i64 1) w) <|
  ldv prog (Instr.loadAt 22 key_0) w fun t_2 w =>
  Calls prog 18 #[t_2] w (Ret fun t_3 w =>
  pvv prog (Op.unary .not t_3) w fun t_4 w =>
  cd t_4 (
    K (.int .i64 6) w) <|
  ldv prog (Instr.loadAt 22 key_0) w fun t_5 w =>
  Calls prog 30 #[t_p0, t_5] w (Ret fun t_6 w =>
  pvv prog (Instr.extract t_6 0) w fun t_7 w =>
  pvv prog (Instr.extract t_6 1) w fun t_8 w =>
  pvv prog (Instr.extract t_6 2) w fun t_9 w =>
  efv prog (Instr.alloc 63 true (.tuple #[])) w fun t_10 w =>
  efu prog (Instr.storeAt 63 t_10 t_7) w fun u_11 w =>
  pvv prog (Op.unary .not t_9) w fun t_12 w =>
  cd t_12 (
    K (.int .i64 4) w) <|
  ldv prog (Instr.loadAt 22 key_0) w fun t_13 w =>
  pvv prog (Instr.makeFunc (.func 31) #[] #[key_0]) w fun t_14 w =>
  Calls prog 19 #[t_p0, t_13, t_14] w (Ret fun t_15 w =>
  K t_15 w)))
theorem B9_eq (t_p0 key_p1 : Value) (w : World) (K : Value → World → Prop) : denFn prog Tryz.f9 T9 [t_p0, key_p1] w K = B9 t_p0 key_p1 w K := by kernel_rfl
theorem c9 {t_p0 key_p1 : Value} {w : World} {K : Value → World → Prop} (h : B9 t_p0 key_p1 w K) : Calls prog 9 #[t_p0, key_p1] w (Ret K) :=
  denFn_calls Tryz.func9 T9_ok (Eq.mpr (B9_eq t_p0 key_p1 w K) h)

-- 17 holdfast/tree.Open
def T17 : Ann := (.seq .none (.seq (.block (.seq .none (.seq (.seq .none .none) (.seq .none (.seq (.seq .none .none) (.seq .none (.seq (.seq .none .none) .none))))))) (.seq .none (.seq (.seq .none (.seq (.seq .none .none) .none)) (.seq .none .none)))))
theorem T17_ok : chkFn prog Tryz.f17 T17 = true := by kernel_rfl
def B17 (p_p0 : Value) (w : World) (K : Value → World → Prop) : Prop :=
  pvv prog (oEq .eql 55 (.tmp 6) (.const (.pointer none)) p_p0 (.pointer none)) w fun t_0 w =>
  cd t_0 (
    K (.tuple #[(.pointer none), (.int .i64 1)]) w) <|
  Calls prog 27 #[p_p0] w (Ret fun t_1 w =>
  Calls prog 28 #[t_1] w (Ret fun t_2 w =>
  pvv prog (binOp .lss 3 t_2 (.int .i64 2)) w fun t_3 w =>
  cd t_3 (
    K (.tuple #[(.pointer none), (.int .i64 2)]) w) <|
  Calls prog 46 #[p_p0] w (Ret fun t_4 w =>
  pv prog (oBi .len #[29] 3 #[false] #[t_4]) w fun t_5 w =>
  pvv prog (binOp .gtr 3 t_5 (.int .i64 0)) w fun t_6 w =>
  cd t_6 (
    K (.tuple #[(.pointer none), (.int .i64 3)]) w) <|
  pvv prog (Instr.build 73 #[(1, p_p0)]) w fun t_7 w =>
  efv prog (Instr.box 73 t_7) w fun t_8 w =>
  Calls prog 47 #[t_8] w (Ret fun t_9 w =>
  pvv prog (Op.unary .not t_9) w fun t_10 w =>
  cd t_10 (
    K (.tuple #[(.pointer none), (.int .i64 15)]) w) <|
  K (.tuple #[t_8, (.int .i64 0)]) w))))
theorem B17_eq (p_p0 : Value) (w : World) (K : Value → World → Prop) : denFn prog Tryz.f17 T17 [p_p0] w K = B17 p_p0 w K := by kernel_rfl
theorem c17 {p_p0 : Value} {w : World} {K : Value → World → Prop} (h : B17 p_p0 w K) : Calls prog 17 #[p_p0] w (Ret K) :=
  denFn_calls Tryz.func17 T17_ok (Eq.mpr (B17_eq p_p0 w K) h)

-- 61 (holdfast/tree.node).poor
def T61 : Ann := (.seq .none (.seq .none .none))
theorem T61_ok : chkFn prog Tryz.f61 T61 = true := by kernel_rfl
def B61 (n_p0 : Value) (w : World) (K : Value → World → Prop) : Prop :=
  efv prog (Instr.box 63 n_p0) w fun n_0 w =>
  ldv prog (Instr.loadAt 63 n_0) w fun t_1 w =>
  Calls prog 62 #[t_1] w (Ret fun t_2 w =>
  pvv prog (binOp .lss 3 t_2 (.int .i64 56)) w fun t_3 w =>
  gate (some (t_3, false)) (fun K => pvv prog (Instr.fieldAt 63 n_0 0) w K) w fun t_4 w =>
  gate (some (t_3, false)) (fun K => ldv prog (Instr.loadAt 4 t_4) w K) w fun t_5 w =>
  gate (some (t_3, false)) (fun K => pvv prog (Op.unary .not t_5) w K) w fun t_6 w =>
  gate (some (t_3, false)) (fun K => K t_6 w) w fun t_7 w =>
  gate (some (t_7, true)) (fun K => pvv prog (Instr.fieldAt 63 n_0 1) w K) w fun t_8 w =>
  gate (some (t_7, true)) (fun K => ldv prog (Instr.loadAt 61 t_8) w K) w fun t_9 w =>
  gate (some (t_7, true)) (fun K => pv prog (oBi .len #[61] 3 #[false] #[t_9]) w K) w fun t_10 w =>
  gate (some (t_7, true)) (fun K => pvv prog (binOp .lss 3 t_10 (.int .i64 2)) w K) w fun t_11 w =>
  gate (some (t_3, false)) (fun K => pv prog (oPick t_7 t_11 (.bool false)) w K) w fun t_12 w =>
  pv prog (oPick t_3 (.bool true) t_12) w fun t_13 w =>
  K t_13 w)
theorem B61_eq (n_p0 : Value) (w : World) (K : Value → World → Prop) : denFn prog Tryz.f61 T61 [n_p0] w K = B61 n_p0 w K := by kernel_rfl
theorem c61 {n_p0 : Value} {w : World} {K : Value → World → Prop} (h : B61 n_p0 w K) : Calls prog 61 #[n_p0] w (Ret K) :=
  denFn_calls Tryz.func61 T61_ok (Eq.mpr (B61_eq n_p0 w K) h)

-- 97 (holdfast/tree.node).size
def T97 : Ann := (.seq .none (.seq (.seq .none (.seq (.seq .none .none) .none)) (.seq .none .none)))
theorem T97_ok : chkFn prog Tryz.f97 T97 = true := by kernel_rfl
def B97 (n_p0 e_p1 : Value) (w : World) (K : Value → World → Prop) : Prop :=
  efv prog (Instr.box 63 n_p0) w fun n_0 w =>
  efv prog (Instr.box 67 e_p1) w fun e_1 w =>
  pvv prog (Instr.fieldAt 63 n_0 0) w fun t_2 w =>
  ldv prog (Instr.loadAt 4 t_2) w fun t_3 w =>
  cd t_3 (
    pvv prog (Instr.fieldAt 67 e_1 0) w fun t_4 w =>
    ldv prog (Instr.loadAt 22 t_4) w fun t_5 w =>
    pv prog (oBi .len #[22] 3 #[false] #[t_5]) w fun t_6 w =>
    pvv prog (Instr.fieldAt 67 e_1 1) w fun t_7 w =>
    ldv prog (Instr.loadAt 22 t_7) w fun t_8 w =>
    pv prog (oBi .len #[22] 3 #[false] #[t_8]) w fun t_9 w =>
    pvv prog (binOp .add 3 t_6 t_9) w fun t_10 w =>
    pvv prog (binOp .add 3 t_10 (.int .i64 2)) w fun t_11 w =>
    K t_11 w) <|
  pvv prog (Instr.fieldAt 67 e_1 0) w fun t_12 w =>
  ldv prog (Instr.loadAt 22 t_12) w fun t_13 w =>
  pv prog (oBi .len #[22] 3 #[false] #[t_13]) w fun t_14 w =>
  pvv prog (binOp .add 3 t_14 (.int .i64 3)) w fun t_15 w =>
  K t_15 w
theorem B97_eq (n_p0 e_p1 : Value) (w : World) (K : Value → World → Prop) : denFn prog Tryz.f97 T97 [n_p0, e_p1] w K = B97 n_p0 e_p1 w K := by kernel_rfl
theorem c97 {n_p0 e_p1 : Value} {w : World} {K : Value → World → Prop} (h : B97 n_p0 e_p1 w K) : Calls prog 97 #[n_p0, e_p1] w (Ret K) :=
  denFn_calls Tryz.func97 T97_ok (Eq.mpr (B97_eq n_p0 e_p1 w K) h)

-- 31 (*holdfast/tree.Tree).Delete$1
def T31 : Ann := (.seq .none (.seq .none (.seq .none (.seq .none .none))))
theorem T31_ok : chkFn prog Tryz.f31 T31 = true := by kernel_rfl
def B31 (n_p0 x_p1 : Value) (w : World) (K : Value → World → Prop) : Prop :=
  efv prog (Instr.box 63 n_p0) w fun n_0 w =>
  efv prog (Instr.alloc 63 true (.tuple #[])) w fun t_1 w =>
  ldv prog (Instr.loadAt 63 n_0) w fun t_2 w =>
  ldv prog (Instr.loadAt 22 x_p1) w fun t_3 w =>
  Calls prog 21 #[t_2, t_3] w (Ret fun t_4 w =>
  pvv prog (Instr.extract t_4 0) w fun t_5 w =>
  pvv prog (Instr.extract t_4 1) w fun t_6 w =>
  pvv prog (Instr.fieldAt 63 n_0 1) w fun t_7 w =>
  ldv prog (Instr.loadAt 61 t_7) w fun t_8 w =>
  pvv prog (binOp .add 3 t_5 (.int .i64 1)) w fun t_9 w =>
  Calls prog 32 #[t_8, t_5, t_9] w (Ret fun t_10 w =>
  pvv prog (Instr.fieldAt 63 n_0 1) w fun t_11 w =>
  efu prog (Instr.storeAt 61 t_11 t_10) w fun u_12 w =>
  ldv prog (Instr.loadAt 63 n_0) w fun t_13 w =>
  efu prog (Instr.storeAt 63 t_1 t_13) w fun u_14 w =>
  ∃ r_15, (do loadVar 63 (← asAddr t_1)).run prog w = .ok r_15 w ∧ K r_15 w))
theorem B31_eq (n_p0 x_p1 : Value) (w : World) (K : Value → World → Prop) : denFn prog Tryz.f31 T31 [n_p0, x_p1] w K = B31 n_p0 x_p1 w K := by kernel_rfl
theorem c31 {n_p0 x_p1 : Value} {w : World} {K : Value → World → Prop} (h : B31 n_p0 x_p1 w K) : Calls prog 31 #[n_p0, x_p1] w (Ret K) :=
  denFn_calls Tryz.func31 T31_ok (Eq.mpr (B31_eq n_p0 x_p1 w K) h)

-- 73 holdfast/block.copied
def T73 : Ann := (.seq .none (.seq .none (.seq (.seq .none (.block (.loop 4192304 [11] (.seq .none (.seq (.seq .none .none) (.seq (.block (.seq .none .none)) .none)))))) (.seq .none .none))))
theorem T73_ok : chkFn prog Tryz.f73 T73 = true := by kernel_rfl
def B73 (l_p0 : Value) (w : World) (K : Value → World → Prop) : Prop :=
  pv prog (oBi .len #[36] 3 #[false] #[l_p0]) w fun t_0 w =>
  efv prog (Instr.makeSlice 36 t_0 t_0) w fun t_1 w =>
  pv prog (oBi .len #[36] 3 #[false] #[l_p0]) w fun t_2 w =>
  lp (fun σ w again_4 => pop σ fun t_3 σ => fin σ <|
    pvv prog (binOp .lss 3 t_3 t_2) w fun t_5 w =>
    cd t_5 (
      pvv prog (Instr.indexAt 36 l_p0 t_3) w fun t_6 w =>
      ldv prog (Instr.loadAt 22 t_6) w fun t_7 w =>
      Calls prog 35 #[t_7] w (Ret fun t_8 w =>
      pvv prog (Instr.indexAt 36 t_1 t_3) w fun t_9 w =>
      efu prog (Instr.storeAt 22 t_9 t_8) w fun u_10 w =>
      pvv prog (binOp .add 3 t_3 (.int .i64 1)) w fun t_11 w =>
      again_4 [t_11] w)) <|
    K t_1 w) [(.int .i64 0)] w
theorem B73_eq (l_p0 : Value) (w : World) (K : Value → World → Prop) : denFn prog Tryz.f73 T73 [l_p0] w K = B73 l_p0 w K := by kernel_rfl
theorem c73 {l_p0 : Value} {w : World} {K : Value → World → Prop} (h : B73 l_p0 w K) : Calls prog 73 #[l_p0] w (Ret K) :=
  denFn_calls Tryz.func73 T73_ok (Eq.mpr (B73_eq l_p0 w K) h)

-- 43 holdfast/wal.get
def T43 : Ann := (.seq .none (.seq .none (.seq (.seq .none (.block (.loop 261928 [3, 8] (.seq .none (.seq (.seq .none .none) (.seq (.block (.seq .none .none)) .none)))))) (.seq .none .none))))
theorem T43_ok : chkFn prog Tryz.f43 T43 = true := by kernel_rfl
def B43 (b_p0 : Value) (w : World) (K : Value → World → Prop) : Prop :=
  pv prog (oBi .len #[22] 3 #[false] #[b_p0]) w fun t_0 w =>
  lp (fun σ w again_3 => pop σ fun n_1 σ => pop σ fun t_2 σ => fin σ <|
    pvv prog (binOp .lss 3 t_2 t_0) w fun t_4 w =>
    cd t_4 (
      pvv prog (Instr.indexAt 22 b_p0 t_2) w fun t_5 w =>
      ldv prog (Instr.loadAt 5 t_5) w fun t_6 w =>
      pvv prog (binOp .shl 3 n_1 (.int .u64 8)) w fun t_7 w =>
      pvv prog (convert 5 3 t_6) w fun t_8 w =>
      pvv prog (binOp .or 3 t_7 t_8) w fun t_9 w =>
      pvv prog (binOp .add 3 t_2 (.int .i64 1)) w fun t_10 w =>
      again_3 [t_9, t_10] w) <|
    K n_1 w) [(.int .i64 0), (.int .i64 0)] w
theorem B43_eq (b_p0 : Value) (w : World) (K : Value → World → Prop) : denFn prog Tryz.f43 T43 [b_p0] w K = B43 b_p0 w K := by kernel_rfl
theorem c43 {b_p0 : Value} {w : World} {K : Value → World → Prop} (h : B43 b_p0 w K) : Calls prog 43 #[b_p0] w (Ret K) :=
  denFn_calls Tryz.func43 T43_ok (Eq.mpr (B43_eq b_p0 w K) h)

-- 101 slices.IndexFunc[[]int,int]
def T101 : Ann := (.seq .none (.seq (.seq .none (.block (.loop 524080 [8] (.seq .none (.seq (.seq .none .none) (.seq (.block (.seq .none (.seq .none (.seq (.seq .none .none) .none)))) .none)))))) (.seq .none .none)))
theorem T101_ok : chkFn prog Tryz.f101 T101 = true := by kernel_rfl
def B101 (s_p0 f_p1 : Value) (w : World) (K : Value → World → Prop) : Prop :=
  pv prog (oBi .len #[29] 3 #[false] #[s_p0]) w fun t_0 w =>
  lp (fun σ w again_2 => pop σ fun t_1 σ => fin σ <|
    pvv prog (binOp .lss 3 t_1 t_0) w fun t_3 w =>
    cd t_3 (
      pvv prog (Instr.indexAt 29 s_p0 t_1) w fun t_4 w =>
      ldv prog (Instr.loadAt 3 t_4) w fun t_5 w =>
      ef prog (oCall f_p1 #[t_5]) w fun t_6 w =>
      cd t_6 (
        K t_1 w) <|
      pvv prog (binOp .add 3 t_1 (.int .i64 1)) w fun t_7 w =>
      again_2 [t_7] w) <|
    K (.int .i64 (-1)) w) [(.int .i64 0)] w
theorem B101_eq (s_p0 f_p1 : Value) (w : World) (K : Value → World → Prop) : denFn prog Tryz.f101 T101 [s_p0, f_p1] w K = B101 s_p0 f_p1 w K := by kernel_rfl
theorem c101 {s_p0 f_p1 : Value} {w : World} {K : Value → World → Prop} (h : B101 s_p0 f_p1 w K) : Calls prog 101 #[s_p0, f_p1] w (Ret K) :=
  denFn_calls Tryz.func101 T101_ok (Eq.mpr (B101_eq s_p0 f_p1 w K) h)

-- 92 holdfast/wal.Need
def T92 : Ann := (.seq .none (.seq (.seq .none (.seq (.seq .none .none) .none)) (.seq .none .none)))
theorem T92_ok : chkFn prog Tryz.f92 T92 = true := by kernel_rfl
def B92 (pages_p0 : Value) (w : World) (K : Value → World → Prop) : Prop :=
  pvv prog (binOp .lss 3 pages_p0 (.int .i64 1)) w fun t_0 w =>
  gate (some (t_0, false)) (fun K => K pages_p0 w) w fun t_1 w =>
  gate (some (t_0, false)) (fun K => pvv prog (binOp .gtr 3 t_1 (.int .i64 100)) w K) w fun t_2 w =>
  pv prog (oPick t_0 (.bool true) t_2) w fun t_3 w =>
  cd t_3 (
    K (.int .i64 0) w) <|
  pvv prog (binOp .add 3 pages_p0 (.int .i64 1)) w fun t_4 w =>
  K t_4 w
theorem B92_eq (pages_p0 : Value) (w : World) (K : Value → World → Prop) : denFn prog Tryz.f92 T92 [pages_p0] w K = B92 pages_p0 w K := by kernel_rfl
theorem c92 {pages_p0 : Value} {w : World} {K : Value → World → Prop} (h : B92 pages_p0 w K) : Calls prog 92 #[pages_p0] w (Ret K) :=
  denFn_calls Tryz.func92 T92_ok (Eq.mpr (B92_eq pages_p0 w K) h)

-- 18 holdfast/tree.isKey
def T18 : Ann := (.seq .none (.seq .none .none))
theorem T18_ok : chkFn prog Tryz.f18 T18 = true := by kernel_rfl
def B18 (k_p0 : Value) (w : World) (K : Value → World → Prop) : Prop :=
  pv prog (oBi .len #[22] 3 #[false] #[k_p0]) w fun t_0 w =>
  pvv prog (binOp .geq 3 t_0 (.int .i64 1)) w fun t_1 w =>
  gate (some (t_1, true)) (fun K => K k_p0 w) w fun t_2 w =>
  gate (some (t_1, true)) (fun K => pv prog (oBi .len #[22] 3 #[false] #[t_2]) w K) w fun t_3 w =>
  gate (some (t_1, true)) (fun K => pvv prog (binOp .leq 3 t_3 (.int .i64 64)) w K) w fun t_4 w =>
  pv prog (oPick t_1 t_4 (.bool false)) w fun t_5 w =>
  K t_5 w
theorem B18_eq (k_p0 : Value) (w : World) (K : Value → World → Prop) : denFn prog Tryz.f18 T18 [k_p0] w K = B18 k_p0 w K := by kernel_rfl
theorem c18 {k_p0 : Value} {w : World} {K : Value → World → Prop} (h : B18 k_p0 w K) : Calls prog 18 #[k_p0] w (Ret K) :=
  denFn_calls Tryz.func18 T18_ok (Eq.mpr (B18_eq k_p0 w K) h)

-- 40 (*holdfast/block.Disk).Image
def T40 : Ann := (.seq .none (.seq (.seq .none (.seq (.seq .none .none) .none)) (.seq .none .none)))
theorem T40_ok : chkFn prog Tryz.f40 T40 = true := by kernel_rfl
def B40 (d_p0 : Value) (w : World) (K : Value → World → Prop) : Prop :=
  pvv prog (oEq .eql 49 (.tmp 3) (.const (.pointer none)) d_p0 (.pointer none)) w fun t_0 w =>
  cd t_0 (
    K (.slice none 0 0) w) <|
  pv prog (oNil d_p0) w fun t_1 w =>
  pvv prog (Instr.fieldAt 107 t_1 0) w fun t_2 w =>
  ldv prog (Instr.loadAt 36 t_2) w fun t_3 w =>
  Calls prog 73 #[t_3] w (Ret fun t_4 w =>
  K t_4 w)
theorem B40_eq (d_p0 : Value) (w : World) (K : Value → World → Prop) : denFn prog Tryz.f40 T40 [d_p0] w K = B40 d_p0 w K := by kernel_rfl
theorem c40 {d_p0 : Value} {w : World} {K : Value → World → Prop} (h : B40 d_p0 w K) : Calls prog 40 #[d_p0] w (Ret K) :=
  denFn_calls Tryz.func40 T40_ok (Eq.mpr (B40_eq d_p0 w K) h)

-- 7 (*holdfast/tree.Tree).Commit
def T7 : Ann := (.seq .none (.seq (.seq .none (.seq (.seq .none .none) .none)) (.seq .none .none)))
theorem T7_ok : chkFn prog Tryz.f7 T7 = true := by kernel_rfl
def B7 (t_p0 : Value) (w : World) (K : Value → World → Prop) : Prop :=
  pvv prog (oEq .eql 23 (.tmp 3) (.const (.pointer none)) t_p0 (.pointer none)) w fun t_0 w =>
  cd t_0 (
    K (.int .i64 1) w) <|
  pv prog (oNil t_p0) w fun t_1 w =>
  pvv prog (Instr.fieldAt 73 t_1 1) w fun t_2 w =>
  ldv prog (Instr.loadAt 55 t_2) w fun t_3 w =>
  Calls prog 23 #[t_3] w (Ret fun t_4 w =>
  K t_4 w)
theorem B7_eq (t_p0 : Value) (w : World) (K : Value → World → Prop) : denFn prog Tryz.f7 T7 [t_p0] w K = B7 t_p0 w K := by kernel_rfl
theorem c7 {t_p0 : Value} {w : World} {K : Value → World → Prop} (h : B7 t_p0 w K) : Calls prog 7 #[t_p0] w (Ret K) :=
  denFn_calls Tryz.func7 T7_ok (Eq.mpr (B7_eq t_p0 w K) h)

-- 98 (*sync/atomic.Int64).Add
def T98 : Ann := (.seq .none (.seq .none .none))
theorem T98_ok : chkFn prog Tryz.f98 T98 = true := by kernel_rfl
def B98 (x_p0 delta_p1 : Value) (w : World) (K : Value → World → Prop) : Prop :=
  pv prog (oNil x_p0) w fun t_0 w =>
  pvv prog (Instr.fieldAt 105 t_0 2) w fun t_1 w =>
  ef prog (oCall (.func (.func 126) #[] #[]) #[t_1, delta_p1]) w fun t_2 w =>
  K t_2 w
theorem B98_eq (x_p0 delta_p1 : Value) (w : World) (K : Value → World → Prop) : denFn prog Tryz.f98 T98 [x_p0, delta_p1] w K = B98 x_p0 delta_p1 w K := by kernel_rfl
theorem c98 {x_p0 delta_p1 : Value} {w : World} {K : Value → World → Prop} (h : B98 x_p0 delta_p1 w K) : Calls prog 98 #[x_p0, delta_p1] w (Ret K) :=
  denFn_calls Tryz.func98 T98_ok (Eq.mpr (B98_eq x_p0 delta_p1 w K) h)

-- 58 slices.rotateRight[holdfast/tree.entry]
def T71 : Ann := (.seq .none (.seq .none .none))
theorem T71_ok : chkFn prog Tryz.f71 T71 = true := by kernel_rfl
def B71 (s_p0 f_p1 : Value) (w : World) (K : Value → World → Prop) : Prop :=
  Calls prog 114 #[s_p0, f_p1] w (Ret fun t_0 w =>
  pvv prog (binOp .geq 3 t_0 (.int .i64 0)) w fun t_1 w =>
  K t_1 w)
theorem B71_eq (s_p0 f_p1 : Value) (w : World) (K : Value → World → Prop) : denFn prog Tryz.f71 T71 [s_p0, f_p1] w K = B71 s_p0 f_p1 w K := by kernel_rfl
theorem c71 {s_p0 f_p1 : Value} {w : World} {K : Value → World → Prop} (h : B71 s_p0 f_p1 w K) : Calls prog 71 #[s_p0, f_p1] w (Ret K) :=
  denFn_calls Tryz.func71 T71_ok (Eq.mpr (B71_eq s_p0 f_p1 w K) h)

-- 76 slices.Sorted[int]
def T76 : Ann := (.seq .none (.seq .none (.seq .none (.seq .none .none))))
theorem T76_ok : chkFn prog Tryz.f76 T76 = true := by kernel_rfl
def B76 (seq_p0 : Value) (w : World) (K : Value → World → Prop) : Prop :=
  Calls prog 116 #[seq_p0] w (Ret fun t_0 w =>
  Calls prog 29 #[t_0] w (Ret fun t_1 w =>
  K t_0 w))
theorem B76_eq (seq_p0 : Value) (w : World) (K : Value → World → Prop) : denFn prog Tryz.f76 T76 [seq_p0] w K = B76 seq_p0 w K := by kernel_rfl
theorem c76 {seq_p0 : Value} {w : World} {K : Value → World → Prop} (h : B76 seq_p0 w K) : Calls prog 76 #[seq_p0] w (Ret K) :=
  denFn_calls Tryz.func76 T76_ok (Eq.mpr (B76_eq seq_p0 w K) h)

-- 116 slices.Collect[int]
def T116 : Ann := (.seq .none (.seq .none .none))
theorem T116_ok : chkFn prog Tryz.f116 T116 = true := by kernel_rfl
def B116 (seq_p0 : Value) (w : World) (K : Value → World → Prop) : Prop :=
  Calls prog 136 #[(.slice none 0 0), seq_p0] w (Ret fun t_0 w =>
  K t_0 w)
theorem B116_eq (seq_p0 : Value) (w : World) (K : Value → World → Prop) : denFn prog Tryz.f116 T116 [seq_p0] w K = B116 seq_p0 w K := by kernel_rfl
theorem c116 {seq_p0 : Value} {w : World} {K : Value → World → Prop} (h : B116 seq_p0 w K) : Calls prog 116 #[seq_p0] w (Ret K) :=
  denFn_calls Tryz.func116 T116_ok (Eq.mpr (B116_eq seq_p0 w K) h)

-- 135 cmp.isNaN[int]
end Go.Proofs.YtfaeklinhchidaaGreat
