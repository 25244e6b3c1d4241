import Derived.Test.YtcjklbhobmkalaaGreatPI
set_option linter.all false
set_option maxRecDepth 100000
namespace Go.Proofs.YtcjklbhobmkalaaGreat
open Go Hold
-- 7 holdfast/holdfastlaw04.PagerCuts
def T7 : Ann := (.seq .none (.seq .none (.seq .none (.seq (.seq .none (.seq (.seq .none .none) .none)) (.seq (.seq .none (.block (.loop 1267650600228229400946947397632 [11] (.seq (.seq .none (.seq .none .none)) (.meet 1267650600228228838546749788160 [] (.block (.seq .none (.seq (.seq .none (.seq .none (.seq .none (.seq .none (.seq (.draw [.op 0 .pure, .op 1 .load, .op 3 .load, .op 2 .eff, .op 4 .eff, .op 5 .eff]) .none))))) .none))) .none))))) (.seq .none (.seq .none (.seq .none (.seq .none (.seq .none (.seq .none (.seq .none (.seq (.seq .none (.seq (.seq .none .none) .none)) (.seq .none (.seq .none .none)))))))))))))))
theorem T7_ok : chkFn prog Tryz.f7 T7 = true := by kernel_rfl
def B7 (size_p0 l_p1 k_p2 : Value) (w : World) (K : Value → World → Prop) : Prop :=
  pvv prog (convert 5 3 size_p0) w fun t_0 w =>
  pvv prog (binOp .rem 3 t_0 (.int .i64 12)) w fun t_1 w =>
  pvv prog (binOp .add 3 t_1 (.int .i64 2)) w fun t_2 w =>
  Calls prog 9 #[t_2, (.int .i64 4)] w (Ret fun t_3 w =>
  pvv prog (Instr.extract t_3 0) w fun t_4 w =>
  pvv prog (Instr.extract t_3 1) w fun t_5 w =>
  pvv prog (Instr.extract t_3 2) w fun t_6 w =>
  Calls prog 10 #[] w (Ret fun t_7 w =>
  pvv prog (Op.unary .not t_7) w fun t_8 w =>
  gate (some (t_8, false)) (fun K => K t_6 w) w fun t_9 w =>
  gate (some (t_8, false)) (fun K => pvv prog (Op.unary .not t_9) w K) w fun t_10 w =>
  pv prog (oPick t_8 (.bool true) t_10) w fun t_11 w =>
  cd t_11 (
    K (.bool false) w) <|
  lp (fun σ w again_13 => pop σ fun i_12 σ => fin σ <|
    pv prog (oBi .len #[39] 3 #[false] #[l_p1]) w fun t_14 w =>
    pvv prog (binOp .lss 3 i_12 t_14) w fun t_15 w =>
    gate (some (t_15, true)) (fun K => K i_12 w) w fun t_16 w =>
    gate (some (t_15, true)) (fun K => pvv prog (binOp .lss 3 t_16 (.int .i64 60)) w K) w fun t_17 w =>
    pv prog (oPick t_15 t_17 (.bool false)) w fun t_18 w =>
    cd t_18 (
      jn (fun σ w => fin σ <|
        pvv prog (binOp .add 3 i_12 (.int .i64 1)) w fun t_19 w =>
        again_13 [t_19] w) fun k_20 =>
      pvv prog (Instr.indexAt 39 l_p1 i_12) w fun t_21 w =>
      pvv prog (Instr.fieldAt 24 t_21 0) w fun t_22 w =>
      ldv prog (Instr.loadAt 3 t_22) w fun t_23 w =>
      pvv prog (oEq .eql 3 (.tmp 53) (.const (.int .i64 0)) t_23 (.int .i64 0)) w fun t_24 w =>
      gate (some (t_24, false)) (fun K => K l_p1 w) w fun t_25 w =>
      gate (some (t_24, false)) (fun K => K i_12 w) w fun t_26 w =>
      gate (some (t_24, false)) (fun K => pvv prog (Instr.indexAt 39 t_25 t_26) w K) w fun t_27 w =>
      gate (some (t_24, false)) (fun K => pvv prog (Instr.fieldAt 24 t_27 0) w K) w fun t_28 w =>
      gate (some (t_24, false)) (fun K => ldv prog (Instr.loadAt 3 t_28) w K) w fun t_29 w =>
      gate (some (t_24, false)) (fun K => pvv prog (oEq .eql 3 (.tmp 60) (.const (.int .i64 1)) t_29 (.int .i64 1)) w K) w fun t_30 w =>
      pv prog (oPick t_24 (.bool true) t_30) w fun t_31 w =>
      gate (some (t_31, false)) (fun K => K l_p1 w) w fun t_32 w =>
      gate (some (t_31, false)) (fun K => K i_12 w) w fun t_33 w =>
      gate (some (t_31, false)) (fun K => pvv prog (Instr.indexAt 39 t_32 t_33) w K) w fun t_34 w =>
      gate (some (t_31, false)) (fun K => pvv prog (Instr.fieldAt 24 t_34 0) w K) w fun t_35 w =>
      gate (some (t_31, false)) (fun K => ldv prog (Instr.loadAt 3 t_35) w K) w fun t_36 w =>
      gate (some (t_31, false)) (fun K => pvv prog (oEq .eql 3 (.tmp 68) (.const (.int .i64 2)) t_36 (.int .i64 2)) w K) w fun t_37 w =>
      gate (some (t_31, false)) (fun K => K t_37 w) w fun t_38 w =>
      gate (some (t_38, true)) (fun K => K i_12 w) w fun t_39 w =>
      gate (some (t_38, true)) (fun K => pvv prog (binOp .add 3 t_39 (.int .i64 1)) w K) w fun t_40 w =>
      gate (some (t_38, true)) (fun K => K l_p1 w) w fun t_41 w =>
      gate (some (t_38, true)) (fun K => pv prog (oBi .len #[39] 3 #[false] #[t_41]) w K) w fun t_42 w =>
      gate (some (t_38, true)) (fun K => pvv prog (binOp .lss 3 t_40 t_42) w K) w fun t_43 w =>
      gate (some (t_31, false)) (fun K => pv prog (oPick t_38 t_43 (.bool false)) w K) w fun t_44 w =>
      pv prog (oPick t_31 (.bool true) t_44) w fun t_45 w =>
      cd t_45 (
        pvv prog (Instr.indexAt 39 l_p1 i_12) w fun t_46 w =>
        ldv prog (Instr.loadAt 24 t_46) w fun t_47 w =>
        efv prog (Instr.alloc 24 true (.tuple #[])) w fun d_48 w =>
        efu prog (Instr.storeAt 24 d_48 t_47) w fun u_49 w =>
        pvv prog (Instr.fieldAt 24 d_48 0) w fun t_50 w =>
        ldv prog (Instr.loadAt 3 t_50) w fun t_51 w =>
        pvv prog (oEq .eql 3 (.tmp 83) (.const (.int .i64 0)) t_51 (.int .i64 0)) w fun t_52 w =>
        cd t_52 (
          ldv prog (Instr.loadAt 24 d_48) w fun t_53 w =>
          Calls prog 13 #[t_53] w (Ret fun t_54 w =>
          Calls prog 14 #[t_4, t_54] w (Ret fun t_55 w =>
          k_20 [] w))) <|
        pvv prog (Instr.fieldAt 24 d_48 0) w fun t_56 w =>
        ldv prog (Instr.loadAt 3 t_56) w fun t_57 w =>
        pvv prog (oEq .eql 3 (.tmp 90) (.const (.int .i64 1)) t_57 (.int .i64 1)) w fun t_58 w =>
        cd t_58 (
          dr w fun w =>
          bindS (vN (Instr.loadAt 24 d_48)) fun m_60 => ldv prog (Instr.loadAt 24 d_48) w fun t_59 w =>
          bindS (vN (Instr.loadAt 24 d_48)) fun m_62 => ldv prog (Instr.loadAt 24 d_48) w fun t_61 w =>
          Calls prog 13 #[t_59] w (Ret fun t_63 w => stay prog none m_62 t_61 w <| 
          Calls prog 11 #[t_61] w (Ret fun t_64 w => stay prog none m_60 t_59 w <| 
          Calls prog 12 #[t_4, t_63, t_64] w (Ret fun t_65 w => stay prog none m_62 t_61 w <| stay prog none m_60 t_59 w <| 
          k_20 [] w)))) <|
        Calls prog 18 #[t_4] w (Ret fun t_69 w =>
        k_20 [] w)) <|
      k_20 [] w) <|
    Calls prog 17 #[t_4] w (Ret fun t_70 w =>
    Calls prog 16 #[t_70] w (Ret fun t_71 w =>
    Calls prog 17 #[t_4] w (Ret fun t_72 w =>
    Calls prog 23 #[t_72] w (Ret fun t_73 w =>
    Calls prog 26 #[t_73] w (Ret fun t_74 w =>
    Calls prog 18 #[t_4] w (Ret fun t_75 w =>
    Calls prog 17 #[t_4] w (Ret fun t_76 w =>
    Calls prog 16 #[t_76] w (Ret fun t_77 w =>
    Calls prog 17 #[t_4] w (Ret fun t_78 w =>
    Calls prog 23 #[t_78] w (Ret fun t_79 w =>
    pvv prog (convert 53 3 k_p2) w fun t_80 w =>
    Calls prog 26 #[t_79] w (Ret fun t_81 w =>
    pvv prog (binOp .sub 3 t_81 t_74) w fun t_82 w =>
    pvv prog (binOp .add 3 t_82 (.int .i64 1)) w fun t_83 w =>
    pvv prog (binOp .rem 3 t_80 t_83) w fun t_84 w =>
    pvv prog (binOp .add 3 t_74 t_84) w fun t_85 w =>
    Calls prog 27 #[t_79, t_85] w (Ret fun t_86 w =>
    pvv prog (Instr.extract t_86 0) w fun t_87 w =>
    pvv prog (Instr.extract t_86 1) w fun t_88 w =>
    Calls prog 28 #[t_87, t_2] w (Ret fun t_89 w =>
    pvv prog (Instr.extract t_89 0) w fun t_90 w =>
    pvv prog (Instr.extract t_89 1) w fun t_91 w =>
    pvv prog (oEq .neq 32 (.tmp 136) (.const (.int .i64 0)) t_88 (.int .i64 0)) w fun t_92 w =>
    gate (some (t_92, false)) (fun K => K t_91 w) w fun t_93 w =>
    gate (some (t_92, false)) (fun K => pvv prog (oEq .neq 32 (.tmp 139) (.const (.int .i64 0)) t_93 (.int .i64 0)) w K) w fun t_94 w =>
    pv prog (oPick t_92 (.bool true) t_94) w fun t_95 w =>
    cd t_95 (
      K (.bool false) w) <|
    Calls prog 16 #[t_90] w (Ret fun t_96 w =>
    pvv prog (oEq .eql 32 (.tmp 144) (.const (.int .i64 0)) t_75 (.int .i64 0)) w fun t_97 w =>
    gate (some (t_97, false)) (fun K => K t_71 w) w fun t_98 w =>
    gate (some (t_97, false)) (fun K => K t_77 w) w fun t_99 w =>
    gate (some (t_97, false)) (fun K => Calls prog 22 #[t_98, t_99] w (Ret K)) w fun t_100 w =>
    pv prog (oPick t_97 (.bool true) t_100) w fun t_101 w =>
    gate (some (t_101, true)) (fun K => K t_96 w) w fun t_102 w =>
    gate (some (t_101, true)) (fun K => K t_71 w) w fun t_103 w =>
    gate (some (t_101, true)) (fun K => Calls prog 22 #[t_102, t_103] w (Ret K)) w fun t_104 w =>
    gate (some (t_101, true)) (fun K => K t_104 w) w fun t_105 w =>
    gate (some (t_105, false)) (fun K => K t_96 w) w fun t_106 w =>
    gate (some (t_105, false)) (fun K => K t_77 w) w fun t_107 w =>
    gate (some (t_105, false)) (fun K => Calls prog 22 #[t_106, t_107] w (Ret K)) w fun t_108 w =>
    gate (some (t_101, true)) (fun K => pv prog (oPick t_105 (.bool true) t_108) w K) w fun t_109 w =>
    pv prog (oPick t_101 t_109 (.bool false)) w fun t_110 w =>
    K t_110 w))))))))))))))) [(.int .i64 0)] w))
theorem B7_eq (size_p0 l_p1 k_p2 : Value) (w : World) (K : Value → World → Prop) : denFn prog Tryz.f7 T7 [size_p0, l_p1, k_p2] w K = B7 size_p0 l_p1 k_p2 w K := by kernel_rfl
theorem c7 {size_p0 l_p1 k_p2 : Value} {w : World} {K : Value → World → Prop} (h : B7 size_p0 l_p1 k_p2 w K) : Calls prog 7 #[size_p0, l_p1, k_p2] w (Ret K) :=
  denFn_calls Tryz.func7 T7_ok (Eq.mpr (B7_eq size_p0 l_p1 k_p2 w K) h)

-- 5 holdfast/holdfastlaw04.PagerSame
def T5 : Ann := (.seq .none (.seq .none (.seq .none (.seq (.seq .none (.seq (.seq .none .none) .none)) (.seq (.seq .none (.block (.loop 356811923176489970264571492362303415351763008 [13] (.seq (.seq .none (.seq .none .none)) (.seq (.block (.meet 1361129467683753853853426372133035163712 [] (.seq .none (.block (.seq .none (.seq (.seq .none (.seq .none (.seq .none (.seq (.seq .none .none) .none)))) (.seq .none (.seq (.seq (.draw [.op 0 .pure, .op 1 .pure, .op 2 .pure, .op 3 .pure, .op 6 .pure, .op 7 .pure, .op 8 .pure, .op 4 .load, .op 9 .load, .op 5 .eff, .op 10 .eff, .op 11 .eff]) (.draw [.op 0 .pure, .op 1 .pure, .op 2 .pure, .op 3 .pure, .op 6 .pure, .op 7 .pure, .op 8 .pure, .op 4 .load, .op 9 .load, .op 5 .eff, .op 10 .eff, .op 11 .eff])) (.seq .none (.seq (.seq .none .none) (.seq .none (.seq (.seq .none .none) .none)))))))))) (.seq .none (.seq (.seq .none .none) .none)))) .none))))) (.seq .none .none))))))
theorem T5_ok : chkFn prog Tryz.f5 T5 = true := by kernel_rfl
def B5 (a_p0 b_p1 l_p2 : Value) (w : World) (K : Value → World → Prop) : Prop :=
  pvv prog (convert 5 3 a_p0) w fun t_0 w =>
  pvv prog (binOp .rem 3 t_0 (.int .i64 64)) w fun t_1 w =>
  pvv prog (binOp .add 3 t_1 (.int .i64 1)) w fun t_2 w =>
  Calls prog 9 #[(.int .i64 6), t_2] w (Ret fun t_3 w =>
  pvv prog (Instr.extract t_3 0) w fun t_4 w =>
  pvv prog (Instr.extract t_3 1) w fun t_5 w =>
  pvv prog (Instr.extract t_3 2) w fun t_6 w =>
  pvv prog (convert 5 3 b_p1) w fun t_7 w =>
  pvv prog (binOp .rem 3 t_7 (.int .i64 64)) w fun t_8 w =>
  pvv prog (binOp .add 3 t_8 (.int .i64 1)) w fun t_9 w =>
  Calls prog 9 #[(.int .i64 6), t_9] w (Ret fun t_10 w =>
  pvv prog (Instr.extract t_10 0) w fun t_11 w =>
  pvv prog (Instr.extract t_10 1) w fun t_12 w =>
  pvv prog (Instr.extract t_10 2) w fun t_13 w =>
  Calls prog 10 #[] w (Ret fun t_14 w =>
  pvv prog (Op.unary .not t_14) w fun t_15 w =>
  gate (some (t_15, false)) (fun K => K t_6 w) w fun t_16 w =>
  gate (some (t_15, false)) (fun K => pvv prog (Op.unary .not t_16) w K) w fun t_17 w =>
  pv prog (oPick t_15 (.bool true) t_17) w fun t_18 w =>
  gate (some (t_18, false)) (fun K => K t_13 w) w fun t_19 w =>
  gate (some (t_18, false)) (fun K => pvv prog (Op.unary .not t_19) w K) w fun t_20 w =>
  pv prog (oPick t_18 (.bool true) t_20) w fun t_21 w =>
  cd t_21 (
    K (.bool false) w) <|
  lp (fun σ w again_23 => pop σ fun i_22 σ => fin σ <|
    pv prog (oBi .len #[39] 3 #[false] #[l_p2]) w fun t_24 w =>
    pvv prog (binOp .lss 3 i_22 t_24) w fun t_25 w =>
    gate (some (t_25, true)) (fun K => K i_22 w) w fun t_26 w =>
    gate (some (t_25, true)) (fun K => pvv prog (binOp .lss 3 t_26 (.int .i64 60)) w K) w fun t_27 w =>
    pv prog (oPick t_25 t_27 (.bool false)) w fun t_28 w =>
    cd t_28 (
      jn (fun σ w => fin σ <|
        Calls prog 21 #[t_4] w (Ret fun t_29 w =>
        pv prog (oBi .len #[22] 3 #[false] #[t_29]) w fun t_30 w =>
        pvv prog (convert 5 3 a_p0) w fun t_31 w =>
        pvv prog (binOp .rem 3 t_31 (.int .i64 64)) w fun t_32 w =>
        pvv prog (binOp .add 3 t_32 (.int .i64 1)) w fun t_33 w =>
        pvv prog (binOp .gtr 3 t_30 t_33) w fun t_34 w =>
        gate (some (t_34, false)) (fun K => K t_11 w) w fun t_35 w =>
        gate (some (t_34, false)) (fun K => Calls prog 21 #[t_35] w (Ret K)) w fun t_36 w =>
        gate (some (t_34, false)) (fun K => pv prog (oBi .len #[22] 3 #[false] #[t_36]) w K) w fun t_37 w =>
        gate (some (t_34, false)) (fun K => K b_p1 w) w fun t_38 w =>
        gate (some (t_34, false)) (fun K => pvv prog (convert 5 3 t_38) w K) w fun t_39 w =>
        gate (some (t_34, false)) (fun K => pvv prog (binOp .rem 3 t_39 (.int .i64 64)) w K) w fun t_40 w =>
        gate (some (t_34, false)) (fun K => pvv prog (binOp .add 3 t_40 (.int .i64 1)) w K) w fun t_41 w =>
        gate (some (t_34, false)) (fun K => pvv prog (binOp .gtr 3 t_37 t_41) w K) w fun t_42 w =>
        pv prog (oPick t_34 (.bool true) t_42) w fun t_43 w =>
        cd t_43 (
          K (.bool false) w) <|
        pvv prog (binOp .add 3 i_22 (.int .i64 1)) w fun t_44 w =>
        again_23 [t_44] w)) fun k_45 =>
      pvv prog (Instr.indexAt 39 l_p2 i_22) w fun t_46 w =>
      pvv prog (Instr.fieldAt 24 t_46 0) w fun t_47 w =>
      ldv prog (Instr.loadAt 3 t_47) w fun t_48 w =>
      pvv prog (oEq .eql 3 (.tmp 60) (.const (.int .i64 0)) t_48 (.int .i64 0)) w fun t_49 w =>
      cd t_49 (
        pvv prog (Instr.indexAt 39 l_p2 i_22) w fun t_50 w =>
        ldv prog (Instr.loadAt 24 t_50) w fun t_51 w =>
        Calls prog 13 #[t_51] w (Ret fun t_52 w =>
        Calls prog 14 #[t_4, t_52] w (Ret fun t_53 w =>
        pvv prog (Instr.extract t_53 0) w fun t_54 w =>
        pvv prog (Instr.extract t_53 1) w fun t_55 w =>
        pvv prog (Instr.indexAt 39 l_p2 i_22) w fun t_56 w =>
        ldv prog (Instr.loadAt 24 t_56) w fun t_57 w =>
        Calls prog 13 #[t_57] w (Ret fun t_58 w =>
        Calls prog 14 #[t_11, t_58] w (Ret fun t_59 w =>
        pvv prog (Instr.extract t_59 0) w fun t_60 w =>
        pvv prog (Instr.extract t_59 1) w fun t_61 w =>
        pvv prog (oEq .neq 32 (.tmp 83) (.tmp 84) t_55 t_61) w fun t_62 w =>
        gate (some (t_62, false)) (fun K => K t_54 w) w fun t_63 w =>
        gate (some (t_62, false)) (fun K => K t_60 w) w fun t_64 w =>
        gate (some (t_62, false)) (fun K => Calls prog 15 #[t_63, t_64] w (Ret K)) w fun t_65 w =>
        gate (some (t_62, false)) (fun K => pvv prog (Op.unary .not t_65) w K) w fun t_66 w =>
        pv prog (oPick t_62 (.bool true) t_66) w fun t_67 w =>
        cd t_67 (
          K (.bool false) w) <|
        k_45 [] w))))) <|
      pvv prog (oEq .eql 3 (.tmp 60) (.const (.int .i64 1)) t_48 (.int .i64 1)) w fun t_68 w =>
      cd t_68 (
        dr w fun w =>
        pvv prog (Instr.indexAt 39 l_p2 i_22) w fun t_69 w =>
        pvv prog (Instr.indexAt 39 l_p2 i_22) w fun t_70 w =>
        bindS (vN (Instr.loadAt 24 t_69)) fun m_72 => ldv prog (Instr.loadAt 24 t_69) w fun t_71 w =>
        bindS (vN (Instr.loadAt 24 t_70)) fun m_74 => ldv prog (Instr.loadAt 24 t_70) w fun t_73 w =>
        Calls prog 13 #[t_71] w (Ret fun t_75 w => stay prog none m_74 t_73 w <| 
        Calls prog 11 #[t_73] w (Ret fun t_76 w => stay prog none m_72 t_71 w <| 
        Calls prog 12 #[t_4, t_75, t_76] w (Ret fun t_77 w => stay prog none m_74 t_73 w <| stay prog none m_72 t_71 w <| 
        dr w fun w =>
        pvv prog (Instr.indexAt 39 l_p2 i_22) w fun t_78 w =>
        pvv prog (Instr.indexAt 39 l_p2 i_22) w fun t_79 w =>
        bindS (vN (Instr.loadAt 24 t_78)) fun m_81 => ldv prog (Instr.loadAt 24 t_78) w fun t_80 w =>
        bindS (vN (Instr.loadAt 24 t_79)) fun m_83 => ldv prog (Instr.loadAt 24 t_79) w fun t_82 w =>
        Calls prog 13 #[t_80] w (Ret fun t_84 w => stay prog none m_83 t_82 w <| 
        Calls prog 11 #[t_82] w (Ret fun t_85 w => stay prog none m_81 t_80 w <| 
        Calls prog 12 #[t_11, t_84, t_85] w (Ret fun t_86 w => stay prog none m_83 t_82 w <| stay prog none m_81 t_80 w <| 
        k_45 [] w))))))) <|
      pvv prog (oEq .eql 3 (.tmp 60) (.const (.int .i64 2)) t_48 (.int .i64 2)) w fun t_93 w =>
      cd t_93 (
        Calls prog 18 #[t_4] w (Ret fun t_94 w =>
        Calls prog 18 #[t_11] w (Ret fun t_95 w =>
        k_45 [] w))) <|
      pvv prog (oEq .eql 3 (.tmp 60) (.const (.int .i64 3)) t_48 (.int .i64 3)) w fun t_96 w =>
      cd t_96 (
        Calls prog 20 #[t_4] w (Ret fun t_97 w =>
        Calls prog 20 #[t_11] w (Ret fun t_98 w =>
        k_45 [] w))) <|
      k_45 [] w) <|
    Calls prog 17 #[t_4] w (Ret fun t_99 w =>
    Calls prog 23 #[t_99] w (Ret fun t_100 w =>
    Calls prog 24 #[t_100] w (Ret fun t_101 w =>
    Calls prog 17 #[t_11] w (Ret fun t_102 w =>
    Calls prog 23 #[t_102] w (Ret fun t_103 w =>
    Calls prog 24 #[t_103] w (Ret fun t_104 w =>
    Calls prog 22 #[t_101, t_104] w (Ret fun t_105 w =>
    K t_105 w)))))))) [(.int .i64 0)] w)))
theorem B5_eq (a_p0 b_p1 l_p2 : Value) (w : World) (K : Value → World → Prop) : denFn prog Tryz.f5 T5 [a_p0, b_p1, l_p2] w K = B5 a_p0 b_p1 l_p2 w K := by kernel_rfl
theorem c5 {a_p0 b_p1 l_p2 : Value} {w : World} {K : Value → World → Prop} (h : B5 a_p0 b_p1 l_p2 w K) : Calls prog 5 #[a_p0, b_p1, l_p2] w (Ret K) :=
  denFn_calls Tryz.func5 T5_ok (Eq.mpr (B5_eq a_p0 b_p1 l_p2 w K) h)

-- 115 slices.partitionEqualOrdered[int]
def T115 : Ann := (.seq .none (.seq (.draw [.op 0 .pure, .op 1 .pure, .op 2 .pure, .op 3 .pure, .op 4 .pure, .op 5 .pure, .op 6 .pure, .op 8 .pure, .op 9 .pure, .op 10 .pure, .op 7 .load, .op 11 .load, .op 12 .pure, .op 13 .eff, .op 14 .pure, .op 15 .eff]) (.seq .none (.seq (.block (.loop 9671406556917032860780032 [9, 10] (.block (.seq (.block (.loop 70368207307264 [9] (.seq (.seq (.draw [.op 0 .pure, .op 1 .pure, .op 2 .pure, .op 3 .pure, .op 4 .pure, .op 5 .pure, .op 6 .pure, .op 8 .pure, .op 9 .pure, .op 10 .pure, .op 7 .load, .op 11 .load, .op 12 .eff, .op 13 .pure, .op 14 .pure]) (.seq .none .none)) (.block .none)))) (.seq (.block (.loop 4611615649683211264 [10] (.seq (.seq (.draw [.op 0 .pure, .op 1 .pure, .op 2 .pure, .op 3 .pure, .op 4 .pure, .op 5 .pure, .op 6 .pure, .op 8 .pure, .op 9 .pure, .op 10 .pure, .op 7 .load, .op 11 .load, .op 12 .eff, .op 13 .pure]) (.seq .none .none)) (.block .none)))) (.seq (.seq .none (.seq .none .none)) (.seq (.draw [.op 0 .pure, .op 1 .pure, .op 2 .pure, .op 3 .pure, .op 4 .pure, .op 5 .pure, .op 6 .pure, .op 8 .pure, .op 9 .pure, .op 10 .pure, .op 7 .load, .op 11 .load, .op 12 .pure, .op 13 .eff, .op 14 .pure, .op 15 .eff]) (.seq .none .none)))))))) (.seq .none .none)))))
theorem T115_ok : chkFn prog Tryz.f115 T115 = true := by kernel_rfl
def B115 (data_p0 a_p1 b_p2 pivot_p3 : Value) (w : World) (K : Value → World → Prop) : Prop :=
  dr w fun w =>
  pvv prog (Instr.indexAt 22 data_p0 pivot_p3) w fun t_0 w =>
  pvv prog (Instr.indexAt 22 data_p0 a_p1) w fun t_1 w =>
  bindS (vN (Instr.loadAt 3 t_0)) fun m_3 => ldv prog (Instr.loadAt 3 t_0) w fun t_2 w =>
  bindS (vN (Instr.loadAt 3 t_1)) fun m_5 => ldv prog (Instr.loadAt 3 t_1) w fun t_4 w =>
  pvv prog (Instr.indexAt 22 data_p0 a_p1) w fun t_6 w =>
  efu prog (Instr.storeAt 3 t_6 t_2) w fun u_7 w =>
  pvv prog (Instr.indexAt 22 data_p0 pivot_p3) w fun t_8 w =>
  efu prog (Instr.storeAt 3 t_8 t_4) w fun u_9 w =>
  pvv prog (binOp .add 3 a_p1 (.int .i64 1)) w fun t_10 w =>
  pvv prog (binOp .sub 3 b_p2 (.int .i64 1)) w fun t_11 w =>
  lp (fun σ w again_14 => pop σ fun i_12 σ => pop σ fun j_13 σ => fin σ <|
    lp (fun σ w again_16 => pop σ fun i_15 σ => fin σ <|
      dr w fun w =>
      pvv prog (binOp .leq 3 i_15 j_13) w fun t_17 w =>
      gate (some (t_17, true)) (fun K => K data_p0 w) w fun t_18 w =>
      gate (some (t_17, true)) (fun K => K a_p1 w) w fun t_19 w =>
      gate (some (t_17, true)) (fun K => pvv prog (Instr.indexAt 22 t_18 t_19) w K) w fun t_20 w =>
      gate (some (t_17, true)) (fun K => K data_p0 w) w fun t_21 w =>
      gate (some (t_17, true)) (fun K => K i_15 w) w fun t_22 w =>
      gate (some (t_17, true)) (fun K => pvv prog (Instr.indexAt 22 t_21 t_22) w K) w fun t_23 w =>
      bindS (vN (Instr.loadAt 3 t_20)) fun m_25 => gate (some (t_17, true)) (fun K => ldv prog (Instr.loadAt 3 t_20) w K) w fun t_24 w =>
      bindS (vN (Instr.loadAt 3 t_23)) fun m_27 => gate (some (t_17, true)) (fun K => ldv prog (Instr.loadAt 3 t_23) w K) w fun t_26 w =>
      gate (some (t_17, true)) (fun K => Calls prog 114 #[t_24, t_26] w (Ret fun s_64 w => K s_64 w)) w fun t_28 w =>
      gate (some (t_17, true)) (fun K => pvv prog (Op.unary .not t_28) w K) w fun t_29 w =>
      pv prog (oPick t_17 t_29 (.bool false)) w fun t_30 w =>
      cd t_30 (
        pvv prog (binOp .add 3 i_15 (.int .i64 1)) w fun t_31 w =>
        again_16 [t_31] w) <|
      lp (fun σ w again_33 => pop σ fun j_32 σ => fin σ <|
        dr w fun w =>
        pvv prog (binOp .leq 3 i_15 j_32) w fun t_34 w =>
        gate (some (t_34, true)) (fun K => K data_p0 w) w fun t_35 w =>
        gate (some (t_34, true)) (fun K => K a_p1 w) w fun t_36 w =>
        gate (some (t_34, true)) (fun K => pvv prog (Instr.indexAt 22 t_35 t_36) w K) w fun t_37 w =>
        gate (some (t_34, true)) (fun K => K data_p0 w) w fun t_38 w =>
        gate (some (t_34, true)) (fun K => K j_32 w) w fun t_39 w =>
        gate (some (t_34, true)) (fun K => pvv prog (Instr.indexAt 22 t_38 t_39) w K) w fun t_40 w =>
        bindS (vN (Instr.loadAt 3 t_37)) fun m_42 => gate (some (t_34, true)) (fun K => ldv prog (Instr.loadAt 3 t_37) w K) w fun t_41 w =>
        bindS (vN (Instr.loadAt 3 t_40)) fun m_44 => gate (some (t_34, true)) (fun K => ldv prog (Instr.loadAt 3 t_40) w K) w fun t_43 w =>
        gate (some (t_34, true)) (fun K => Calls prog 114 #[t_41, t_43] w (Ret fun s_63 w => K s_63 w)) w fun t_45 w =>
        pv prog (oPick t_34 t_45 (.bool false)) w fun t_46 w =>
        cd t_46 (
          pvv prog (binOp .sub 3 j_32 (.int .i64 1)) w fun t_47 w =>
          again_33 [t_47] w) <|
        pvv prog (binOp .gtr 3 i_15 j_32) w fun t_48 w =>
        cd t_48 (
          K i_15 w) <|
        dr w fun w =>
        pvv prog (Instr.indexAt 22 data_p0 j_32) w fun t_49 w =>
        pvv prog (Instr.indexAt 22 data_p0 i_15) w fun t_50 w =>
        bindS (vN (Instr.loadAt 3 t_49)) fun m_52 => ldv prog (Instr.loadAt 3 t_49) w fun t_51 w =>
        bindS (vN (Instr.loadAt 3 t_50)) fun m_54 => ldv prog (Instr.loadAt 3 t_50) w fun t_53 w =>
        pvv prog (Instr.indexAt 22 data_p0 i_15) w fun t_55 w =>
        efu prog (Instr.storeAt 3 t_55 t_51) w fun u_56 w =>
        pvv prog (Instr.indexAt 22 data_p0 j_32) w fun t_57 w =>
        efu prog (Instr.storeAt 3 t_57 t_53) w fun u_58 w =>
        pvv prog (binOp .add 3 i_15 (.int .i64 1)) w fun t_59 w =>
        pvv prog (binOp .sub 3 j_32 (.int .i64 1)) w fun t_60 w =>
        again_14 [t_59, t_60] w) [j_13] w) [i_12] w) [t_10, t_11] w
theorem B115_eq (data_p0 a_p1 b_p2 pivot_p3 : Value) (w : World) (K : Value → World → Prop) : denFn prog Tryz.f115 T115 [data_p0, a_p1, b_p2, pivot_p3] w K = B115 data_p0 a_p1 b_p2 pivot_p3 w K := by kernel_rfl
theorem c115 {data_p0 a_p1 b_p2 pivot_p3 : Value} {w : World} {K : Value → World → Prop} (h : B115 data_p0 a_p1 b_p2 pivot_p3 w K) : Calls prog 115 #[data_p0, a_p1, b_p2, pivot_p3] w (Ret K) :=
  denFn_calls Tryz.func115 T115_ok (Eq.mpr (B115_eq data_p0 a_p1 b_p2 pivot_p3 w K) h)

-- 3 holdfast/holdfastlaw04.PagerOwn
def T3 : Ann := (.seq .none (.seq .none (.seq (.seq .none (.seq (.seq .none .none) .none)) (.seq .none (.seq .none (.seq (.seq .none (.block (.loop 2194728288512 [8] (.seq (.seq .none (.seq .none .none)) (.seq (.block .none) .none))))) (.seq .none (.seq (.seq .none (.seq (.seq .none .none) .none)) (.seq (.seq .none (.seq (.seq .none .none) .none)) (.seq (.seq .none (.block (.loop 37705144886662323505152 [11] (.seq (.seq .none (.seq .none .none)) (.seq (.block .none) .none))))) (.seq .none (.seq .none .none))))))))))))
theorem T3_ok : chkFn prog Tryz.f3 T3 = true := by kernel_rfl
def B3 (x_p0 : Value) (w : World) (K : Value → World → Prop) : Prop :=
  efv prog (Instr.box 24 x_p0) w fun x_0 w =>
  Calls prog 9 #[(.int .i64 10), (.int .i64 4)] w (Ret fun t_1 w =>
  pvv prog (Instr.extract t_1 0) w fun t_2 w =>
  pvv prog (Instr.extract t_1 1) w fun t_3 w =>
  pvv prog (Instr.extract t_1 2) w fun t_4 w =>
  Calls prog 10 #[] w (Ret fun t_5 w =>
  pvv prog (Op.unary .not t_5) w fun t_6 w =>
  gate (some (t_6, false)) (fun K => K t_4 w) w fun t_7 w =>
  gate (some (t_6, false)) (fun K => pvv prog (Op.unary .not t_7) w K) w fun t_8 w =>
  pv prog (oPick t_6 (.bool true) t_8) w fun t_9 w =>
  cd t_9 (
    K (.bool false) w) <|
  ldv prog (Instr.loadAt 24 x_0) w fun t_10 w =>
  Calls prog 11 #[t_10] w (Ret fun t_11 w =>
  ldv prog (Instr.loadAt 24 x_0) w fun t_12 w =>
  Calls prog 13 #[t_12] w (Ret fun t_13 w =>
  Calls prog 12 #[t_2, t_13, t_11] w (Ret fun t_14 w =>
  lp (fun σ w again_16 => pop σ fun i_15 σ => fin σ <|
    pv prog (oBi .len #[30] 3 #[false] #[t_11]) w fun t_17 w =>
    pvv prog (binOp .lss 3 i_15 t_17) w fun t_18 w =>
    cd t_18 (
      pvv prog (Instr.indexAt 30 t_11 i_15) w fun t_19 w =>
      efu prog (Instr.storeAt 5 t_19 (.int .u8 77)) w fun u_20 w =>
      pvv prog (binOp .add 3 i_15 (.int .i64 1)) w fun t_21 w =>
      again_16 [t_21] w) <|
    ldv prog (Instr.loadAt 24 x_0) w fun t_22 w =>
    Calls prog 13 #[t_22] w (Ret fun t_23 w =>
    Calls prog 14 #[t_2, t_23] w (Ret fun t_24 w =>
    pvv prog (Instr.extract t_24 0) w fun t_25 w =>
    pvv prog (Instr.extract t_24 1) w fun t_26 w =>
    pvv prog (oEq .neq 32 (.tmp 48) (.const (.int .i64 0)) t_14 (.int .i64 0)) w fun t_27 w =>
    cd t_27 (
      pvv prog (oEq .neq 32 (.tmp 50) (.const (.int .i64 0)) t_26 (.int .i64 0)) w fun t_28 w =>
      gate (some (t_28, false)) (fun K => K t_25 w) w fun t_29 w =>
      gate (some (t_28, false)) (fun K => efv prog (Instr.makeSlice 30 (.int .i64 256) (.int .i64 256)) w K) w fun t_30 w =>
      gate (some (t_28, false)) (fun K => Calls prog 15 #[t_29, t_30] w (Ret K)) w fun t_31 w =>
      pv prog (oPick t_28 (.bool true) t_31) w fun t_32 w =>
      K t_32 w) <|
    pvv prog (oEq .neq 32 (.tmp 57) (.const (.int .i64 0)) t_26 (.int .i64 0)) w fun t_33 w =>
    gate (some (t_33, false)) (fun K => K t_25 w) w fun t_34 w =>
    gate (some (t_33, false)) (fun K => ldv prog (Instr.loadAt 24 x_0) w K) w fun t_35 w =>
    gate (some (t_33, false)) (fun K => Calls prog 11 #[t_35] w (Ret K)) w fun t_36 w =>
    gate (some (t_33, false)) (fun K => Calls prog 15 #[t_34, t_36] w (Ret K)) w fun t_37 w =>
    gate (some (t_33, false)) (fun K => pvv prog (Op.unary .not t_37) w K) w fun t_38 w =>
    pv prog (oPick t_33 (.bool true) t_38) w fun t_39 w =>
    cd t_39 (
      K (.bool false) w) <|
    lp (fun σ w again_41 => pop σ fun i_40 σ => fin σ <|
      pv prog (oBi .len #[30] 3 #[false] #[t_25]) w fun t_42 w =>
      pvv prog (binOp .lss 3 i_40 t_42) w fun t_43 w =>
      cd t_43 (
        pvv prog (Instr.indexAt 30 t_25 i_40) w fun t_44 w =>
        efu prog (Instr.storeAt 5 t_44 (.int .u8 78)) w fun u_45 w =>
        pvv prog (binOp .add 3 i_40 (.int .i64 1)) w fun t_46 w =>
        again_41 [t_46] w) <|
      ldv prog (Instr.loadAt 24 x_0) w fun t_47 w =>
      Calls prog 13 #[t_47] w (Ret fun t_48 w =>
      Calls prog 14 #[t_2, t_48] w (Ret fun t_49 w =>
      pvv prog (Instr.extract t_49 0) w fun t_50 w =>
      pvv prog (Instr.extract t_49 1) w fun t_51 w =>
      pvv prog (oEq .eql 32 (.tmp 82) (.const (.int .i64 0)) t_51 (.int .i64 0)) w fun t_52 w =>
      gate (some (t_52, true)) (fun K => K t_50 w) w fun t_53 w =>
      gate (some (t_52, true)) (fun K => ldv prog (Instr.loadAt 24 x_0) w K) w fun t_54 w =>
      gate (some (t_52, true)) (fun K => Calls prog 11 #[t_54] w (Ret K)) w fun t_55 w =>
      gate (some (t_52, true)) (fun K => Calls prog 15 #[t_53, t_55] w (Ret K)) w fun t_56 w =>
      pv prog (oPick t_52 t_56 (.bool false)) w fun t_57 w =>
      K t_57 w))) [(.int .i64 0)] w))) [(.int .i64 0)] w)))))
theorem B3_eq (x_p0 : Value) (w : World) (K : Value → World → Prop) : denFn prog Tryz.f3 T3 [x_p0] w K = B3 x_p0 w K := by kernel_rfl
theorem c3 {x_p0 : Value} {w : World} {K : Value → World → Prop} (h : B3 x_p0 w K) : Calls prog 3 #[x_p0] w (Ret K) :=
  denFn_calls Tryz.func3 T3_ok (Eq.mpr (B3_eq x_p0 w K) h)

-- 66 (*holdfast/holdfastref03.Log).group
def T66 : Ann := (.seq .none (.seq .none (.seq .none (.seq (.seq .none (.seq (.seq .none .none) .none)) (.seq .none (.seq (.seq .none (.block (.loop 1180591620167655496896 [10, 11] (.seq (.seq .none (.seq .none .none)) (.seq (.block (.seq .none (.seq (.seq .none (.seq (.seq .none .none) .none)) .none))) .none))))) (.seq .none .none)))))))
theorem T66_ok : chkFn prog Tryz.f66 T66 = true := by kernel_rfl
def B66 (l_p0 n_p1 end_p2 : Value) (w : World) (K : Value → World → Prop) : Prop :=
  Calls prog 63 #[l_p0, n_p1] w (Ret fun t_0 w =>
  Calls prog 65 #[t_0, (.int .i64 0)] w (Ret fun t_1 w =>
  pvv prog (binOp .lss 3 t_1 (.int .i64 1)) w fun t_2 w =>
  gate (some (t_2, false)) (fun K => K t_1 w) w fun t_3 w =>
  gate (some (t_2, false)) (fun K => pvv prog (binOp .gtr 3 t_3 (.int .i64 100)) w K) w fun t_4 w =>
  pv prog (oPick t_2 (.bool true) t_4) w fun t_5 w =>
  gate (some (t_5, false)) (fun K => K n_p1 w) w fun t_6 w =>
  gate (some (t_5, false)) (fun K => K t_1 w) w fun t_7 w =>
  gate (some (t_5, false)) (fun K => pvv prog (binOp .add 3 t_6 t_7) w K) w fun t_8 w =>
  gate (some (t_5, false)) (fun K => K end_p2 w) w fun t_9 w =>
  gate (some (t_5, false)) (fun K => pvv prog (binOp .gtr 3 t_8 t_9) w K) w fun t_10 w =>
  pv prog (oPick t_5 (.bool true) t_10) w fun t_11 w =>
  gate (some (t_11, false)) (fun K => K t_0 w) w fun t_12 w =>
  gate (some (t_11, false)) (fun K => K t_1 w) w fun t_13 w =>
  gate (some (t_11, false)) (fun K => pvv prog (binOp .mul 3 (.int .i64 2) t_13) w K) w fun t_14 w =>
  gate (some (t_11, false)) (fun K => pvv prog (binOp .add 3 (.int .i64 2) t_14) w K) w fun t_15 w =>
  gate (some (t_11, false)) (fun K => Calls prog 64 #[t_12, t_15] w (Ret K)) w fun t_16 w =>
  gate (some (t_11, false)) (fun K => pvv prog (Op.unary .not t_16) w K) w fun t_17 w =>
  pv prog (oPick t_11 (.bool true) t_17) w fun t_18 w =>
  cd t_18 (
    K (.tuple #[(.slice none 0 0), (.bool false)]) w) <|
  lp (fun σ w again_21 => pop σ fun out_19 σ => pop σ fun i_20 σ => fin σ <|
    pvv prog (binOp .lss 3 i_20 t_1) w fun t_22 w =>
    cd t_22 (
      pvv prog (binOp .mul 3 (.int .i64 2) i_20) w fun t_23 w =>
      pvv prog (binOp .add 3 (.int .i64 2) t_23) w fun t_24 w =>
      Calls prog 65 #[t_0, t_24] w (Ret fun t_25 w =>
      Calls prog 96 #[l_p0] w (Ret fun t_26 w =>
      pvv prog (binOp .geq 3 t_25 t_26) w fun t_27 w =>
      gate (some (t_27, false)) (fun K => K i_20 w) w fun t_28 w =>
      gate (some (t_27, false)) (fun K => pvv prog (binOp .gtr 3 t_28 (.int .i64 0)) w K) w fun t_29 w =>
      gate (some (t_27, false)) (fun K => K t_29 w) w fun t_30 w =>
      gate (some (t_30, true)) (fun K => K t_25 w) w fun t_31 w =>
      gate (some (t_30, true)) (fun K => K out_19 w) w fun t_32 w =>
      gate (some (t_30, true)) (fun K => K i_20 w) w fun t_33 w =>
      gate (some (t_30, true)) (fun K => pvv prog (binOp .sub 3 t_33 (.int .i64 1)) w K) w fun t_34 w =>
      gate (some (t_30, true)) (fun K => pvv prog (Instr.indexAt 22 t_32 t_34) w K) w fun t_35 w =>
      gate (some (t_30, true)) (fun K => ldv prog (Instr.loadAt 3 t_35) w K) w fun t_36 w =>
      gate (some (t_30, true)) (fun K => pvv prog (binOp .leq 3 t_31 t_36) w K) w fun t_37 w =>
      gate (some (t_27, false)) (fun K => pv prog (oPick t_30 t_37 (.bool false)) w K) w fun t_38 w =>
      pv prog (oPick t_27 (.bool true) t_38) w fun t_39 w =>
      cd t_39 (
        K (.tuple #[(.slice none 0 0), (.bool false)]) w) <|
      efv prog (Instr.buildSlice 22 1 #[(0, t_25)]) w fun t_40 w =>
      ef prog (oBi .append #[22, 22] 22 #[false, false] #[out_19, t_40]) w fun t_41 w =>
      pvv prog (binOp .add 3 i_20 (.int .i64 1)) w fun t_42 w =>
      again_21 [t_41, t_42] w))) <|
    K (.tuple #[out_19, (.bool true)]) w) [(.slice none 0 0), (.int .i64 0)] w))
theorem B66_eq (l_p0 n_p1 end_p2 : Value) (w : World) (K : Value → World → Prop) : denFn prog Tryz.f66 T66 [l_p0, n_p1, end_p2] w K = B66 l_p0 n_p1 end_p2 w K := by kernel_rfl
theorem c66 {l_p0 n_p1 end_p2 : Value} {w : World} {K : Value → World → Prop} (h : B66 l_p0 n_p1 end_p2 w K) : Calls prog 66 #[l_p0, n_p1, end_p2] w (Ret K) :=
  denFn_calls Tryz.func66 T66_ok (Eq.mpr (B66_eq l_p0 n_p1 end_p2 w K) h)

-- 27 (*holdfast/block.Disk).Cut
def T27 : Ann := (.seq .none (.seq (.block (.seq .none (.seq (.seq .none .none) (.seq .none (.seq (.seq .none .none) .none))))) (.seq .none (.seq (.seq .none (.block (.range .none (.block (.draw [.op 1 .pure, .op 3 .pure, .op 0 .load, .op 2 .load, .op 4 .load, .op 5 .eff, .op 6 .pure, .op 7 .eff]))))) (.seq .none .none)))))
theorem T27_ok : chkFn prog Tryz.f27 T27 = true := by kernel_rfl
def B27 (d_p0 k_p1 : Value) (w : World) (K : Value → World → Prop) : Prop :=
  pvv prog (oEq .eql 48 (.tmp 10) (.const (.pointer none)) d_p0 (.pointer none)) w fun t_0 w =>
  cd t_0 (
    K (.tuple #[(.pointer none), (.int .i64 1)]) w) <|
  pvv prog (binOp .lss 3 k_p1 (.int .i64 0)) w fun t_1 w =>
  gate (some (t_1, false)) (fun K => K k_p1 w) w fun t_2 w =>
  gate (some (t_1, false)) (fun K => K d_p0 w) w fun t_3 w =>
  gate (some (t_1, false)) (fun K => pv prog (oNil t_3) w K) w fun t_4 w =>
  gate (some (t_1, false)) (fun K => pvv prog (Instr.fieldAt 101 t_4 1) w K) w fun t_5 w =>
  gate (some (t_1, false)) (fun K => ldv prog (Instr.loadAt 99 t_5) w K) w fun t_6 w =>
  gate (some (t_1, false)) (fun K => pv prog (oBi .len #[99] 3 #[false] #[t_6]) w K) w fun t_7 w =>
  gate (some (t_1, false)) (fun K => pvv prog (binOp .gtr 3 t_2 t_7) w K) w fun t_8 w =>
  pv prog (oPick t_1 (.bool true) t_8) w fun t_9 w =>
  cd t_9 (
    K (.tuple #[(.pointer none), (.int .i64 2)]) w) <|
  pv prog (oNil d_p0) w fun t_10 w =>
  pvv prog (Instr.fieldAt 101 t_10 0) w fun t_11 w =>
  ldv prog (Instr.loadAt 40 t_11) w fun t_12 w =>
  Calls prog 49 #[t_12] w (Ret fun t_13 w =>
  efv prog (Instr.alloc 40 true (.tuple #[])) w fun out_14 w =>
  efu prog (Instr.storeAt 40 out_14 t_13) w fun u_15 w =>
  pv prog (oNil d_p0) w fun t_16 w =>
  pvv prog (Instr.fieldAt 101 t_16 1) w fun t_17 w =>
  ldv prog (Instr.loadAt 99 t_17) w fun t_18 w =>
  pvv prog (Instr.sliceAt 99 t_18 (some k_p1) none none) w fun t_19 w =>
  Calls prog 52 #[t_19] w (Ret fun t_20 w =>
  rng prog 2 t_20 (fun σ w bg_23 ex_24 => pop σ fun t_21 σ => pop σ fun t_22 σ => fin σ <|
    efv prog (Instr.alloc 108 true (.tuple #[])) w fun w_25 w =>
    efu prog (Instr.storeAt 108 w_25 t_22) w fun u_26 w =>
    bg_23 w fun w =>
    dr w fun w =>
    pvv prog (Instr.fieldAt 108 w_25 0) w fun t_27 w =>
    pvv prog (Instr.fieldAt 108 w_25 1) w fun t_28 w =>
    bindS (vN (Instr.loadAt 40 out_14)) fun m_30 => ldv prog (Instr.loadAt 40 out_14) w fun t_29 w =>
    bindS (vN (Instr.loadAt 3 t_27)) fun m_32 => ldv prog (Instr.loadAt 3 t_27) w fun t_31 w =>
    bindS (vN (Instr.loadAt 30 t_28)) fun m_34 => ldv prog (Instr.loadAt 30 t_28) w fun t_33 w =>
    Calls prog 38 #[t_33] w (Ret fun t_35 w => stay prog none m_32 t_31 w <| stay prog none m_30 t_29 w <| 
    pvv prog (Instr.indexAt 40 t_29 t_31) w fun t_36 w =>
    efu prog (Instr.storeAt 30 t_36 t_35) w fun u_37 w =>
    ex_24 .normal w)) w fun p_41 D_40 w =>
  jump (
    ldv prog (Instr.loadAt 40 out_14) w fun t_42 w =>
    pvv prog (Instr.build 101 #[(0, t_42)]) w fun t_43 w =>
    efv prog (Instr.box 101 t_43) w fun t_44 w =>
    und [D_40] w fun w => K (.tuple #[t_44, (.int .i64 0)]) w) (
    und [D_40] w fun w => K (.tuple #[(.pointer none), (.int .i64 0)]) w) [] p_41))
theorem B27_eq (d_p0 k_p1 : Value) (w : World) (K : Value → World → Prop) : denFn prog Tryz.f27 T27 [d_p0, k_p1] w K = B27 d_p0 k_p1 w K := by kernel_rfl
theorem c27 {d_p0 k_p1 : Value} {w : World} {K : Value → World → Prop} (h : B27 d_p0 k_p1 w K) : Calls prog 27 #[d_p0, k_p1] w (Ret K) :=
  denFn_calls Tryz.func27 T27_ok (Eq.mpr (B27_eq d_p0 k_p1 w K) h)

-- 18 (*holdfast/pager.Pager).Commit
def T18 : Ann := (.seq .none (.seq (.seq .none (.seq (.seq .none .none) .none)) (.seq .none (.seq (.seq .none (.block (.loop 33538104 [3] (.seq .none (.seq (.seq .none .none) (.block (.seq .none .none))))))) (.seq .none (.meet 17590038560832 [6] (.seq .none (.seq (.seq .none .none) .none)) (.meet 1108307720798208 [] (.seq .none (.seq .none .none)) (.seq .none .none))))))))
theorem T18_ok : chkFn prog Tryz.f18 T18 = true := by kernel_rfl
def B18 (p_p0 : Value) (w : World) (K : Value → World → Prop) : Prop :=
  pvv prog (oEq .eql 25 (.tmp 7) (.const (.pointer none)) p_p0 (.pointer none)) w fun t_0 w =>
  cd t_0 (
    K (.int .i64 1) w) <|
  pv prog (oNil p_p0) w fun t_1 w =>
  pvv prog (Instr.fieldAt 80 t_1 2) w fun t_2 w =>
  ldv prog (Instr.loadAt 72 t_2) w fun t_3 w =>
  efv prog (Instr.range 72 t_3) w fun t_4 w =>
  lp (fun σ w again_6 => pop σ fun l_5 σ => fin σ <|
    efv prog (Instr.next t_4 false 0) w fun t_7 w =>
    pvv prog (Instr.extract t_7 0) w fun t_8 w =>
    cd t_8 (
      efv prog (Instr.entry t_4) w fun t_9 w =>
      pvv prog (Instr.extract t_9 0) w fun t_10 w =>
      pvv prog (Instr.extract t_9 1) w fun t_11 w =>
      pvv prog (Instr.build 86 #[(0, t_10), (1, t_11)]) w fun t_12 w =>
      efv prog (Instr.buildSlice 84 1 #[(0, t_12)]) w fun t_13 w =>
      ef prog (oBi .append #[84, 84] 84 #[false, false] #[l_5, t_13]) w fun t_14 w =>
      again_6 [t_14] w) <|
    pv prog (oNil p_p0) w fun t_15 w =>
    pvv prog (Instr.fieldAt 80 t_15 0) w fun t_16 w =>
    ldv prog (Instr.loadAt 42 t_16) w fun t_17 w =>
    Calls prog 43 #[t_17, l_5] w (Ret fun t_18 w =>
    jn (fun σ w => pop σ fun e_19 σ => fin σ <|
      jn (fun σ w => fin σ <|
        K e_19 w) fun k_20 =>
      pvv prog (oEq .eql 32 (.tmp 44) (.const (.int .i64 0)) e_19 (.int .i64 0)) w fun t_21 w =>
      cd t_21 (
        pv prog (oNil p_p0) w fun t_22 w =>
        pvv prog (Instr.fieldAt 80 t_22 2) w fun t_23 w =>
        ldv prog (Instr.loadAt 72 t_23) w fun t_24 w =>
        ef prog (oBi .clear #[72] 0 #[false] #[t_24]) w fun u_25 w =>
        k_20 [] w) <|
      k_20 [] w) fun k_26 =>
    pvv prog (oEq .eql 32 (.tmp 31) (.const (.int .i64 7)) t_18 (.int .i64 7)) w fun t_27 w =>
    cd t_27 (
      pv prog (oNil p_p0) w fun t_28 w =>
      pvv prog (Instr.fieldAt 80 t_28 0) w fun t_29 w =>
      ldv prog (Instr.loadAt 42 t_29) w fun t_30 w =>
      Calls prog 44 #[t_30] w (Ret fun t_31 w =>
      pv prog (oNil p_p0) w fun t_32 w =>
      pvv prog (Instr.fieldAt 80 t_32 0) w fun t_33 w =>
      ldv prog (Instr.loadAt 42 t_33) w fun t_34 w =>
      Calls prog 43 #[t_34, l_5] w (Ret fun t_35 w =>
      k_26 [t_35] w))) <|
    k_26 [t_18] w)) [(.slice none 0 0)] w
theorem B18_eq (p_p0 : Value) (w : World) (K : Value → World → Prop) : denFn prog Tryz.f18 T18 [p_p0] w K = B18 p_p0 w K := by kernel_rfl
theorem c18 {p_p0 : Value} {w : World} {K : Value → World → Prop} (h : B18 p_p0 w K) : Calls prog 18 #[p_p0] w (Ret K) :=
  denFn_calls Tryz.func18 T18_ok (Eq.mpr (B18_eq p_p0 w K) h)

-- 111 slices.choosePivotOrdered[int]
def T111 : Ann := (.seq .none (.seq .none (.seq .none (.seq .none (.seq .none (.seq .none (.meet 562947805944832 [11] (.seq .none (.seq (.meet 17583596116992 [10, 11, 12] (.seq .none (.seq (.seq .none (.seq .none .none)) .none)) .none) .none)) (.seq .none (.block (.seq .none (.seq (.seq .none .none) (.seq .none (.seq (.seq .none .none) (.seq .none .none))))))))))))))
theorem T111_ok : chkFn prog Tryz.f111 T111 = true := by kernel_rfl
def B111 (data_p0 a_p1 b_p2 : Value) (w : World) (K : Value → World → Prop) : Prop :=
  pvv prog (binOp .sub 3 b_p2 a_p1) w fun t_0 w =>
  efv prog (Instr.alloc 3 true (.tuple #[])) w fun swaps_1 w =>
  pvv prog (binOp .quo 3 t_0 (.int .i64 4)) w fun t_2 w =>
  pvv prog (binOp .mul 3 t_2 (.int .i64 1)) w fun t_3 w =>
  pvv prog (binOp .add 3 a_p1 t_3) w fun t_4 w =>
  pvv prog (binOp .quo 3 t_0 (.int .i64 4)) w fun t_5 w =>
  pvv prog (binOp .mul 3 t_5 (.int .i64 2)) w fun t_6 w =>
  pvv prog (binOp .add 3 a_p1 t_6) w fun t_7 w =>
  pvv prog (binOp .quo 3 t_0 (.int .i64 4)) w fun t_8 w =>
  pvv prog (binOp .mul 3 t_8 (.int .i64 3)) w fun t_9 w =>
  pvv prog (binOp .add 3 a_p1 t_9) w fun t_10 w =>
  jn (fun σ w => pop σ fun j_11 σ => fin σ <|
    ldv prog (Instr.loadAt 3 swaps_1) w fun t_12 w =>
    pvv prog (oEq .eql 3 (.tmp 49) (.const (.int .i64 0)) t_12 (.int .i64 0)) w fun t_13 w =>
    cd t_13 (
      K (.tuple #[j_11, (.int .i64 1)]) w) <|
    pvv prog (oEq .eql 3 (.tmp 49) (.const (.int .i64 12)) t_12 (.int .i64 12)) w fun t_14 w =>
    cd t_14 (
      K (.tuple #[j_11, (.int .i64 2)]) w) <|
    K (.tuple #[j_11, (.int .i64 0)]) w) fun k_15 =>
  pvv prog (binOp .geq 3 t_0 (.int .i64 8)) w fun t_16 w =>
  cd t_16 (
    jn (fun σ w => pop σ fun i_17 σ => pop σ fun j_18 σ => pop σ fun k_19 σ => fin σ <|
      Calls prog 123 #[data_p0, i_17, j_18, k_19, swaps_1] w (Ret fun t_20 w =>
      k_15 [t_20] w)) fun k_21 =>
    pvv prog (binOp .geq 3 t_0 (.int .i64 50)) w fun t_22 w =>
    cd t_22 (
      Calls prog 122 #[data_p0, t_4, swaps_1] w (Ret fun t_23 w =>
      Calls prog 122 #[data_p0, t_7, swaps_1] w (Ret fun t_24 w =>
      Calls prog 122 #[data_p0, t_10, swaps_1] w (Ret fun t_25 w =>
      k_21 [t_23, t_24, t_25] w)))) <|
    k_21 [t_4, t_7, t_10] w) <|
  k_15 [t_7] w
theorem B111_eq (data_p0 a_p1 b_p2 : Value) (w : World) (K : Value → World → Prop) : denFn prog Tryz.f111 T111 [data_p0, a_p1, b_p2] w K = B111 data_p0 a_p1 b_p2 w K := by kernel_rfl
theorem c111 {data_p0 a_p1 b_p2 : Value} {w : World} {K : Value → World → Prop} (h : B111 data_p0 a_p1 b_p2 w K) : Calls prog 111 #[data_p0, a_p1, b_p2] w (Ret K) :=
  denFn_calls Tryz.func111 T111_ok (Eq.mpr (B111_eq data_p0 a_p1 b_p2 w K) h)

-- 33 holdfast/block.New
def T33 : Ann := (.seq .none (.seq (.seq .none (.seq (.seq .none .none) .none)) (.seq .none (.seq (.seq .none (.block (.loop 4292870176 [21] (.seq .none (.seq (.seq .none .none) (.seq (.block (.seq .none (.draw [.op 0 .pure, .op 1 .pure, .op 2 .pure, .op 4 .pure, .op 3 .load, .op 5 .eff, .op 6 .pure, .op 7 .eff]))) .none)))))) (.seq .none .none)))))
theorem T33_ok : chkFn prog Tryz.f33 T33 = true := by kernel_rfl
def B33 (blocks_p0 : Value) (w : World) (K : Value → World → Prop) : Prop :=
  pvv prog (binOp .lss 3 blocks_p0 (.int .i64 1)) w fun t_0 w =>
  gate (some (t_0, false)) (fun K => K blocks_p0 w) w fun t_1 w =>
  gate (some (t_0, false)) (fun K => pvv prog (binOp .gtr 3 t_1 (.int .i64 1024)) w K) w fun t_2 w =>
  pv prog (oPick t_0 (.bool true) t_2) w fun t_3 w =>
  cd t_3 (
    K (.tuple #[(.pointer none), (.int .i64 2)]) w) <|
  efv prog (Instr.makeSlice 40 blocks_p0 blocks_p0) w fun t_4 w =>
  pvv prog (Instr.build 101 #[(0, t_4)]) w fun t_5 w =>
  efv prog (Instr.box 101 t_5) w fun t_6 w =>
  pv prog (oNil t_6) w fun t_7 w =>
  pvv prog (Instr.fieldAt 101 t_7 0) w fun t_8 w =>
  ldv prog (Instr.loadAt 40 t_8) w fun t_9 w =>
  pv prog (oBi .len #[40] 3 #[false] #[t_9]) w fun t_10 w =>
  lp (fun σ w again_12 => pop σ fun t_11 σ => fin σ <|
    pvv prog (binOp .lss 3 t_11 t_10) w fun t_13 w =>
    cd t_13 (
      dr w fun w =>
      pv prog (oNil t_6) w fun t_14 w =>
      pvv prog (Instr.fieldAt 101 t_14 0) w fun t_15 w =>
      bindS (vN (Instr.loadAt 40 t_15)) fun m_17 => ldv prog (Instr.loadAt 40 t_15) w fun t_16 w =>
      efv prog (Instr.makeSlice 30 (.int .i64 256) (.int .i64 256)) w fun t_18 w => stay prog none m_17 t_16 w <| 
      pvv prog (Instr.indexAt 40 t_16 t_11) w fun t_19 w =>
      efu prog (Instr.storeAt 30 t_19 t_18) w fun u_20 w =>
      pvv prog (binOp .add 3 t_11 (.int .i64 1)) w fun t_21 w =>
      again_12 [t_21] w) <|
    K (.tuple #[t_6, (.int .i64 0)]) w) [(.int .i64 0)] w
theorem B33_eq (blocks_p0 : Value) (w : World) (K : Value → World → Prop) : denFn prog Tryz.f33 T33 [blocks_p0] w K = B33 blocks_p0 w K := by kernel_rfl
theorem c33 {blocks_p0 : Value} {w : World} {K : Value → World → Prop} (h : B33 blocks_p0 w K) : Calls prog 33 #[blocks_p0] w (Ret K) :=
  denFn_calls Tryz.func33 T33_ok (Eq.mpr (B33_eq blocks_p0 w K) h)

-- 67 slices.DeleteFunc[[]int,int]
def T67 : Ann := (.seq .none (.seq .none (.seq (.seq .none (.seq (.seq .none .none) .none)) (.seq (.seq .none (.block (.loop 68719411424 [5, 6] (.seq (.seq .none (.seq .none .none)) (.meet 68715282592 [5] (.block (.seq .none (.seq .none (.seq (.seq .none .none) .none)))) .none))))) (.seq .none (.seq .none .none))))))
theorem T67_ok : chkFn prog Tryz.f67 T67 = true := by kernel_rfl
def B67 (s_p0 del_p1 : Value) (w : World) (K : Value → World → Prop) : Prop :=
  Calls prog 70 #[s_p0, del_p1] w (Ret fun t_0 w =>
  pvv prog (oEq .eql 3 (.tmp 11) (.const (.int .i64 (-1))) t_0 (.int .i64 (-1))) w fun t_1 w =>
  cd t_1 (
    K s_p0 w) <|
  pvv prog (binOp .add 3 t_0 (.int .i64 1)) w fun t_2 w =>
  lp (fun σ w again_5 => pop σ fun i_3 σ => pop σ fun j_4 σ => fin σ <|
    pv prog (oBi .len #[22] 3 #[false] #[s_p0]) w fun t_6 w =>
    pvv prog (binOp .lss 3 j_4 t_6) w fun t_7 w =>
    cd t_7 (
      jn (fun σ w => pop σ fun i_8 σ => fin σ <|
        pvv prog (binOp .add 3 j_4 (.int .i64 1)) w fun t_9 w =>
        again_5 [i_8, t_9] w) fun k_10 =>
      pvv prog (Instr.indexAt 22 s_p0 j_4) w fun t_11 w =>
      ldv prog (Instr.loadAt 3 t_11) w fun t_12 w =>
      ef prog (oCall del_p1 #[t_12]) w fun t_13 w =>
      pvv prog (Op.unary .not t_13) w fun t_14 w =>
      cd t_14 (
        pvv prog (Instr.indexAt 22 s_p0 i_3) w fun t_15 w =>
        efu prog (Instr.storeAt 3 t_15 t_12) w fun u_16 w =>
        pvv prog (binOp .add 3 i_3 (.int .i64 1)) w fun t_17 w =>
        k_10 [t_17] w) <|
      k_10 [i_3] w) <|
    pvv prog (Instr.sliceAt 22 s_p0 (some i_3) none none) w fun t_18 w =>
    ef prog (oBi .clear #[22] 0 #[false] #[t_18]) w fun u_19 w =>
    pvv prog (Instr.sliceAt 22 s_p0 none (some i_3) none) w fun t_20 w =>
    K t_20 w) [t_0, t_2] w)
theorem B67_eq (s_p0 del_p1 : Value) (w : World) (K : Value → World → Prop) : denFn prog Tryz.f67 T67 [s_p0, del_p1] w K = B67 s_p0 del_p1 w K := by kernel_rfl
theorem c67 {s_p0 del_p1 : Value} {w : World} {K : Value → World → Prop} (h : B67 s_p0 del_p1 w K) : Calls prog 67 #[s_p0, del_p1] w (Ret K) :=
  denFn_calls Tryz.func67 T67_ok (Eq.mpr (B67_eq s_p0 del_p1 w K) h)

-- 30 (*holdfast/pager.Pager).Unpin
def T30 : Ann := (.seq .none (.seq (.seq .none (.seq (.seq .none .none) .none)) (.seq .none (.seq (.seq .none (.block (.loop 268304528 [17] (.seq .none (.seq (.seq .none .none) (.seq (.block (.seq .none (.seq (.seq .none (.seq (.seq .none .none) .none)) .none))) .none)))))) (.seq .none (.seq .none .none))))))
theorem T30_ok : chkFn prog Tryz.f30 T30 = true := by kernel_rfl
def B30 (p_p0 pages_p1 : Value) (w : World) (K : Value → World → Prop) : Prop :=
  pvv prog (oEq .eql 25 (.tmp 8) (.const (.pointer none)) p_p0 (.pointer none)) w fun t_0 w =>
  cd t_0 (
    K (.int .i64 1) w) <|
  pv prog (oNil p_p0) w fun t_1 w =>
  pvv prog (Instr.fieldAt 80 t_1 5) w fun t_2 w =>
  ldv prog (Instr.loadAt 73 t_2) w fun t_3 w =>
  Calls prog 50 #[t_3] w (Ret fun t_4 w =>
  pv prog (oBi .len #[22] 3 #[false] #[pages_p1]) w fun t_5 w =>
  lp (fun σ w again_7 => pop σ fun t_6 σ => fin σ <|
    pvv prog (binOp .lss 3 t_6 t_5) w fun t_8 w =>
    cd t_8 (
      pvv prog (Instr.indexAt 22 pages_p1 t_6) w fun t_9 w =>
      ldv prog (Instr.loadAt 3 t_9) w fun t_10 w =>
      ldv prog (Instr.lookup 73 t_4 t_10 false) w fun t_11 w =>
      pvv prog (Op.unary .not t_11) w fun t_12 w =>
      cd t_12 (
        K (.int .i64 4) w) <|
      ef prog (oBi .delete #[73, 3] 0 #[false, false] #[t_4, t_10]) w fun u_13 w =>
      pvv prog (binOp .add 3 t_6 (.int .i64 1)) w fun t_14 w =>
      again_7 [t_14] w) <|
    pv prog (oNil p_p0) w fun t_15 w =>
    pvv prog (Instr.fieldAt 80 t_15 5) w fun t_16 w =>
    efu prog (Instr.storeAt 73 t_16 t_4) w fun u_17 w =>
    K (.int .i64 0) w) [(.int .i64 0)] w)
theorem B30_eq (p_p0 pages_p1 : Value) (w : World) (K : Value → World → Prop) : denFn prog Tryz.f30 T30 [p_p0, pages_p1] w K = B30 p_p0 pages_p1 w K := by kernel_rfl
theorem c30 {p_p0 pages_p1 : Value} {w : World} {K : Value → World → Prop} (h : B30 p_p0 pages_p1 w K) : Calls prog 30 #[p_p0, pages_p1] w (Ret K) :=
  denFn_calls Tryz.func30 T30_ok (Eq.mpr (B30_eq p_p0 pages_p1 w K) h)

-- 55 (*holdfast/block.Disk).Read
def T55 : Ann := (.seq .none (.seq (.block (.seq .none (.seq (.seq .none .none) (.seq .none (.seq (.seq .none .none) .none))))) (.seq .none .none)))
theorem T55_ok : chkFn prog Tryz.f55 T55 = true := by kernel_rfl
def B55 (d_p0 n_p1 : Value) (w : World) (K : Value → World → Prop) : Prop :=
  pvv prog (oEq .eql 48 (.tmp 7) (.const (.pointer none)) d_p0 (.pointer none)) w fun t_0 w =>
  cd t_0 (
    K (.tuple #[(.slice none 0 0), (.int .i64 1)]) w) <|
  pvv prog (binOp .lss 3 n_p1 (.int .i64 0)) w fun t_1 w =>
  gate (some (t_1, false)) (fun K => K n_p1 w) w fun t_2 w =>
  gate (some (t_1, false)) (fun K => K d_p0 w) w fun t_3 w =>
  gate (some (t_1, false)) (fun K => pv prog (oNil t_3) w K) w fun t_4 w =>
  gate (some (t_1, false)) (fun K => pvv prog (Instr.fieldAt 101 t_4 0) w K) w fun t_5 w =>
  gate (some (t_1, false)) (fun K => ldv prog (Instr.loadAt 40 t_5) w K) w fun t_6 w =>
  gate (some (t_1, false)) (fun K => pv prog (oBi .len #[40] 3 #[false] #[t_6]) w K) w fun t_7 w =>
  gate (some (t_1, false)) (fun K => pvv prog (binOp .geq 3 t_2 t_7) w K) w fun t_8 w =>
  pv prog (oPick t_1 (.bool true) t_8) w fun t_9 w =>
  cd t_9 (
    K (.tuple #[(.slice none 0 0), (.int .i64 2)]) w) <|
  pv prog (oNil d_p0) w fun t_10 w =>
  pvv prog (Instr.fieldAt 101 t_10 0) w fun t_11 w =>
  ldv prog (Instr.loadAt 40 t_11) w fun t_12 w =>
  pvv prog (Instr.indexAt 40 t_12 n_p1) w fun t_13 w =>
  ldv prog (Instr.loadAt 30 t_13) w fun t_14 w =>
  Calls prog 38 #[t_14] w (Ret fun t_15 w =>
  K (.tuple #[t_15, (.int .i64 0)]) w)
theorem B55_eq (d_p0 n_p1 : Value) (w : World) (K : Value → World → Prop) : denFn prog Tryz.f55 T55 [d_p0, n_p1] w K = B55 d_p0 n_p1 w K := by kernel_rfl
theorem c55 {d_p0 n_p1 : Value} {w : World} {K : Value → World → Prop} (h : B55 d_p0 n_p1 w K) : Calls prog 55 #[d_p0, n_p1] w (Ret K) :=
  denFn_calls Tryz.func55 T55_ok (Eq.mpr (B55_eq d_p0 n_p1 w K) h)

-- 11 (holdfast/holdfastlaw04.Deed).bytes
def T11 : Ann := (.seq .none (.seq .none (.meet 200 [3] (.seq .none (.seq .none .none)) (.seq .none (.seq (.seq .none (.block (.loop 1047584 [5] (.seq (.seq .none (.seq .none .none)) (.seq (.block .none) .none))))) (.seq .none .none))))))
theorem T11_ok : chkFn prog Tryz.f11 T11 = true := by kernel_rfl
def B11 (d_p0 : Value) (w : World) (K : Value → World → Prop) : Prop :=
  efv prog (Instr.box 24 d_p0) w fun d_0 w =>
  jn (fun σ w => pop σ fun n_1 σ => fin σ <|
    efv prog (Instr.makeSlice 30 n_1 n_1) w fun t_2 w =>
    lp (fun σ w again_4 => pop σ fun i_3 σ => fin σ <|
      pvv prog (binOp .lss 3 i_3 n_1) w fun t_5 w =>
      cd t_5 (
        pvv prog (Instr.fieldAt 24 d_0 2) w fun t_6 w =>
        ldv prog (Instr.loadAt 5 t_6) w fun t_7 w =>
        pvv prog (Instr.indexAt 30 t_2 i_3) w fun t_8 w =>
        efu prog (Instr.storeAt 5 t_8 t_7) w fun u_9 w =>
        pvv prog (binOp .add 3 i_3 (.int .i64 1)) w fun t_10 w =>
        again_4 [t_10] w) <|
      K t_2 w) [(.int .i64 0)] w) fun k_11 =>
  pvv prog (Instr.fieldAt 24 d_0 3) w fun t_12 w =>
  ldv prog (Instr.loadAt 4 t_12) w fun t_13 w =>
  cd t_13 (
    k_11 [(.int .i64 255)] w) <|
  k_11 [(.int .i64 256)] w
theorem B11_eq (d_p0 : Value) (w : World) (K : Value → World → Prop) : denFn prog Tryz.f11 T11 [d_p0] w K = B11 d_p0 w K := by kernel_rfl
theorem c11 {d_p0 : Value} {w : World} {K : Value → World → Prop} (h : B11 d_p0 w K) : Calls prog 11 #[d_p0] w (Ret K) :=
  denFn_calls Tryz.func11 T11_ok (Eq.mpr (B11_eq d_p0 w K) h)

-- 54 holdfast/block.Load
def T54 : Ann := (.seq .none (.seq (.block (.seq .none (.seq (.seq .none .none) (.seq .none (.seq (.seq .none .none) .none))))) (.seq .none .none)))
theorem T54_ok : chkFn prog Tryz.f54 T54 = true := by kernel_rfl
def B54 (image_p0 : Value) (w : World) (K : Value → World → Prop) : Prop :=
  pv prog (oBi .len #[40] 3 #[false] #[image_p0]) w fun t_0 w =>
  pvv prog (binOp .lss 3 t_0 (.int .i64 1)) w fun t_1 w =>
  gate (some (t_1, false)) (fun K => K image_p0 w) w fun t_2 w =>
  gate (some (t_1, false)) (fun K => pv prog (oBi .len #[40] 3 #[false] #[t_2]) w K) w fun t_3 w =>
  gate (some (t_1, false)) (fun K => pvv prog (binOp .gtr 3 t_3 (.int .i64 1024)) w K) w fun t_4 w =>
  pv prog (oPick t_1 (.bool true) t_4) w fun t_5 w =>
  cd t_5 (
    K (.tuple #[(.pointer none), (.int .i64 2)]) w) <|
  Calls prog 89 #[image_p0, (.func (.func 90) #[] #[])] w (Ret fun t_6 w =>
  cd t_6 (
    K (.tuple #[(.pointer none), (.int .i64 3)]) w) <|
  Calls prog 49 #[image_p0] w (Ret fun t_7 w =>
  pvv prog (Instr.build 101 #[(0, t_7)]) w fun t_8 w =>
  efv prog (Instr.box 101 t_8) w fun t_9 w =>
  K (.tuple #[t_9, (.int .i64 0)]) w))
theorem B54_eq (image_p0 : Value) (w : World) (K : Value → World → Prop) : denFn prog Tryz.f54 T54 [image_p0] w K = B54 image_p0 w K := by kernel_rfl
theorem c54 {image_p0 : Value} {w : World} {K : Value → World → Prop} (h : B54 image_p0 w K) : Calls prog 54 #[image_p0] w (Ret K) :=
  denFn_calls Tryz.func54 T54_ok (Eq.mpr (B54_eq image_p0 w K) h)

-- 76 holdfast/wal.set
def T76 : Ann := (.seq .none (.block (.loop 8388496 [7] (.seq .none (.seq (.seq .none .none) (.seq (.block (.seq .none .none)) .none))))))
theorem T76_ok : chkFn prog Tryz.f76 T76 = true := by kernel_rfl
def B76 (b_p0 n_p1 : Value) (w : World) (K : Value → World → Prop) : Prop :=
  pv prog (oBi .len #[30] 3 #[false] #[b_p0]) w fun t_0 w =>
  lp (fun σ w again_2 => pop σ fun t_1 σ => fin σ <|
    pvv prog (binOp .lss 3 t_1 t_0) w fun t_3 w =>
    cd t_3 (
      pv prog (oBi .len #[30] 3 #[false] #[b_p0]) w fun t_4 w =>
      pvv prog (binOp .sub 3 t_4 (.int .i64 1)) w fun t_5 w =>
      pvv prog (binOp .sub 3 t_5 t_1) w fun t_6 w =>
      pvv prog (binOp .mul 3 (.int .i64 8) t_1) w fun t_7 w =>
      pvv prog (binOp .shr 3 n_p1 t_7) w fun t_8 w =>
      pvv prog (convert 3 5 t_8) w fun t_9 w =>
      pvv prog (Instr.indexAt 30 b_p0 t_6) w fun t_10 w =>
      efu prog (Instr.storeAt 5 t_10 t_9) w fun u_11 w =>
      pvv prog (binOp .add 3 t_1 (.int .i64 1)) w fun t_12 w =>
      again_2 [t_12] w) <|
    K (.tuple #[]) w) [(.int .i64 0)] w
theorem B76_eq (b_p0 n_p1 : Value) (w : World) (K : Value → World → Prop) : denFn prog Tryz.f76 T76 [b_p0, n_p1] w K = B76 b_p0 n_p1 w K := by kernel_rfl
theorem c76 {b_p0 n_p1 : Value} {w : World} {K : Value → World → Prop} (h : B76 b_p0 n_p1 w K) : Calls prog 76 #[b_p0, n_p1] w (Ret K) :=
  denFn_calls Tryz.func76 T76_ok (Eq.mpr (B76_eq b_p0 n_p1 w K) h)

-- 65 holdfast/holdfastref03.pair
def T65 : Ann := (.seq .none (.seq (.draw [.op 0 .pure, .op 1 .pure, .op 2 .pure, .op 6 .pure, .op 7 .pure, .op 8 .pure, .op 9 .pure, .op 3 .load, .op 4 .pure, .op 5 .pure, .op 10 .load, .op 11 .pure, .op 12 .pure, .op 13 .pure]) .none))
theorem T65_ok : chkFn prog Tryz.f65 T65 = true := by kernel_rfl
def B65 (b_p0 at_p1 : Value) (w : World) (K : Value → World → Prop) : Prop :=
  dr w fun w =>
  pvv prog (Instr.indexAt 30 b_p0 at_p1) w fun t_0 w =>
  pvv prog (binOp .add 3 at_p1 (.int .i64 1)) w fun t_1 w =>
  pvv prog (Instr.indexAt 30 b_p0 t_1) w fun t_2 w =>
  bindS (vN (Instr.loadAt 5 t_0)) fun m_4 => ldv prog (Instr.loadAt 5 t_0) w fun t_3 w =>
  pvv prog (convert 5 3 t_3) w fun t_5 w =>
  pvv prog (binOp .shl 3 t_5 (.int .u64 8)) w fun t_6 w =>
  bindS (vN (Instr.loadAt 5 t_2)) fun m_8 => ldv prog (Instr.loadAt 5 t_2) w fun t_7 w =>
  pvv prog (convert 5 3 t_7) w fun t_9 w =>
  pvv prog (binOp .or 3 t_6 t_9) w fun t_10 w =>
  K t_10 w
theorem B65_eq (b_p0 at_p1 : Value) (w : World) (K : Value → World → Prop) : denFn prog Tryz.f65 T65 [b_p0, at_p1] w K = B65 b_p0 at_p1 w K := by kernel_rfl
theorem c65 {b_p0 at_p1 : Value} {w : World} {K : Value → World → Prop} (h : B65 b_p0 at_p1 w K) : Calls prog 65 #[b_p0, at_p1] w (Ret K) :=
  denFn_calls Tryz.func65 T65_ok (Eq.mpr (B65_eq b_p0 at_p1 w K) h)

-- 57 holdfast/wal.get
def T57 : Ann := (.seq .none (.seq .none (.seq (.seq .none (.block (.loop 261928 [3, 8] (.seq .none (.seq (.seq .none .none) (.seq (.block (.seq .none .none)) .none)))))) (.seq .none .none))))
theorem T57_ok : chkFn prog Tryz.f57 T57 = true := by kernel_rfl
def B57 (b_p0 : Value) (w : World) (K : Value → World → Prop) : Prop :=
  pv prog (oBi .len #[30] 3 #[false] #[b_p0]) w fun t_0 w =>
  lp (fun σ w again_3 => pop σ fun n_1 σ => pop σ fun t_2 σ => fin σ <|
    pvv prog (binOp .lss 3 t_2 t_0) w fun t_4 w =>
    cd t_4 (
      pvv prog (Instr.indexAt 30 b_p0 t_2) w fun t_5 w =>
      ldv prog (Instr.loadAt 5 t_5) w fun t_6 w =>
      pvv prog (binOp .shl 3 n_1 (.int .u64 8)) w fun t_7 w =>
      pvv prog (convert 5 3 t_6) w fun t_8 w =>
      pvv prog (binOp .or 3 t_7 t_8) w fun t_9 w =>
      pvv prog (binOp .add 3 t_2 (.int .i64 1)) w fun t_10 w =>
      again_3 [t_9, t_10] w) <|
    K n_1 w) [(.int .i64 0), (.int .i64 0)] w
theorem B57_eq (b_p0 : Value) (w : World) (K : Value → World → Prop) : denFn prog Tryz.f57 T57 [b_p0] w K = B57 b_p0 w K := by kernel_rfl
theorem c57 {b_p0 : Value} {w : World} {K : Value → World → Prop} (h : B57 b_p0 w K) : Calls prog 57 #[b_p0] w (Ret K) :=
  denFn_calls Tryz.func57 T57_ok (Eq.mpr (B57_eq b_p0 w K) h)

-- 105 slices.IndexFunc[[]byte,byte]
def T105 : Ann := (.seq .none (.seq (.seq .none (.block (.loop 524080 [8] (.seq .none (.seq (.seq .none .none) (.seq (.block (.seq .none (.seq .none (.seq (.seq .none .none) .none)))) .none)))))) (.seq .none .none)))
theorem T105_ok : chkFn prog Tryz.f105 T105 = true := by kernel_rfl
def B105 (s_p0 f_p1 : Value) (w : World) (K : Value → World → Prop) : Prop :=
  pv prog (oBi .len #[30] 3 #[false] #[s_p0]) w fun t_0 w =>
  lp (fun σ w again_2 => pop σ fun t_1 σ => fin σ <|
    pvv prog (binOp .lss 3 t_1 t_0) w fun t_3 w =>
    cd t_3 (
      pvv prog (Instr.indexAt 30 s_p0 t_1) w fun t_4 w =>
      ldv prog (Instr.loadAt 5 t_4) w fun t_5 w =>
      ef prog (oCall f_p1 #[t_5]) w fun t_6 w =>
      cd t_6 (
        K t_1 w) <|
      pvv prog (binOp .add 3 t_1 (.int .i64 1)) w fun t_7 w =>
      again_2 [t_7] w) <|
    K (.int .i64 (-1)) w) [(.int .i64 0)] w
theorem B105_eq (s_p0 f_p1 : Value) (w : World) (K : Value → World → Prop) : denFn prog Tryz.f105 T105 [s_p0, f_p1] w K = B105 s_p0 f_p1 w K := by kernel_rfl
theorem c105 {s_p0 f_p1 : Value} {w : World} {K : Value → World → Prop} (h : B105 s_p0 f_p1 w K) : Calls prog 105 #[s_p0, f_p1] w (Ret K) :=
  denFn_calls Tryz.func105 T105_ok (Eq.mpr (B105_eq s_p0 f_p1 w K) h)

-- 72 (*holdfast/wal.Log).place
def T72 : Ann := (.seq .none (.seq (.seq .none (.seq .none (.seq (.seq .none .none) .none))) (.seq .none .none)))
theorem T72_ok : chkFn prog Tryz.f72 T72 = true := by kernel_rfl
def B72 (l_p0 n_p1 : Value) (w : World) (K : Value → World → Prop) : Prop :=
  pv prog (oNil l_p0) w fun t_0 w =>
  pvv prog (Instr.fieldAt 97 t_0 4) w fun t_1 w =>
  ldv prog (Instr.loadAt 95 t_1) w fun t_2 w =>
  ldv prog (Instr.lookup 95 t_2 n_p1 true) w fun t_3 w =>
  pvv prog (Instr.extract t_3 0) w fun t_4 w =>
  pvv prog (Instr.extract t_3 1) w fun t_5 w =>
  cd t_5 (
    K t_4 w) <|
  pv prog (oNil l_p0) w fun t_6 w =>
  pvv prog (Instr.fieldAt 97 t_6 1) w fun t_7 w =>
  ldv prog (Instr.loadAt 3 t_7) w fun t_8 w =>
  pvv prog (binOp .add 3 t_8 (.int .i64 1)) w fun t_9 w =>
  pvv prog (binOp .add 3 t_9 n_p1) w fun t_10 w =>
  K t_10 w
theorem B72_eq (l_p0 n_p1 : Value) (w : World) (K : Value → World → Prop) : denFn prog Tryz.f72 T72 [l_p0, n_p1] w K = B72 l_p0 n_p1 w K := by kernel_rfl
theorem c72 {l_p0 n_p1 : Value} {w : World} {K : Value → World → Prop} (h : B72 l_p0 n_p1 w K) : Calls prog 72 #[l_p0, n_p1] w (Ret K) :=
  denFn_calls Tryz.func72 T72_ok (Eq.mpr (B72_eq l_p0 n_p1 w K) h)

-- 114 cmp.Less[int]
def T114 : Ann := (.seq .none (.seq .none .none))
theorem T114_ok : chkFn prog Tryz.f114 T114 = true := by kernel_rfl
def B114 (x_p0 y_p1 : Value) (w : World) (K : Value → World → Prop) : Prop :=
  Calls prog 124 #[x_p0] w (Ret fun t_0 w =>
  gate (some (t_0, true)) (fun K => K y_p1 w) w fun t_1 w =>
  gate (some (t_0, true)) (fun K => Calls prog 124 #[t_1] w (Ret K)) w fun t_2 w =>
  gate (some (t_0, true)) (fun K => pvv prog (Op.unary .not t_2) w K) w fun t_3 w =>
  pv prog (oPick t_0 t_3 (.bool false)) w fun t_4 w =>
  gate (some (t_4, false)) (fun K => K x_p0 w) w fun t_5 w =>
  gate (some (t_4, false)) (fun K => K y_p1 w) w fun t_6 w =>
  gate (some (t_4, false)) (fun K => pvv prog (binOp .lss 3 t_5 t_6) w K) w fun t_7 w =>
  pv prog (oPick t_4 (.bool true) t_7) w fun t_8 w =>
  K t_8 w)
theorem B114_eq (x_p0 y_p1 : Value) (w : World) (K : Value → World → Prop) : denFn prog Tryz.f114 T114 [x_p0, y_p1] w K = B114 x_p0 y_p1 w K := by kernel_rfl
theorem c114 {x_p0 y_p1 : Value} {w : World} {K : Value → World → Prop} (h : B114 x_p0 y_p1 w K) : Calls prog 114 #[x_p0, y_p1] w (Ret K) :=
  denFn_calls Tryz.func114 T114_ok (Eq.mpr (B114_eq x_p0 y_p1 w K) h)

-- 79 (*holdfast/wal.Log).Touched
def T79 : Ann := (.seq .none (.seq (.seq .none (.seq (.seq .none .none) .none)) (.seq .none .none)))
theorem T79_ok : chkFn prog Tryz.f79 T79 = true := by kernel_rfl
def B79 (l_p0 : Value) (w : World) (K : Value → World → Prop) : Prop :=
  pvv prog (oEq .eql 42 (.tmp 3) (.const (.pointer none)) l_p0 (.pointer none)) w fun t_0 w =>
  cd t_0 (
    K (.slice none 0 0) w) <|
  pv prog (oNil l_p0) w fun t_1 w =>
  pvv prog (Instr.fieldAt 97 t_1 4) w fun t_2 w =>
  ldv prog (Instr.loadAt 95 t_2) w fun t_3 w =>
  Calls prog 99 #[t_3] w (Ret fun t_4 w =>
  Calls prog 45 #[t_4] w (Ret fun t_5 w =>
  K t_5 w))
theorem B79_eq (l_p0 : Value) (w : World) (K : Value → World → Prop) : denFn prog Tryz.f79 T79 [l_p0] w K = B79 l_p0 w K := by kernel_rfl
theorem c79 {l_p0 : Value} {w : World} {K : Value → World → Prop} (h : B79 l_p0 w K) : Calls prog 79 #[l_p0] w (Ret K) :=
  denFn_calls Tryz.func79 T79_ok (Eq.mpr (B79_eq l_p0 w K) h)

-- 24 (*holdfast/block.Disk).Image
def T24 : Ann := (.seq .none (.seq (.seq .none (.seq (.seq .none .none) .none)) (.seq .none .none)))
theorem T24_ok : chkFn prog Tryz.f24 T24 = true := by kernel_rfl
def B24 (d_p0 : Value) (w : World) (K : Value → World → Prop) : Prop :=
  pvv prog (oEq .eql 48 (.tmp 3) (.const (.pointer none)) d_p0 (.pointer none)) w fun t_0 w =>
  cd t_0 (
    K (.slice none 0 0) w) <|
  pv prog (oNil d_p0) w fun t_1 w =>
  pvv prog (Instr.fieldAt 101 t_1 0) w fun t_2 w =>
  ldv prog (Instr.loadAt 40 t_2) w fun t_3 w =>
  Calls prog 49 #[t_3] w (Ret fun t_4 w =>
  K t_4 w)
theorem B24_eq (d_p0 : Value) (w : World) (K : Value → World → Prop) : denFn prog Tryz.f24 T24 [d_p0] w K = B24 d_p0 w K := by kernel_rfl
theorem c24 {d_p0 : Value} {w : World} {K : Value → World → Prop} (h : B24 d_p0 w K) : Calls prog 24 #[d_p0] w (Ret K) :=
  denFn_calls Tryz.func24 T24_ok (Eq.mpr (B24_eq d_p0 w K) h)

-- 63 (*holdfast/holdfastref03.Log).block
def T63 : Ann := (.seq .none (.seq .none (.seq .none .none)))
theorem T63_ok : chkFn prog Tryz.f63 T63 = true := by kernel_rfl
def B63 (l_p0 n_p1 : Value) (w : World) (K : Value → World → Prop) : Prop :=
  pv prog (oNil l_p0) w fun t_0 w =>
  pvv prog (Instr.fieldAt 118 t_0 0) w fun t_1 w =>
  ldv prog (Instr.loadAt 62 t_1) w fun t_2 w =>
  Calls prog 95 #[t_2, n_p1] w (Ret fun t_3 w =>
  pvv prog (Instr.extract t_3 0) w fun t_4 w =>
  pvv prog (Instr.extract t_3 1) w fun t_5 w =>
  K t_4 w)
theorem B63_eq (l_p0 n_p1 : Value) (w : World) (K : Value → World → Prop) : denFn prog Tryz.f63 T63 [l_p0, n_p1] w K = B63 l_p0 n_p1 w K := by kernel_rfl
theorem c63 {l_p0 n_p1 : Value} {w : World} {K : Value → World → Prop} (h : B63 l_p0 n_p1 w K) : Calls prog 63 #[l_p0, n_p1] w (Ret K) :=
  denFn_calls Tryz.func63 T63_ok (Eq.mpr (B63_eq l_p0 n_p1 w K) h)

-- 17 (*holdfast/pager.Pager).Log
def T17 : Ann := (.seq .none (.seq (.seq .none (.seq (.seq .none .none) .none)) (.seq .none .none)))
theorem T17_ok : chkFn prog Tryz.f17 T17 = true := by kernel_rfl
def B17 (p_p0 : Value) (w : World) (K : Value → World → Prop) : Prop :=
  pvv prog (oEq .eql 25 (.tmp 3) (.const (.pointer none)) p_p0 (.pointer none)) w fun t_0 w =>
  cd t_0 (
    K (.pointer none) w) <|
  pv prog (oNil p_p0) w fun t_1 w =>
  pvv prog (Instr.fieldAt 80 t_1 0) w fun t_2 w =>
  ldv prog (Instr.loadAt 42 t_2) w fun t_3 w =>
  K t_3 w
theorem B17_eq (p_p0 : Value) (w : World) (K : Value → World → Prop) : denFn prog Tryz.f17 T17 [p_p0] w K = B17 p_p0 w K := by kernel_rfl
theorem c17 {p_p0 : Value} {w : World} {K : Value → World → Prop} (h : B17 p_p0 w K) : Calls prog 17 #[p_p0] w (Ret K) :=
  denFn_calls Tryz.func17 T17_ok (Eq.mpr (B17_eq p_p0 w K) h)

-- 38 bytes.Clone
def T38 : Ann := (.seq .none (.seq (.seq .none (.seq (.seq .none .none) .none)) (.seq .none .none)))
theorem T38_ok : chkFn prog Tryz.f38 T38 = true := by kernel_rfl
def B38 (b_p0 : Value) (w : World) (K : Value → World → Prop) : Prop :=
  pvv prog (oEq .eql 30 (.tmp 3) (.const (.slice none 0 0)) b_p0 (.slice none 0 0)) w fun t_0 w =>
  cd t_0 (
    K (.slice none 0 0) w) <|
  efv prog (Instr.buildSlice 30 0 #[]) w fun t_1 w =>
  ef prog (oBi .append #[30, 30] 30 #[false, false] #[t_1, b_p0]) w fun t_2 w =>
  K t_2 w
theorem B38_eq (b_p0 : Value) (w : World) (K : Value → World → Prop) : denFn prog Tryz.f38 T38 [b_p0] w K = B38 b_p0 w K := by kernel_rfl
theorem c38 {b_p0 : Value} {w : World} {K : Value → World → Prop} (h : B38 b_p0 w K) : Calls prog 38 #[b_p0] w (Ret K) :=
  denFn_calls Tryz.func38 T38_ok (Eq.mpr (B38_eq b_p0 w K) h)

-- 120 slices.nextPowerOfTwo
def T120 : Ann := (.seq .none (.seq .none .none))
theorem T120_ok : chkFn prog Tryz.f120 T120 = true := by kernel_rfl
def B120 (length_p0 : Value) (w : World) (K : Value → World → Prop) : Prop :=
  pvv prog (convert 3 120 length_p0) w fun t_0 w =>
  Calls prog 102 #[t_0] w (Ret fun t_1 w =>
  pvv prog (binOp .shl 120 (.int .u64 1) t_1) w fun t_2 w =>
  K t_2 w)
theorem B120_eq (length_p0 : Value) (w : World) (K : Value → World → Prop) : denFn prog Tryz.f120 T120 [length_p0] w K = B120 length_p0 w K := by kernel_rfl
theorem c120 {length_p0 : Value} {w : World} {K : Value → World → Prop} (h : B120 length_p0 w K) : Calls prog 120 #[length_p0] w (Ret K) :=
  denFn_calls Tryz.func120 T120_ok (Eq.mpr (B120_eq length_p0 w K) h)

-- 73 slices.ContainsFunc[[]holdfast/api.Page,holdfast/api.Page]
def T73 : Ann := (.seq .none (.seq .none .none))
theorem T73_ok : chkFn prog Tryz.f73 T73 = true := by kernel_rfl
def B73 (s_p0 f_p1 : Value) (w : World) (K : Value → World → Prop) : Prop :=
  Calls prog 98 #[s_p0, f_p1] w (Ret fun t_0 w =>
  pvv prog (binOp .geq 3 t_0 (.int .i64 0)) w fun t_1 w =>
  K t_1 w)
theorem B73_eq (s_p0 f_p1 : Value) (w : World) (K : Value → World → Prop) : denFn prog Tryz.f73 T73 [s_p0, f_p1] w K = B73 s_p0 f_p1 w K := by kernel_rfl
theorem c73 {s_p0 f_p1 : Value} {w : World} {K : Value → World → Prop} (h : B73 s_p0 f_p1 w K) : Calls prog 73 #[s_p0, f_p1] w (Ret K) :=
  denFn_calls Tryz.func73 T73_ok (Eq.mpr (B73_eq s_p0 f_p1 w K) h)

-- 52 slices.Backward[[]holdfast/block.write,holdfast/block.write]
def T52 : Ann := (.seq .none (.seq .none .none))
theorem T52_ok : chkFn prog Tryz.f52 T52 = true := by kernel_rfl
def B52 (s_p0 : Value) (w : World) (K : Value → World → Prop) : Prop :=
  efv prog (Instr.box 99 s_p0) w fun s_0 w =>
  pvv prog (Instr.makeFunc (.func 88) #[] #[s_0]) w fun t_1 w =>
  K t_1 w
theorem B52_eq (s_p0 : Value) (w : World) (K : Value → World → Prop) : denFn prog Tryz.f52 T52 [s_p0] w K = B52 s_p0 w K := by kernel_rfl
theorem c52 {s_p0 : Value} {w : World} {K : Value → World → Prop} (h : B52 s_p0 w K) : Calls prog 52 #[s_p0] w (Ret K) :=
  denFn_calls Tryz.func52 T52_ok (Eq.mpr (B52_eq s_p0 w K) h)

-- 46 maps.Keys[map[int][]byte,int,[]byte]
def T46 : Ann := (.seq .none (.seq .none .none))
theorem T46_ok : chkFn prog Tryz.f46 T46 = true := by kernel_rfl
def B46 (m_p0 : Value) (w : World) (K : Value → World → Prop) : Prop :=
  efv prog (Instr.box 72 m_p0) w fun m_0 w =>
  pvv prog (Instr.makeFunc (.func 82) #[] #[m_0]) w fun t_1 w =>
  K t_1 w
theorem B46_eq (m_p0 : Value) (w : World) (K : Value → World → Prop) : denFn prog Tryz.f46 T46 [m_p0] w K = B46 m_p0 w K := by kernel_rfl
theorem c46 {m_p0 : Value} {w : World} {K : Value → World → Prop} (h : B46 m_p0 w K) : Calls prog 46 #[m_p0] w (Ret K) :=
  denFn_calls Tryz.func46 T46_ok (Eq.mpr (B46_eq m_p0 w K) h)

-- 124 cmp.isNaN[int]
def T124 : Ann := (.seq .none (.seq .none .none))
theorem T124_ok : chkFn prog Tryz.f124 T124 = true := by kernel_rfl
def B124 (x_p0 : Value) (w : World) (K : Value → World → Prop) : Prop :=
  pvv prog (oEq .neq 3 (.tmp 3) (.tmp 4) x_p0 x_p0) w fun t_0 w =>
  K t_0 w
theorem B124_eq (x_p0 : Value) (w : World) (K : Value → World → Prop) : denFn prog Tryz.f124 T124 [x_p0] w K = B124 x_p0 w K := by kernel_rfl
theorem c124 {x_p0 : Value} {w : World} {K : Value → World → Prop} (h : B124 x_p0 w K) : Calls prog 124 #[x_p0] w (Ret K) :=
  denFn_calls Tryz.func124 T124_ok (Eq.mpr (B124_eq x_p0 w K) h)


end Go.Proofs.YtcjklbhobmkalaaGreat
