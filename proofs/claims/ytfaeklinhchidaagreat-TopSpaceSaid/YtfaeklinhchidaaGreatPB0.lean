import Derived.Test.YtfaeklinhchidaaGreatPI
set_option linter.all false
set_option maxRecDepth 100000
namespace Go.Proofs.YtfaeklinhchidaaGreat
open Go Hold
-- 34 (holdfast/hash.words).mix
def T19 : AnnD := (.seq .none (.seq .none (.here (.meet 4398045986816 [] (.seq .none (.seq (.seq .none (.draw [.op 0 .pure, .op 1 .pure, .op 2 .pure, .op 4 .pure, .op 5 .pure, .op 6 .pure, .op 7 .pure, .op 9 .pure, .op 3 .load, .op 8 .load, .op 10 .eff, .op 11 .eff])) .none)) (.seq .none (.meet 4722364231069831528448 [] (.seq .none (.seq (.seq .none (.draw [.op 0 .pure, .op 1 .pure, .op 2 .pure, .op 4 .pure, .op 5 .pure, .op 6 .pure, .op 7 .pure, .op 9 .pure, .op 10 .pure, .op 3 .load, .op 8 .load, .op 11 .eff, .op 12 .eff])) .none)) (.seq (.seq .none (.block (.loop 5192296857930364718723181741867520 [9] (.seq (.seq .none (.seq .none .none)) (.seq (.block (.seq .none .none)) (.seq (.seq .none .none) .none)))))) (.seq .none .none))))))))
theorem T19_ok : chkFnD prog Tryz.f19 T19 = true := by kernel_rfl
def B19 (t_p0 key_p1 leaf_p2 : Value) (w : World) (K : Value → World → Prop) : Prop :=
  efv prog (Instr.alloc 24 true (.tuple #[])) w fun e_0 w =>
  pv prog (oNil t_p0) w fun t_1 w =>
  pvv prog (Instr.fieldAt 73 t_1 0) w fun t_2 w =>
  ldv prog (Instr.loadAt 71 t_2) w fun t_3 w =>
  efv prog (Instr.makeMap 117 none) w fun t_4 w =>
  pvv prog (Instr.build 124 #[(0, t_3), (1, t_p0), (2, t_4)]) w fun t_5 w =>
  efv prog (Instr.box 124 t_5) w fun t_6 w =>
  pvv prog (Instr.makeFunc (.func 48) #[] #[e_0]) w fun t_7 w =>
  isFn t_7 ∧
  jn (fun σ w => fin σ <|
    pv prog (oNil t_6) w fun t_8 w =>
    pvv prog (Instr.fieldAt 124 t_8 0) w fun t_9 w =>
    pvv prog (Instr.fieldAt 71 t_9 0) w fun t_10 w =>
    ldv prog (Instr.loadAt 3 t_10) w fun t_11 w =>
    Calls prog 51 #[t_6, t_11, (.slice none 0 0), key_p1, leaf_p2] w (Ret fun t_12 w =>
    jn (fun σ w => fin σ <|
      pv prog (oNil t_6) w fun t_13 w =>
      pvv prog (Instr.fieldAt 124 t_13 0) w fun t_14 w =>
      pvv prog (Instr.fieldAt 71 t_14 0) w fun t_15 w =>
      ldv prog (Instr.loadAt 3 t_15) w fun t_16 w =>
      Calls prog 52 #[t_6, t_16] w (Ret fun t_17 w =>
      efv prog (Instr.alloc 63 true (.tuple #[])) w fun n_18 w =>
      efu prog (Instr.storeAt 63 n_18 t_17) w fun u_19 w =>
      lp (fun σ w again_21 => pop σ fun n_20 σ => fin σ <|
        pvv prog (Instr.fieldAt 63 n_20 0) w fun t_22 w =>
        ldv prog (Instr.loadAt 4 t_22) w fun t_23 w =>
        pvv prog (Op.unary .not t_23) w fun t_24 w =>
        gate (some (t_24, true)) (fun K => pvv prog (Instr.fieldAt 63 n_20 1) w K) w fun t_25 w =>
        gate (some (t_24, true)) (fun K => ldv prog (Instr.loadAt 61 t_25) w K) w fun t_26 w =>
        gate (some (t_24, true)) (fun K => pv prog (oBi .len #[61] 3 #[false] #[t_26]) w K) w fun t_27 w =>
        gate (some (t_24, true)) (fun K => pvv prog (oEq .eql 3 (.tmp 85) (.const (.int .i64 1)) t_27 (.int .i64 1)) w K) w fun t_28 w =>
        pv prog (oPick t_24 t_28 (.bool false)) w fun t_29 w =>
        cd t_29 (
          pv prog (oNil t_6) w fun t_30 w =>
          pvv prog (Instr.fieldAt 124 t_30 0) w fun t_31 w =>
          pvv prog (Instr.fieldAt 71 t_31 0) w fun t_32 w =>
          ldv prog (Instr.loadAt 3 t_32) w fun t_33 w =>
          Calls prog 53 #[t_6, t_33] w (Ret fun t_34 w =>
          pvv prog (Instr.fieldAt 63 n_20 1) w fun t_35 w =>
          ldv prog (Instr.loadAt 61 t_35) w fun t_36 w =>
          pvv prog (Instr.indexAt 61 t_36 (.int .i64 0)) w fun t_37 w =>
          pvv prog (Instr.fieldAt 67 t_37 2) w fun t_38 w =>
          ldv prog (Instr.loadAt 3 t_38) w fun t_39 w =>
          pv prog (oNil t_6) w fun t_40 w =>
          pvv prog (Instr.fieldAt 124 t_40 0) w fun t_41 w =>
          pvv prog (Instr.fieldAt 71 t_41 0) w fun t_42 w =>
          efu prog (Instr.storeAt 3 t_42 t_39) w fun u_43 w =>
          ldv prog (Instr.loadAt 63 n_20) w fun t_44 w =>
          efv prog (Instr.alloc 63 true (.tuple #[])) w fun n_45 w =>
          efu prog (Instr.storeAt 63 n_45 t_44) w fun u_46 w =>
          pv prog (oNil t_6) w fun t_47 w =>
          pvv prog (Instr.fieldAt 124 t_47 0) w fun t_48 w =>
          pvv prog (Instr.fieldAt 71 t_48 0) w fun t_49 w =>
          ldv prog (Instr.loadAt 3 t_49) w fun t_50 w =>
          Calls prog 52 #[t_6, t_50] w (Ret fun t_51 w =>
          efu prog (Instr.storeAt 63 n_45 t_51) w fun u_52 w =>
          again_21 [n_45] w))) <|
        Calls prog 54 #[t_p0, t_6] w (Ret fun t_53 w =>
        efu prog (Instr.storeAt 24 e_0 t_53) w fun u_54 w =>
        dfr prog t_7 w fun w => ∃ r_55, (do loadVar 24 (← asAddr e_0)).run prog w = .ok r_55 w ∧ K r_55 w)) [n_18] w)) fun k_56 =>
    pv prog (oBi .len #[61] 3 #[false] #[t_12]) w fun t_57 w =>
    pvv prog (binOp .gtr 3 t_57 (.int .i64 1)) w fun t_58 w =>
    cd t_58 (
      Calls prog 49 #[t_6] w (Ret fun t_59 w =>
      pv prog (oNil t_6) w fun t_60 w =>
      pvv prog (Instr.fieldAt 124 t_60 0) w fun t_61 w =>
      pvv prog (Instr.fieldAt 71 t_61 0) w fun t_62 w =>
      efu prog (Instr.storeAt 3 t_62 t_59) w fun u_63 w =>
      dr w fun w =>
      pv prog (oNil t_6) w fun t_64 w =>
      pvv prog (Instr.fieldAt 124 t_64 2) w fun t_65 w =>
      pv prog (oNil t_6) w fun t_66 w =>
      pvv prog (Instr.fieldAt 124 t_66 0) w fun t_67 w =>
      pvv prog (Instr.fieldAt 71 t_67 0) w fun t_68 w =>
      pvv prog (Instr.build 63 #[(0, (.bool false)), (1, t_12)]) w fun t_69 w =>
      bindS (vN (Instr.loadAt 117 t_65)) fun m_71 => ldv prog (Instr.loadAt 117 t_65) w fun t_70 w =>
      bindS (vN (Instr.loadAt 3 t_68)) fun m_73 => ldv prog (Instr.loadAt 3 t_68) w fun t_72 w =>
      Calls prog 50 #[t_69] w (Ret fun t_74 w => stay prog none m_73 t_72 w <| stay prog none m_71 t_70 w <| 
      efu prog (Instr.mapUpdate 117 t_70 t_72 t_74) w fun u_75 w =>
      k_56 [] w))) <|
    k_56 [] w)) fun k_78 =>
  pv prog (oNil t_6) w fun t_79 w =>
  pvv prog (Instr.fieldAt 124 t_79 0) w fun t_80 w =>
  pvv prog (Instr.fieldAt 71 t_80 0) w fun t_81 w =>
  ldv prog (Instr.loadAt 3 t_81) w fun t_82 w =>
  pvv prog (oEq .eql 3 (.tmp 23) (.const (.int .i64 0)) t_82 (.int .i64 0)) w fun t_83 w =>
  cd t_83 (
    Calls prog 49 #[t_6] w (Ret fun t_84 w =>
    pv prog (oNil t_6) w fun t_85 w =>
    pvv prog (Instr.fieldAt 124 t_85 0) w fun t_86 w =>
    pvv prog (Instr.fieldAt 71 t_86 0) w fun t_87 w =>
    efu prog (Instr.storeAt 3 t_87 t_84) w fun u_88 w =>
    dr w fun w =>
    pv prog (oNil t_6) w fun t_89 w =>
    pvv prog (Instr.fieldAt 124 t_89 2) w fun t_90 w =>
    pv prog (oNil t_6) w fun t_91 w =>
    pvv prog (Instr.fieldAt 124 t_91 0) w fun t_92 w =>
    pvv prog (Instr.fieldAt 71 t_92 0) w fun t_93 w =>
    pvv prog (Instr.build 63 #[(0, (.bool true))]) w fun t_94 w =>
    bindS (vN (Instr.loadAt 117 t_90)) fun m_96 => ldv prog (Instr.loadAt 117 t_90) w fun t_95 w =>
    bindS (vN (Instr.loadAt 3 t_93)) fun m_98 => ldv prog (Instr.loadAt 3 t_93) w fun t_97 w =>
    Calls prog 50 #[t_94] w (Ret fun t_99 w => stay prog none m_98 t_97 w <| stay prog none m_96 t_95 w <| 
    efu prog (Instr.mapUpdate 117 t_95 t_97 t_99) w fun u_100 w =>
    k_78 [] w))) <|
  k_78 [] w
theorem B19_eq (t_p0 key_p1 leaf_p2 : Value) (w : World) (K : Value → World → Prop) : denFnD prog Tryz.f19 T19 [t_p0, key_p1, leaf_p2] w K = B19 t_p0 key_p1 leaf_p2 w K := by kernel_rfl
theorem c19 {t_p0 key_p1 leaf_p2 : Value} {w : World} {K : Value → World → Prop} (h : B19 t_p0 key_p1 leaf_p2 w K) : Calls prog 19 #[t_p0, key_p1, leaf_p2] w (Ret K) :=
  denFnD_calls Tryz.func19 T19_ok (Eq.mpr (B19_eq t_p0 key_p1 leaf_p2 w K) h)

-- 65 slices.pdqsortOrdered[int]
def T82 : Ann := (.seq .none (.seq (.seq .none (.seq (.seq (.draw [.op 0 .pure, .op 1 .pure, .op 2 .pure, .op 4 .pure, .op 3 .load, .op 5 .load, .op 6 .eff, .op 7 .eff]) (.seq .none .none)) .none)) (.seq .none (.seq (.draw [.op 0 .pure, .op 2 .pure, .op 4 .pure, .op 5 .pure, .op 8 .pure, .op 10 .pure, .op 12 .pure, .op 1 .load, .op 3 .load, .op 6 .pure, .op 7 .pure, .op 9 .load, .op 11 .load, .op 13 .pure, .op 14 .pure, .par [⟨15, .eff, (some 10), []⟩, ⟨16, .eff, (some 11), []⟩], .op 17 .eff, .op 18 .eff]) (.seq .none (.seq (.draw [.op 0 .pure, .op 1 .pure, .op 2 .pure, .op 4 .pure, .op 5 .pure, .op 6 .pure, .op 7 .pure, .op 9 .pure, .op 3 .load, .op 8 .load, .op 10 .load, .op 12 .load, .op 11 .eff, .op 13 .eff, .op 14 .eff, .op 15 .pure, .op 16 .eff, .op 17 .eff, .op 18 .pure, .op 19 .eff]) (.seq .none .none)))))))
theorem T82_ok : chkFn prog Tryz.f82 T82 = true := by kernel_rfl
def B82 (c_p0 page_p1 key_p2 n_p3 : Value) (w : World) (K : Value → World → Prop) : Prop :=
  efv prog (Instr.box 63 n_p3) w fun n_0 w =>
  ldv prog (Instr.loadAt 63 n_0) w fun t_1 w =>
  Calls prog 62 #[t_1] w (Ret fun t_2 w =>
  pvv prog (binOp .leq 3 t_2 (.int .i64 253)) w fun t_3 w =>
  cd t_3 (
    dr w fun w =>
    pv prog (oNil c_p0) w fun t_4 w =>
    pvv prog (Instr.fieldAt 124 t_4 2) w fun t_5 w =>
    bindS (vN (Instr.loadAt 117 t_5)) fun m_7 => ldv prog (Instr.loadAt 117 t_5) w fun t_6 w =>
    bindS (vN (Instr.loadAt 63 n_0)) fun m_9 => ldv prog (Instr.loadAt 63 n_0) w fun t_8 w =>
    Calls prog 50 #[t_8] w (Ret fun t_10 w => stay prog none m_7 t_6 w <| 
    efu prog (Instr.mapUpdate 117 t_6 page_p1 t_10) w fun u_11 w =>
    pvv prog (Instr.build 67 #[(0, key_p2), (2, page_p1)]) w fun t_12 w =>
    efv prog (Instr.buildSlice 61 1 #[(0, t_12)]) w fun t_13 w =>
    K t_13 w)) <|
  ldv prog (Instr.loadAt 63 n_0) w fun t_16 w =>
  Calls prog 118 #[t_16] w (Ret fun t_17 w =>
  dr w fun w =>
  pvv prog (Instr.fieldAt 63 n_0 0) w fun t_18 w =>
  pvv prog (Instr.fieldAt 63 n_0 1) w fun t_19 w =>
  pvv prog (Instr.fieldAt 63 n_0 0) w fun t_20 w =>
  pvv prog (Instr.fieldAt 63 n_0 1) w fun t_21 w =>
  bindS (vN (Instr.loadAt 4 t_18)) fun m_23 => ldv prog (Instr.loadAt 4 t_18) w fun t_22 w =>
  bindS (vN (Instr.loadAt 61 t_19)) fun m_25 => ldv prog (Instr.loadAt 61 t_19) w fun t_24 w =>
  pvv prog (Instr.sliceAt 61 t_24 none (some t_17) (some t_17)) w fun t_26 w =>
  pvv prog (Instr.build 63 #[(0, t_22), (1, t_26)]) w fun t_27 w =>
  bindS (vN (Instr.loadAt 4 t_20)) fun m_29 => ldv prog (Instr.loadAt 4 t_20) w fun t_28 w =>
  bindS (vN (Instr.loadAt 61 t_21)) fun m_31 => ldv prog (Instr.loadAt 61 t_21) w fun t_30 w =>
  pvv prog (Instr.sliceAt 61 t_30 (some t_17) none none) w fun t_32 w =>
  pvv prog (Instr.build 63 #[(0, t_28), (1, t_32)]) w fun t_33 w =>
  par 2 w fun J_34 =>
    (∀ (σ : List (Option Value)) (w : World), J_34 σ w → un σ 0 (efv prog (Instr.alloc 63 true (.tuple #[])) w fun v_35 w => stay prog none m_31 t_30 w <| stay prog none m_29 t_28 w <| stay prog none m_25 t_24 w <| stay prog none m_23 t_22 w <| J_34 (σ.set 0 (some v_35)) w)) ∧
    (∀ (σ : List (Option Value)) (w : World), J_34 σ w → un σ 1 (efv prog (Instr.alloc 63 true (.tuple #[])) w fun v_36 w => stay prog none m_31 t_30 w <| stay prog none m_29 t_28 w <| stay prog none m_25 t_24 w <| stay prog none m_23 t_22 w <| J_34 (σ.set 1 (some v_36)) w)) ∧
    ∀ (σ : List (Option Value)) (w : World), J_34 σ w → is σ 0 fun left_37 => is σ 1 fun right_38 => 
    efu prog (Instr.storeAt 63 left_37 t_27) w fun u_39 w => stay prog none m_31 t_30 w <| stay prog none m_29 t_28 w <| 
    efu prog (Instr.storeAt 63 right_38 t_33) w fun u_40 w =>
    Calls prog 49 #[c_p0] w (Ret fun t_41 w =>
    dr w fun w =>
    pv prog (oNil c_p0) w fun t_42 w =>
    pvv prog (Instr.fieldAt 124 t_42 2) w fun t_43 w =>
    pv prog (oNil c_p0) w fun t_44 w =>
    pvv prog (Instr.fieldAt 124 t_44 2) w fun t_45 w =>
    bindS (vN (Instr.loadAt 117 t_43)) fun m_47 => ldv prog (Instr.loadAt 117 t_43) w fun t_46 w =>
    bindS (vN (Instr.loadAt 117 t_45)) fun m_49 => ldv prog (Instr.loadAt 117 t_45) w fun t_48 w =>
    bindS (vN (Instr.loadAt 63 left_37)) fun m_51 => ldv prog (Instr.loadAt 63 left_37) w fun t_50 w =>
    bindS (vN (Instr.loadAt 63 right_38)) fun m_53 => ldv prog (Instr.loadAt 63 right_38) w fun t_52 w =>
    Calls prog 50 #[t_50] w (Ret fun t_54 w => stay prog none m_53 t_52 w <| stay prog none m_49 t_48 w <| stay prog none m_47 t_46 w <| 
    Calls prog 50 #[t_52] w (Ret fun t_55 w => stay prog none m_51 t_50 w <| stay prog none m_49 t_48 w <| stay prog none m_47 t_46 w <| 
    efv prog (Instr.mapEntry 117 t_46 page_p1) w fun t_56 w => stay prog none m_53 t_52 w <| stay prog none m_51 t_50 w <| 
    pvv prog (Instr.extract t_56 1) w fun t_57 w =>
    efu prog (Instr.entryStore 117 t_46 t_57 t_54) w fun u_58 w => stay prog none m_53 t_52 w <| 
    efv prog (Instr.mapEntry 117 t_48 t_41) w fun t_59 w => stay prog none m_53 t_52 w <| 
    pvv prog (Instr.extract t_59 1) w fun t_60 w =>
    efu prog (Instr.entryStore 117 t_48 t_60 t_55) w fun u_61 w =>
    pvv prog (Instr.build 67 #[(0, key_p2), (2, page_p1)]) w fun t_62 w =>
    pvv prog (Instr.fieldAt 63 right_38 1) w fun t_63 w =>
    ldv prog (Instr.loadAt 61 t_63) w fun t_64 w =>
    pvv prog (Instr.indexAt 61 t_64 (.int .i64 0)) w fun t_65 w =>
    pvv prog (Instr.fieldAt 67 t_65 0) w fun t_66 w =>
    ldv prog (Instr.loadAt 22 t_66) w fun t_67 w =>
    pvv prog (Instr.build 67 #[(0, t_67), (2, t_41)]) w fun t_68 w =>
    efv prog (Instr.buildSlice 61 2 #[(0, t_62), (1, t_68)]) w fun t_69 w =>
    K t_69 w)))))
theorem B82_eq (c_p0 page_p1 key_p2 n_p3 : Value) (w : World) (K : Value → World → Prop) : denFn prog Tryz.f82 T82 [c_p0, page_p1, key_p2, n_p3] w K = B82 c_p0 page_p1 key_p2 n_p3 w K := by kernel_rfl
theorem c82 {c_p0 page_p1 key_p2 n_p3 : Value} {w : World} {K : Value → World → Prop} (h : B82 c_p0 page_p1 key_p2 n_p3 w K) : Calls prog 82 #[c_p0, page_p1, key_p2, n_p3] w (Ret K) :=
  denFn_calls Tryz.func82 T82_ok (Eq.mpr (B82_eq c_p0 page_p1 key_p2 n_p3 w K) h)

-- 45 (*holdfast/wal.Log).group
def T45 : Ann := (.seq .none (.seq .none (.seq .none (.seq (.seq .none (.seq (.seq .none .none) .none)) (.seq .none (.seq (.seq .none (.block (.loop 302231454340707340257040 [8, 49] (.seq .none (.seq (.seq .none .none) (.seq (.block (.seq .none (.seq .none (.seq (.seq .none (.seq (.seq .none .none) .none)) (.seq .none .none))))) .none)))))) (.seq .none .none)))))))
theorem T45_ok : chkFn prog Tryz.f45 T45 = true := by kernel_rfl
def B45 (l_p0 n_p1 : Value) (w : World) (K : Value → World → Prop) : Prop :=
  pv prog (oNil l_p0) w fun t_0 w =>
  pvv prog (Instr.fieldAt 114 t_0 0) w fun t_1 w =>
  pvv prog (Instr.fieldAt 111 t_1 0) w fun t_2 w =>
  ldv prog (Instr.loadAt 49 t_2) w fun t_3 w =>
  Calls prog 41 #[t_3, n_p1] w (Ret fun t_4 w =>
  pvv prog (Instr.extract t_4 0) w fun t_5 w =>
  pvv prog (Instr.extract t_4 1) w fun t_6 w =>
  Calls prog 44 #[t_5] w (Ret fun t_7 w =>
  pvv prog (binOp .lss 3 t_7 (.int .i64 1)) w fun t_8 w =>
  gate (some (t_8, false)) (fun K => K t_7 w) w fun t_9 w =>
  gate (some (t_8, false)) (fun K => pvv prog (binOp .gtr 3 t_9 (.int .i64 100)) w K) w fun t_10 w =>
  pv prog (oPick t_8 (.bool true) t_10) w fun t_11 w =>
  gate (some (t_11, false)) (fun K => K n_p1 w) w fun t_12 w =>
  gate (some (t_11, false)) (fun K => K t_7 w) w fun t_13 w =>
  gate (some (t_11, false)) (fun K => pvv prog (binOp .add 3 t_12 t_13) w K) w fun t_14 w =>
  gate (some (t_11, false)) (fun K => K l_p0 w) w fun t_15 w =>
  gate (some (t_11, false)) (fun K => pv prog (oNil t_15) w K) w fun t_16 w =>
  gate (some (t_11, false)) (fun K => pvv prog (Instr.fieldAt 114 t_16 3) w K) w fun t_17 w =>
  gate (some (t_11, false)) (fun K => ldv prog (Instr.loadAt 3 t_17) w K) w fun t_18 w =>
  gate (some (t_11, false)) (fun K => pvv prog (binOp .gtr 3 t_14 t_18) w K) w fun t_19 w =>
  pv prog (oPick t_11 (.bool true) t_19) w fun t_20 w =>
  gate (some (t_20, false)) (fun K => K t_5 w) w fun t_21 w =>
  gate (some (t_20, false)) (fun K => K t_7 w) w fun t_22 w =>
  gate (some (t_20, false)) (fun K => pvv prog (binOp .mul 3 (.int .i64 2) t_22) w K) w fun t_23 w =>
  gate (some (t_20, false)) (fun K => pvv prog (binOp .add 3 (.int .i64 2) t_23) w K) w fun t_24 w =>
  gate (some (t_20, false)) (fun K => pvv prog (Instr.sliceAt 22 t_21 (some t_24) none none) w K) w fun t_25 w =>
  gate (some (t_20, false)) (fun K => Calls prog 42 #[t_25] w (Ret K)) w fun t_26 w =>
  gate (some (t_20, false)) (fun K => pvv prog (Op.unary .not t_26) w K) w fun t_27 w =>
  pv prog (oPick t_20 (.bool true) t_27) w fun t_28 w =>
  cd t_28 (
    K (.int .i64 0) w) <|
  lp (fun σ w again_31 => pop σ fun last_29 σ => pop σ fun t_30 σ => fin σ <|
    pvv prog (binOp .lss 3 t_30 t_7) w fun t_32 w =>
    cd t_32 (
      pvv prog (binOp .mul 3 (.int .i64 2) t_30) w fun t_33 w =>
      pvv prog (binOp .add 3 (.int .i64 2) t_33) w fun t_34 w =>
      pvv prog (Instr.sliceAt 22 t_5 (some t_34) none none) w fun t_35 w =>
      Calls prog 44 #[t_35] w (Ret fun t_36 w =>
      pvv prog (binOp .leq 3 t_36 last_29) w fun t_37 w =>
      gate (some (t_37, false)) (fun K => K t_36 w) w fun t_38 w =>
      gate (some (t_37, false)) (fun K => K l_p0 w) w fun t_39 w =>
      gate (some (t_37, false)) (fun K => Calls prog 28 #[t_39] w (Ret K)) w fun t_40 w =>
      gate (some (t_37, false)) (fun K => pvv prog (binOp .geq 3 t_38 t_40) w K) w fun t_41 w =>
      pv prog (oPick t_37 (.bool true) t_41) w fun t_42 w =>
      cd t_42 (
        K (.int .i64 0) w) <|
      pv prog (oNil l_p0) w fun t_43 w =>
      pvv prog (Instr.fieldAt 114 t_43 4) w fun t_44 w =>
      ldv prog (Instr.loadAt 112 t_44) w fun t_45 w =>
      pvv prog (binOp .add 3 n_p1 (.int .i64 1)) w fun t_46 w =>
      pvv prog (binOp .add 3 t_46 t_30) w fun t_47 w =>
      efu prog (Instr.mapUpdate 112 t_45 t_36 t_47) w fun u_48 w =>
      pvv prog (binOp .add 3 t_30 (.int .i64 1)) w fun t_49 w =>
      again_31 [t_36, t_49] w)) <|
    K t_7 w) [(.int .i64 (-1)), (.int .i64 0)] w))
theorem B45_eq (l_p0 n_p1 : Value) (w : World) (K : Value → World → Prop) : denFn prog Tryz.f45 T45 [l_p0, n_p1] w K = B45 l_p0 n_p1 w K := by kernel_rfl
theorem c45 {l_p0 n_p1 : Value} {w : World} {K : Value → World → Prop} (h : B45 l_p0 n_p1 w K) : Calls prog 45 #[l_p0, n_p1] w (Ret K) :=
  denFn_calls Tryz.func45 T45_ok (Eq.mpr (B45_eq l_p0 n_p1 w K) h)

-- 22 slices.Insert[[]holdfast/tree.entry,holdfast/tree.entry]
def T22 : Ann := (.seq .none (.seq .none (.seq .none (.seq (.seq .none (.seq (.seq .none .none) .none)) (.seq .none (.seq (.seq .none (.seq (.seq .none .none) .none)) (.seq (.seq .none (.seq (.seq .none (.seq .none (.seq (.draw [.op 0 .pure, .op 1 .pure, .op 2 .pure, .op 3 .pure, .op 4 .pure, .op 5 .pure, .op 6 .pure, .op 7 .pure, .op 8 .eff]) (.seq .none .none)))) .none)) (.seq .none (.seq (.seq .none (.seq (.seq (.draw [.op 0 .pure, .op 1 .pure, .op 2 .pure, .op 3 .pure, .op 4 .pure, .op 5 .pure, .op 6 .pure, .op 7 .pure, .op 8 .eff]) (.seq .none (.seq .none .none))) .none)) (.seq .none (.seq .none (.seq .none .none))))))))))))
theorem T22_ok : chkFn prog Tryz.f22 T22 = true := by kernel_rfl
def B22 (s_p0 i_p1 v_p2 : Value) (w : World) (K : Value → World → Prop) : Prop :=
  pvv prog (Instr.sliceAt 61 s_p0 (some i_p1) none none) w fun t_0 w =>
  pv prog (oBi .len #[61] 3 #[false] #[v_p2]) w fun t_1 w =>
  pvv prog (oEq .eql 3 (.tmp 15) (.const (.int .i64 0)) t_1 (.int .i64 0)) w fun t_2 w =>
  cd t_2 (
    K s_p0 w) <|
  pv prog (oBi .len #[61] 3 #[false] #[s_p0]) w fun t_3 w =>
  pvv prog (oEq .eql 3 (.tmp 20) (.tmp 21) i_p1 t_3) w fun t_4 w =>
  cd t_4 (
    ef prog (oBi .append #[61, 61] 61 #[false, false] #[s_p0, v_p2]) w fun t_5 w =>
    K t_5 w) <|
  pvv prog (binOp .add 3 t_3 t_1) w fun t_6 w =>
  pv prog (oBi .cap #[61] 3 #[false] #[s_p0]) w fun t_7 w =>
  pvv prog (binOp .gtr 3 t_6 t_7) w fun t_8 w =>
  cd t_8 (
    pvv prog (Instr.sliceAt 61 s_p0 none (some i_p1) none) w fun t_9 w =>
    pvv prog (binOp .add 3 t_3 t_1) w fun t_10 w =>
    pvv prog (binOp .sub 3 t_10 i_p1) w fun t_11 w =>
    ef prog (oBi .append #[61, 3] 61 #[false, false] #[t_9, t_11]) w fun t_12 w =>
    pvv prog (Instr.sliceAt 61 t_12 (some i_p1) none none) w fun t_13 w =>
    ef prog (oBi .copy #[61, 61] 3 #[false, false] #[t_13, v_p2]) w fun t_14 w =>
    dr w fun w =>
    pvv prog (binOp .add 3 i_p1 t_1) w fun t_15 w =>
    pvv prog (Instr.sliceAt 61 t_12 (some t_15) none none) w fun t_16 w =>
    pvv prog (Instr.sliceAt 61 s_p0 (some i_p1) none none) w fun t_17 w =>
    ef prog (oBi .copy #[61, 61] 3 #[false, false] #[t_16, t_17]) w fun t_18 w =>
    K t_12 w) <|
  pvv prog (binOp .add 3 t_3 t_1) w fun t_20 w =>
  pvv prog (Instr.sliceAt 61 s_p0 none (some t_20) none) w fun t_21 w =>
  pvv prog (binOp .add 3 i_p1 t_1) w fun t_22 w =>
  pvv prog (Instr.sliceAt 61 t_21 (some t_22) none none) w fun t_23 w =>
  ef prog (oCall (.func (.func 57) #[] #[]) #[v_p2, t_23]) w fun t_24 w =>
  pvv prog (Op.unary .not t_24) w fun t_25 w =>
  cd t_25 (
    dr w fun w =>
    pvv prog (binOp .add 3 i_p1 t_1) w fun t_26 w =>
    pvv prog (Instr.sliceAt 61 t_21 (some t_26) none none) w fun t_27 w =>
    pvv prog (Instr.sliceAt 61 t_21 (some i_p1) none none) w fun t_28 w =>
    ef prog (oBi .copy #[61, 61] 3 #[false, false] #[t_27, t_28]) w fun t_29 w =>
    pvv prog (Instr.sliceAt 61 t_21 (some i_p1) none none) w fun t_30 w =>
    ef prog (oBi .copy #[61, 61] 3 #[false, false] #[t_30, v_p2]) w fun t_31 w =>
    K t_21 w) <|
  pvv prog (Instr.sliceAt 61 t_21 (some t_3) none none) w fun t_33 w =>
  ef prog (oBi .copy #[61, 61] 3 #[false, false] #[t_33, v_p2]) w fun t_34 w =>
  pvv prog (Instr.sliceAt 61 t_21 (some i_p1) none none) w fun t_35 w =>
  Calls prog 58 #[t_35, t_1] w (Ret fun t_36 w =>
  K t_21 w)
theorem B22_eq (s_p0 i_p1 v_p2 : Value) (w : World) (K : Value → World → Prop) : denFn prog Tryz.f22 T22 [s_p0, i_p1, v_p2] w K = B22 s_p0 i_p1 v_p2 w K := by kernel_rfl
theorem c22 {s_p0 i_p1 v_p2 : Value} {w : World} {K : Value → World → Prop} (h : B22 s_p0 i_p1 v_p2 w K) : Calls prog 22 #[s_p0, i_p1, v_p2] w (Ret K) :=
  denFn_calls Tryz.func22 T22_ok (Eq.mpr (B22_eq s_p0 i_p1 v_p2 w K) h)

-- 88 (*holdfast/pager.Pager).Write
def T88 : Ann := (.seq .none (.seq (.seq .none (.seq .none (.seq (.seq .none .none) .none))) (.seq .none (.seq (.block (.seq .none (.seq (.seq .none .none) (.seq .none (.seq (.seq .none .none) .none))))) (.seq (.draw [.op 0 .pure, .op 1 .pure, .op 2 .pure, .op 4 .pure, .op 5 .pure, .op 3 .load, .op 6 .eff, .op 7 .eff]) (.seq .none (.seq .none (.seq .none .none))))))))
theorem T88_ok : chkFn prog Tryz.f88 T88 = true := by kernel_rfl
def B88 (p_p0 n_p1 b_p2 : Value) (w : World) (K : Value → World → Prop) : Prop :=
  Calls prog 63 #[p_p0, n_p1] w (Ret fun t_0 w =>
  pvv prog (oEq .neq 24 (.tmp 13) (.const (.int .i64 0)) t_0 (.int .i64 0)) w fun t_1 w =>
  cd t_1 (
    K t_0 w) <|
  pv prog (oNil p_p0) w fun t_2 w =>
  pvv prog (Instr.fieldAt 119 t_2 2) w fun t_3 w =>
  ldv prog (Instr.loadAt 117 t_3) w fun t_4 w =>
  ldv prog (Instr.lookup 117 t_4 n_p1 true) w fun t_5 w =>
  pvv prog (Instr.extract t_5 0) w fun t_6 w =>
  pvv prog (Instr.extract t_5 1) w fun t_7 w =>
  pv prog (oBi .len #[22] 3 #[false] #[b_p2]) w fun t_8 w =>
  pvv prog (oEq .neq 3 (.tmp 27) (.const (.int .i64 256)) t_8 (.int .i64 256)) w fun t_9 w =>
  cd t_9 (
    K (.int .i64 3) w) <|
  pvv prog (Op.unary .not t_7) w fun t_10 w =>
  gate (some (t_10, true)) (fun K => K p_p0 w) w fun t_11 w =>
  gate (some (t_10, true)) (fun K => pv prog (oNil t_11) w K) w fun t_12 w =>
  gate (some (t_10, true)) (fun K => pvv prog (Instr.fieldAt 119 t_12 2) w K) w fun t_13 w =>
  gate (some (t_10, true)) (fun K => ldv prog (Instr.loadAt 117 t_13) w K) w fun t_14 w =>
  gate (some (t_10, true)) (fun K => ld prog (oBi .len #[117] 3 #[false] #[t_14]) w K) w fun t_15 w =>
  gate (some (t_10, true)) (fun K => pvv prog (binOp .geq 3 t_15 (.int .i64 100)) w K) w fun t_16 w =>
  pv prog (oPick t_10 t_16 (.bool false)) w fun t_17 w =>
  cd t_17 (
    K (.int .i64 6) w) <|
  dr w fun w =>
  pv prog (oNil p_p0) w fun t_18 w =>
  pvv prog (Instr.fieldAt 119 t_18 2) w fun t_19 w =>
  bindS (vN (Instr.loadAt 117 t_19)) fun m_21 => ldv prog (Instr.loadAt 117 t_19) w fun t_20 w =>
  Calls prog 35 #[b_p2] w (Ret fun t_22 w => stay prog none m_21 t_20 w <| 
  efu prog (Instr.mapUpdate 117 t_20 n_p1 t_22) w fun u_23 w =>
  Calls prog 100 #[p_p0, n_p1] w (Ret fun t_24 w =>
  pv prog (oNil p_p0) w fun t_25 w =>
  pvv prog (Instr.fieldAt 119 t_25 5) w fun t_26 w =>
  ldv prog (Instr.loadAt 76 t_26) w fun t_27 w =>
  ef prog (oBi .delete #[76, 3] 0 #[false, false] #[t_27, n_p1]) w fun u_28 w =>
  K (.int .i64 0) w)))
theorem B88_eq (p_p0 n_p1 b_p2 : Value) (w : World) (K : Value → World → Prop) : denFn prog Tryz.f88 T88 [p_p0, n_p1, b_p2] w K = B88 p_p0 n_p1 b_p2 w K := by kernel_rfl
theorem c88 {p_p0 n_p1 b_p2 : Value} {w : World} {K : Value → World → Prop} (h : B88 p_p0 n_p1 b_p2 w K) : Calls prog 88 #[p_p0, n_p1, b_p2] w (Ret K) :=
  denFn_calls Tryz.func88 T88_ok (Eq.mpr (B88_eq p_p0 n_p1 b_p2 w K) h)

-- 113 math/bits.Len64
def T52 : Ann := (.seq .none (.seq .none (.meet 4294705184 [5] (.seq .none (.seq .none .none)) (.seq .none (.meet 2061584302080 [] (.seq .none (.seq .none .none)) (.seq .none .none))))))
theorem T52_ok : chkFn prog Tryz.f52 T52 = true := by kernel_rfl
def B52 (c_p0 page_p1 : Value) (w : World) (K : Value → World → Prop) : Prop :=
  efv prog (Instr.alloc 63 true (.tuple #[])) w fun t_0 w =>
  pv prog (oNil c_p0) w fun t_1 w =>
  pvv prog (Instr.fieldAt 124 t_1 2) w fun t_2 w =>
  ldv prog (Instr.loadAt 117 t_2) w fun t_3 w =>
  ldv prog (Instr.lookup 117 t_3 page_p1 true) w fun t_4 w =>
  pvv prog (Instr.extract t_4 0) w fun t_5 w =>
  pvv prog (Instr.extract t_4 1) w fun t_6 w =>
  jn (fun σ w => pop σ fun b_7 σ => fin σ <|
    Calls prog 86 #[b_7] w (Ret fun t_8 w =>
    pvv prog (Instr.extract t_8 0) w fun t_9 w =>
    pvv prog (Instr.extract t_8 1) w fun t_10 w =>
    efv prog (Instr.alloc 63 true (.tuple #[])) w fun n_11 w =>
    efu prog (Instr.storeAt 63 n_11 t_9) w fun u_12 w =>
    jn (fun σ w => fin σ <|
      ldv prog (Instr.loadAt 63 n_11) w fun t_13 w =>
      efu prog (Instr.storeAt 63 t_0 t_13) w fun u_14 w =>
      ∃ r_15, (do loadVar 63 (← asAddr t_0)).run prog w = .ok r_15 w ∧ K r_15 w) fun k_16 =>
    pvv prog (Op.unary .not t_10) w fun t_17 w =>
    cd t_17 (
      pvv prog (Instr.build 75 #[(0, (.int .i64 15))]) w fun t_18 w =>
      pvv prog (Instr.makeInterface 75 t_18) w fun t_19 w =>
      efv prog (Instr.panic t_19) w fun u_20 w =>
      k_16 [] w) <|
    k_16 [] w)) fun k_21 =>
  pvv prog (Op.unary .not t_6) w fun t_22 w =>
  cd t_22 (
    pv prog (oNil c_p0) w fun t_23 w =>
    pvv prog (Instr.fieldAt 124 t_23 1) w fun t_24 w =>
    ldv prog (Instr.loadAt 23 t_24) w fun t_25 w =>
    pv prog (oNil t_25) w fun t_26 w =>
    pvv prog (Instr.fieldAt 73 t_26 1) w fun t_27 w =>
    ldv prog (Instr.loadAt 55 t_27) w fun t_28 w =>
    Calls prog 26 #[t_28, page_p1] w (Ret fun t_29 w =>
    pvv prog (Instr.extract t_29 0) w fun t_30 w =>
    pvv prog (Instr.extract t_29 1) w fun t_31 w =>
    k_21 [t_30] w)) <|
  k_21 [t_5] w
theorem B52_eq (c_p0 page_p1 : Value) (w : World) (K : Value → World → Prop) : denFn prog Tryz.f52 T52 [c_p0, page_p1] w K = B52 c_p0 page_p1 w K := by kernel_rfl
theorem c52 {c_p0 page_p1 : Value} {w : World} {K : Value → World → Prop} (h : B52 c_p0 page_p1 w K) : Calls prog 52 #[c_p0, page_p1] w (Ret K) :=
  denFn_calls Tryz.func52 T52_ok (Eq.mpr (B52_eq c_p0 page_p1 w K) h)

-- 14 holdfast/block.New
def T14 : Ann := (.seq .none (.seq (.seq .none (.seq (.seq .none .none) .none)) (.seq .none (.seq (.seq .none (.block (.loop 4292870176 [21] (.seq .none (.seq (.seq .none .none) (.seq (.block (.seq .none (.draw [.op 0 .pure, .op 1 .pure, .op 2 .pure, .op 4 .pure, .op 3 .load, .op 5 .eff, .op 6 .pure, .op 7 .eff]))) .none)))))) (.seq .none .none)))))
theorem T14_ok : chkFn prog Tryz.f14 T14 = true := by kernel_rfl
def B14 (blocks_p0 : Value) (w : World) (K : Value → World → Prop) : Prop :=
  pvv prog (binOp .lss 3 blocks_p0 (.int .i64 1)) w fun t_0 w =>
  gate (some (t_0, false)) (fun K => K blocks_p0 w) w fun t_1 w =>
  gate (some (t_0, false)) (fun K => pvv prog (binOp .gtr 3 t_1 (.int .i64 1024)) w K) w fun t_2 w =>
  pv prog (oPick t_0 (.bool true) t_2) w fun t_3 w =>
  cd t_3 (
    K (.tuple #[(.pointer none), (.int .i64 2)]) w) <|
  efv prog (Instr.makeSlice 36 blocks_p0 blocks_p0) w fun t_4 w =>
  pvv prog (Instr.build 107 #[(0, t_4)]) w fun t_5 w =>
  efv prog (Instr.box 107 t_5) w fun t_6 w =>
  pv prog (oNil t_6) w fun t_7 w =>
  pvv prog (Instr.fieldAt 107 t_7 0) w fun t_8 w =>
  ldv prog (Instr.loadAt 36 t_8) w fun t_9 w =>
  pv prog (oBi .len #[36] 3 #[false] #[t_9]) w fun t_10 w =>
  lp (fun σ w again_12 => pop σ fun t_11 σ => fin σ <|
    pvv prog (binOp .lss 3 t_11 t_10) w fun t_13 w =>
    cd t_13 (
      dr w fun w =>
      pv prog (oNil t_6) w fun t_14 w =>
      pvv prog (Instr.fieldAt 107 t_14 0) w fun t_15 w =>
      bindS (vN (Instr.loadAt 36 t_15)) fun m_17 => ldv prog (Instr.loadAt 36 t_15) w fun t_16 w =>
      efv prog (Instr.makeSlice 22 (.int .i64 256) (.int .i64 256)) w fun t_18 w => stay prog none m_17 t_16 w <| 
      pvv prog (Instr.indexAt 36 t_16 t_11) w fun t_19 w =>
      efu prog (Instr.storeAt 22 t_19 t_18) w fun u_20 w =>
      pvv prog (binOp .add 3 t_11 (.int .i64 1)) w fun t_21 w =>
      again_12 [t_21] w) <|
    K (.tuple #[t_6, (.int .i64 0)]) w) [(.int .i64 0)] w
theorem B14_eq (blocks_p0 : Value) (w : World) (K : Value → World → Prop) : denFn prog Tryz.f14 T14 [blocks_p0] w K = B14 blocks_p0 w K := by kernel_rfl
theorem c14 {blocks_p0 : Value} {w : World} {K : Value → World → Prop} (h : B14 blocks_p0 w K) : Calls prog 14 #[blocks_p0] w (Ret K) :=
  denFn_calls Tryz.func14 T14_ok (Eq.mpr (B14_eq blocks_p0 w K) h)

-- 121 holdfast/tree.text
def T121 : Ann := (.seq .none (.seq (.seq .none (.seq (.seq .none .none) .none)) (.seq .none (.seq (.draw [.op 0 .pure, .op 1 .pure, .op 2 .pure, .op 3 .pure, .op 4 .pure, .op 5 .pure, .op 6 .pure, .op 7 .pure, .op 8 .pure, .op 9 .pure]) .none))))
theorem T121_ok : chkFn prog Tryz.f121 T121 = true := by kernel_rfl
def B121 (b_p0 : Value) (w : World) (K : Value → World → Prop) : Prop :=
  pv prog (oBi .len #[22] 3 #[false] #[b_p0]) w fun t_0 w =>
  pvv prog (oEq .eql 3 (.tmp 7) (.const (.int .i64 0)) t_0 (.int .i64 0)) w fun t_1 w =>
  gate (some (t_1, false)) (fun K => K b_p0 w) w fun t_2 w =>
  gate (some (t_1, false)) (fun K => pvv prog (Instr.indexAt 22 t_2 (.int .i64 0)) w K) w fun t_3 w =>
  gate (some (t_1, false)) (fun K => ldv prog (Instr.loadAt 5 t_3) w K) w fun t_4 w =>
  gate (some (t_1, false)) (fun K => pvv prog (convert 5 3 t_4) w K) w fun t_5 w =>
  gate (some (t_1, false)) (fun K => K b_p0 w) w fun t_6 w =>
  gate (some (t_1, false)) (fun K => pv prog (oBi .len #[22] 3 #[false] #[t_6]) w K) w fun t_7 w =>
  gate (some (t_1, false)) (fun K => pvv prog (binOp .geq 3 t_5 t_7) w K) w fun t_8 w =>
  pv prog (oPick t_1 (.bool true) t_8) w fun t_9 w =>
  cd t_9 (
    K (.tuple #[(.slice none 0 0), (.slice none 0 0), (.bool false)]) w) <|
  pvv prog (Instr.indexAt 22 b_p0 (.int .i64 0)) w fun t_10 w =>
  ldv prog (Instr.loadAt 5 t_10) w fun t_11 w =>
  pvv prog (convert 5 3 t_11) w fun t_12 w =>
  pvv prog (binOp .add 3 t_12 (.int .i64 1)) w fun t_13 w =>
  dr w fun w =>
  pvv prog (Instr.sliceAt 22 b_p0 (some (.int .i64 1)) (some t_13) (some t_13)) w fun t_14 w =>
  pvv prog (Instr.sliceAt 22 b_p0 (some t_13) none none) w fun t_15 w =>
  K (.tuple #[t_14, t_15, (.bool true)]) w
theorem B121_eq (b_p0 : Value) (w : World) (K : Value → World → Prop) : denFn prog Tryz.f121 T121 [b_p0] w K = B121 b_p0 w K := by kernel_rfl
theorem c121 {b_p0 : Value} {w : World} {K : Value → World → Prop} (h : B121 b_p0 w K) : Calls prog 121 #[b_p0] w (Ret K) :=
  denFn_calls Tryz.func121 T121_ok (Eq.mpr (B121_eq b_p0 w K) h)

-- 41 (*holdfast/block.Disk).Read
def T41 : Ann := (.seq .none (.seq (.block (.seq .none (.seq (.seq .none .none) (.seq .none (.seq (.seq .none .none) .none))))) (.seq .none .none)))
theorem T41_ok : chkFn prog Tryz.f41 T41 = true := by kernel_rfl
def B41 (d_p0 n_p1 : Value) (w : World) (K : Value → World → Prop) : Prop :=
  pvv prog (oEq .eql 49 (.tmp 7) (.const (.pointer none)) d_p0 (.pointer none)) w fun t_0 w =>
  cd t_0 (
    K (.tuple #[(.slice none 0 0), (.int .i64 1)]) w) <|
  pvv prog (binOp .lss 3 n_p1 (.int .i64 0)) w fun t_1 w =>
  gate (some (t_1, false)) (fun K => K n_p1 w) w fun t_2 w =>
  gate (some (t_1, false)) (fun K => K d_p0 w) w fun t_3 w =>
  gate (some (t_1, false)) (fun K => pv prog (oNil t_3) w K) w fun t_4 w =>
  gate (some (t_1, false)) (fun K => pvv prog (Instr.fieldAt 107 t_4 0) w K) w fun t_5 w =>
  gate (some (t_1, false)) (fun K => ldv prog (Instr.loadAt 36 t_5) w K) w fun t_6 w =>
  gate (some (t_1, false)) (fun K => pv prog (oBi .len #[36] 3 #[false] #[t_6]) w K) w fun t_7 w =>
  gate (some (t_1, false)) (fun K => pvv prog (binOp .geq 3 t_2 t_7) w K) w fun t_8 w =>
  pv prog (oPick t_1 (.bool true) t_8) w fun t_9 w =>
  cd t_9 (
    K (.tuple #[(.slice none 0 0), (.int .i64 2)]) w) <|
  pv prog (oNil d_p0) w fun t_10 w =>
  pvv prog (Instr.fieldAt 107 t_10 0) w fun t_11 w =>
  ldv prog (Instr.loadAt 36 t_11) w fun t_12 w =>
  pvv prog (Instr.indexAt 36 t_12 n_p1) w fun t_13 w =>
  ldv prog (Instr.loadAt 22 t_13) w fun t_14 w =>
  Calls prog 35 #[t_14] w (Ret fun t_15 w =>
  K (.tuple #[t_15, (.int .i64 0)]) w)
theorem B41_eq (d_p0 n_p1 : Value) (w : World) (K : Value → World → Prop) : denFn prog Tryz.f41 T41 [d_p0, n_p1] w K = B41 d_p0 n_p1 w K := by kernel_rfl
theorem c41 {d_p0 n_p1 : Value} {w : World} {K : Value → World → Prop} (h : B41 d_p0 n_p1 w K) : Calls prog 41 #[d_p0, n_p1] w (Ret K) :=
  denFn_calls Tryz.func41 T41_ok (Eq.mpr (B41_eq d_p0 n_p1 w K) h)

-- 6 (*holdfast/tree.Tree).Put
def T6 : Ann := (.seq .none (.seq (.block (.seq .none (.seq (.seq .none .none) (.seq .none (.seq (.seq .none .none) .none))))) (.seq .none .none)))
theorem T6_ok : chkFn prog Tryz.f6 T6 = true := by kernel_rfl
def B6 (t_p0 key_p1 value_p2 : Value) (w : World) (K : Value → World → Prop) : Prop :=
  efv prog (Instr.box 22 key_p1) w fun key_0 w =>
  efv prog (Instr.box 22 value_p2) w fun value_1 w =>
  pvv prog (oEq .eql 23 (.tmp 8) (.const (.pointer none)) t_p0 (.pointer none)) w fun t_2 w =>
  cd t_2 (
    K (.int .i64 1) w) <|
  ldv prog (Instr.loadAt 22 key_0) w fun t_3 w =>
  Calls prog 18 #[t_3] w (Ret fun t_4 w =>
  pvv prog (Op.unary .not t_4) w fun t_5 w =>
  gate (some (t_5, false)) (fun K => ldv prog (Instr.loadAt 22 value_1) w K) w fun t_6 w =>
  gate (some (t_5, false)) (fun K => pv prog (oBi .len #[22] 3 #[false] #[t_6]) w K) w fun t_7 w =>
  gate (some (t_5, false)) (fun K => pvv prog (binOp .gtr 3 t_7 (.int .i64 72)) w K) w fun t_8 w =>
  pv prog (oPick t_5 (.bool true) t_8) w fun t_9 w =>
  cd t_9 (
    K (.int .i64 6) w) <|
  ldv prog (Instr.loadAt 22 key_0) w fun t_10 w =>
  pvv prog (Instr.makeFunc (.func 20) #[] #[key_0, value_1]) w fun t_11 w =>
  Calls prog 19 #[t_p0, t_10, t_11] w (Ret fun t_12 w =>
  K t_12 w))
theorem B6_eq (t_p0 key_p1 value_p2 : Value) (w : World) (K : Value → World → Prop) : denFn prog Tryz.f6 T6 [t_p0, key_p1, value_p2] w K = B6 t_p0 key_p1 value_p2 w K := by kernel_rfl
theorem c6 {t_p0 key_p1 value_p2 : Value} {w : World} {K : Value → World → Prop} (h : B6 t_p0 key_p1 value_p2 w K) : Calls prog 6 #[t_p0, key_p1, value_p2] w (Ret K) :=
  denFn_calls Tryz.func6 T6_ok (Eq.mpr (B6_eq t_p0 key_p1 value_p2 w K) h)

-- 119 slices.startIdx[holdfast/tree.entry]
def T32 : Ann := (.seq .none (.seq .none (.seq (.seq .none (.seq (.seq .none .none) .none)) (.seq .none (.seq (.draw [.op 0 .pure, .op 1 .pure, .op 2 .pure, .op 3 .pure, .op 4 .pure, .op 5 .pure, .op 6 .eff, .op 7 .pure]) (.seq .none (.seq .none .none)))))))
theorem T32_ok : chkFn prog Tryz.f32 T32 = true := by kernel_rfl
def B32 (s_p0 i_p1 j_p2 : Value) (w : World) (K : Value → World → Prop) : Prop :=
  pv prog (oBi .len #[61] 3 #[false] #[s_p0]) w fun t_0 w =>
  pvv prog (Instr.sliceAt 61 s_p0 (some i_p1) (some j_p2) (some t_0)) w fun t_1 w =>
  pvv prog (oEq .eql 3 (.tmp 14) (.tmp 15) i_p1 j_p2) w fun t_2 w =>
  cd t_2 (
    K s_p0 w) <|
  pv prog (oBi .len #[61] 3 #[false] #[s_p0]) w fun t_3 w =>
  dr w fun w =>
  pvv prog (Instr.sliceAt 61 s_p0 none (some i_p1) none) w fun t_4 w =>
  pvv prog (Instr.sliceAt 61 s_p0 (some j_p2) none none) w fun t_5 w =>
  ef prog (oBi .append #[61, 61] 61 #[false, false] #[t_4, t_5]) w fun t_6 w =>
  pv prog (oBi .len #[61] 3 #[false] #[t_6]) w fun t_7 w =>
  pvv prog (Instr.sliceAt 61 t_6 (some t_7) (some t_3) none) w fun t_8 w =>
  ef prog (oBi .clear #[61] 0 #[false] #[t_8]) w fun u_9 w =>
  K t_6 w
theorem B32_eq (s_p0 i_p1 j_p2 : Value) (w : World) (K : Value → World → Prop) : denFn prog Tryz.f32 T32 [s_p0, i_p1, j_p2] w K = B32 s_p0 i_p1 j_p2 w K := by kernel_rfl
theorem c32 {s_p0 i_p1 j_p2 : Value} {w : World} {K : Value → World → Prop} (h : B32 s_p0 i_p1 j_p2 w K) : Calls prog 32 #[s_p0, i_p1, j_p2] w (Ret K) :=
  denFn_calls Tryz.func32 T32_ok (Eq.mpr (B32_eq s_p0 i_p1 j_p2 w K) h)

-- 28 (*holdfast/wal.Log).Pages
def T28 : Ann := (.seq .none (.seq (.seq .none (.seq (.seq .none .none) .none)) (.seq (.draw [.op 0 .pure, .op 1 .pure, .op 2 .pure, .op 3 .pure, .op 6 .pure, .op 7 .pure, .op 8 .pure, .op 4 .load, .op 9 .load, .op 5 .eff, .op 10 .pure, .op 11 .pure, .op 12 .pure]) .none)))
theorem T28_ok : chkFn prog Tryz.f28 T28 = true := by kernel_rfl
def B28 (l_p0 : Value) (w : World) (K : Value → World → Prop) : Prop :=
  pvv prog (oEq .eql 52 (.tmp 3) (.const (.pointer none)) l_p0 (.pointer none)) w fun t_0 w =>
  cd t_0 (
    K (.int .i64 0) w) <|
  dr w fun w =>
  pv prog (oNil l_p0) w fun t_1 w =>
  pvv prog (Instr.fieldAt 114 t_1 0) w fun t_2 w =>
  pvv prog (Instr.fieldAt 111 t_2 0) w fun t_3 w =>
  pv prog (oNil l_p0) w fun t_4 w =>
  pvv prog (Instr.fieldAt 114 t_4 1) w fun t_5 w =>
  bindS (vN (Instr.loadAt 49 t_3)) fun m_7 => ldv prog (Instr.loadAt 49 t_3) w fun t_6 w =>
  bindS (vN (Instr.loadAt 3 t_5)) fun m_9 => ldv prog (Instr.loadAt 3 t_5) w fun t_8 w =>
  Calls prog 38 #[t_6] w (Ret fun t_10 w => stay prog none m_9 t_8 w <| 
  pvv prog (binOp .sub 3 t_10 t_8) w fun t_11 w =>
  pvv prog (binOp .sub 3 t_11 (.int .i64 1)) w fun t_12 w =>
  K t_12 w)
theorem B28_eq (l_p0 : Value) (w : World) (K : Value → World → Prop) : denFn prog Tryz.f28 T28 [l_p0] w K = B28 l_p0 w K := by kernel_rfl
theorem c28 {l_p0 : Value} {w : World} {K : Value → World → Prop} (h : B28 l_p0 w K) : Calls prog 28 #[l_p0] w (Ret K) :=
  denFn_calls Tryz.func28 T28_ok (Eq.mpr (B28_eq l_p0 w K) h)

-- 39 holdfast/block.Load
def T39 : Ann := (.seq .none (.seq (.block (.seq .none (.seq (.seq .none .none) (.seq .none (.seq (.seq .none .none) .none))))) (.seq .none .none)))
theorem T39_ok : chkFn prog Tryz.f39 T39 = true := by kernel_rfl
def B39 (image_p0 : Value) (w : World) (K : Value → World → Prop) : Prop :=
  pv prog (oBi .len #[36] 3 #[false] #[image_p0]) w fun t_0 w =>
  pvv prog (binOp .lss 3 t_0 (.int .i64 1)) w fun t_1 w =>
  gate (some (t_1, false)) (fun K => K image_p0 w) w fun t_2 w =>
  gate (some (t_1, false)) (fun K => pv prog (oBi .len #[36] 3 #[false] #[t_2]) w K) w fun t_3 w =>
  gate (some (t_1, false)) (fun K => pvv prog (binOp .gtr 3 t_3 (.int .i64 1024)) w K) w fun t_4 w =>
  pv prog (oPick t_1 (.bool true) t_4) w fun t_5 w =>
  cd t_5 (
    K (.tuple #[(.pointer none), (.int .i64 2)]) w) <|
  Calls prog 71 #[image_p0, (.func (.func 72) #[] #[])] w (Ret fun t_6 w =>
  cd t_6 (
    K (.tuple #[(.pointer none), (.int .i64 3)]) w) <|
  Calls prog 73 #[image_p0] w (Ret fun t_7 w =>
  pvv prog (Instr.build 107 #[(0, t_7)]) w fun t_8 w =>
  efv prog (Instr.box 107 t_8) w fun t_9 w =>
  K (.tuple #[t_9, (.int .i64 0)]) w))
theorem B39_eq (image_p0 : Value) (w : World) (K : Value → World → Prop) : denFn prog Tryz.f39 T39 [image_p0] w K = B39 image_p0 w K := by kernel_rfl
theorem c39 {image_p0 : Value} {w : World} {K : Value → World → Prop} (h : B39 image_p0 w K) : Calls prog 39 #[image_p0] w (Ret K) :=
  denFn_calls Tryz.func39 T39_ok (Eq.mpr (B39_eq image_p0 w K) h)

-- 124 slices.IndexFunc[[]holdfast/api.Page,holdfast/api.Page]
def T124 : Ann := (.seq .none (.seq (.seq .none (.block (.loop 524080 [8] (.seq .none (.seq (.seq .none .none) (.seq (.block (.seq .none (.seq .none (.seq (.seq .none .none) .none)))) .none)))))) (.seq .none .none)))
theorem T124_ok : chkFn prog Tryz.f124 T124 = true := by kernel_rfl
def B124 (s_p0 f_p1 : Value) (w : World) (K : Value → World → Prop) : Prop :=
  pv prog (oBi .len #[134] 3 #[false] #[s_p0]) w fun t_0 w =>
  lp (fun σ w again_2 => pop σ fun t_1 σ => fin σ <|
    pvv prog (binOp .lss 3 t_1 t_0) w fun t_3 w =>
    cd t_3 (
      pvv prog (Instr.indexAt 134 s_p0 t_1) w fun t_4 w =>
      ldv prog (Instr.loadAt 136 t_4) w fun t_5 w =>
      ef prog (oCall f_p1 #[t_5]) w fun t_6 w =>
      cd t_6 (
        K t_1 w) <|
      pvv prog (binOp .add 3 t_1 (.int .i64 1)) w fun t_7 w =>
      again_2 [t_7] w) <|
    K (.int .i64 (-1)) w) [(.int .i64 0)] w
theorem B124_eq (s_p0 f_p1 : Value) (w : World) (K : Value → World → Prop) : denFn prog Tryz.f124 T124 [s_p0, f_p1] w K = B124 s_p0 f_p1 w K := by kernel_rfl
theorem c124 {s_p0 f_p1 : Value} {w : World} {K : Value → World → Prop} (h : B124 s_p0 f_p1 w K) : Calls prog 124 #[s_p0, f_p1] w (Ret K) :=
  denFn_calls Tryz.func124 T124_ok (Eq.mpr (B124_eq s_p0 f_p1 w K) h)

-- 117 maps.Keys[map[int][]byte,int,[]byte]$1
def T117 : Ann := (.seq .none (.block (.loop 16328 [] (.seq .none (.seq (.seq .none .none) (.block (.seq .none (.seq .none (.seq .none .none)))))))))
theorem T117_ok : chkFn prog Tryz.f117 T117 = true := by kernel_rfl
def B117 (yield_p0 x_p1 : Value) (w : World) (K : Value → World → Prop) : Prop :=
  ldv prog (Instr.loadAt 117 x_p1) w fun t_0 w =>
  efv prog (Instr.range 117 t_0) w fun t_1 w =>
  lp (fun σ w again_2 => fin σ <|
    efv prog (Instr.next t_1 false 0) w fun t_3 w =>
    pvv prog (Instr.extract t_3 0) w fun t_4 w =>
    cd t_4 (
      efv prog (Instr.entry t_1) w fun t_5 w =>
      pvv prog (Instr.extract t_5 0) w fun t_6 w =>
      ef prog (oCall yield_p0 #[t_6]) w fun t_7 w =>
      pvv prog (Op.unary .not t_7) w fun t_8 w =>
      cd t_8 (
        K (.tuple #[]) w) <|
      again_2 [] w) <|
    K (.tuple #[]) w) [] w
theorem B117_eq (yield_p0 x_p1 : Value) (w : World) (K : Value → World → Prop) : denFn prog Tryz.f117 T117 [yield_p0, x_p1] w K = B117 yield_p0 x_p1 w K := by kernel_rfl
theorem c117 {yield_p0 x_p1 : Value} {w : World} {K : Value → World → Prop} (h : B117 yield_p0 x_p1 w K) : Calls prog 117 #[yield_p0, x_p1] w (Ret K) :=
  denFn_calls Tryz.func117 T117_ok (Eq.mpr (B117_eq yield_p0 x_p1 w K) h)

-- 115 slices.IndexFunc[[]byte,byte]
def T115 : Ann := (.seq .none (.seq (.seq .none (.block (.loop 524080 [8] (.seq .none (.seq (.seq .none .none) (.seq (.block (.seq .none (.seq .none (.seq (.seq .none .none) .none)))) .none)))))) (.seq .none .none)))
theorem T115_ok : chkFn prog Tryz.f115 T115 = true := by kernel_rfl
def B115 (s_p0 f_p1 : Value) (w : World) (K : Value → World → Prop) : Prop :=
  pv prog (oBi .len #[22] 3 #[false] #[s_p0]) w fun t_0 w =>
  lp (fun σ w again_2 => pop σ fun t_1 σ => fin σ <|
    pvv prog (binOp .lss 3 t_1 t_0) w fun t_3 w =>
    cd t_3 (
      pvv prog (Instr.indexAt 22 s_p0 t_1) w fun t_4 w =>
      ldv prog (Instr.loadAt 5 t_4) w fun t_5 w =>
      ef prog (oCall f_p1 #[t_5]) w fun t_6 w =>
      cd t_6 (
        K t_1 w) <|
      pvv prog (binOp .add 3 t_1 (.int .i64 1)) w fun t_7 w =>
      again_2 [t_7] w) <|
    K (.int .i64 (-1)) w) [(.int .i64 0)] w
theorem B115_eq (s_p0 f_p1 : Value) (w : World) (K : Value → World → Prop) : denFn prog Tryz.f115 T115 [s_p0, f_p1] w K = B115 s_p0 f_p1 w K := by kernel_rfl
theorem c115 {s_p0 f_p1 : Value} {w : World} {K : Value → World → Prop} (h : B115 s_p0 f_p1 w K) : Calls prog 115 #[s_p0, f_p1] w (Ret K) :=
  denFn_calls Tryz.func115 T115_ok (Eq.mpr (B115_eq s_p0 f_p1 w K) h)

-- 44 holdfast/wal.two
def T44 : Ann := (.seq .none (.seq (.draw [.op 0 .pure, .op 1 .pure, .op 5 .pure, .op 6 .pure, .op 2 .load, .op 3 .pure, .op 4 .pure, .op 7 .load, .op 8 .pure, .op 9 .pure, .op 10 .pure]) .none))
theorem T44_ok : chkFn prog Tryz.f44 T44 = true := by kernel_rfl
def B44 (b_p0 : Value) (w : World) (K : Value → World → Prop) : Prop :=
  dr w fun w =>
  pvv prog (Instr.indexAt 22 b_p0 (.int .i64 0)) w fun t_0 w =>
  pvv prog (Instr.indexAt 22 b_p0 (.int .i64 1)) w fun t_1 w =>
  bindS (vN (Instr.loadAt 5 t_0)) fun m_3 => ldv prog (Instr.loadAt 5 t_0) w fun t_2 w =>
  pvv prog (convert 5 3 t_2) w fun t_4 w =>
  pvv prog (binOp .shl 3 t_4 (.int .u64 8)) w fun t_5 w =>
  bindS (vN (Instr.loadAt 5 t_1)) fun m_7 => ldv prog (Instr.loadAt 5 t_1) w fun t_6 w =>
  pvv prog (convert 5 3 t_6) w fun t_8 w =>
  pvv prog (binOp .or 3 t_5 t_8) w fun t_9 w =>
  K t_9 w
theorem B44_eq (b_p0 : Value) (w : World) (K : Value → World → Prop) : denFn prog Tryz.f44 T44 [b_p0] w K = B44 b_p0 w K := by kernel_rfl
theorem c44 {b_p0 : Value} {w : World} {K : Value → World → Prop} (h : B44 b_p0 w K) : Calls prog 44 #[b_p0] w (Ret K) :=
  denFn_calls Tryz.func44 T44_ok (Eq.mpr (B44_eq b_p0 w K) h)

-- 96 (*holdfast/wal.Log).Touched
def T96 : Ann := (.seq .none (.seq (.seq .none (.seq (.seq .none .none) .none)) (.seq .none .none)))
theorem T96_ok : chkFn prog Tryz.f96 T96 = true := by kernel_rfl
def B96 (l_p0 : Value) (w : World) (K : Value → World → Prop) : Prop :=
  pvv prog (oEq .eql 52 (.tmp 3) (.const (.pointer none)) l_p0 (.pointer none)) w fun t_0 w =>
  cd t_0 (
    K (.slice none 0 0) w) <|
  pv prog (oNil l_p0) w fun t_1 w =>
  pvv prog (Instr.fieldAt 114 t_1 4) w fun t_2 w =>
  ldv prog (Instr.loadAt 112 t_2) w fun t_3 w =>
  Calls prog 125 #[t_3] w (Ret fun t_4 w =>
  Calls prog 76 #[t_4] w (Ret fun t_5 w =>
  K t_5 w))
theorem B96_eq (l_p0 : Value) (w : World) (K : Value → World → Prop) : denFn prog Tryz.f96 T96 [l_p0] w K = B96 l_p0 w K := by kernel_rfl
theorem c96 {l_p0 : Value} {w : World} {K : Value → World → Prop} (h : B96 l_p0 w K) : Calls prog 96 #[l_p0] w (Ret K) :=
  denFn_calls Tryz.func96 T96_ok (Eq.mpr (B96_eq l_p0 w K) h)

-- 102 (*holdfast/pager.Pager).use$1
def T102 : Ann := (.seq .none (.seq .none .none))
theorem T102_ok : chkFn prog Tryz.f102 T102 = true := by kernel_rfl
def B102 (k_p0 x_p1 : Value) (w : World) (K : Value → World → Prop) : Prop :=
  ldv prog (Instr.loadAt 55 x_p1) w fun t_0 w =>
  pv prog (oNil t_0) w fun t_1 w =>
  pvv prog (Instr.fieldAt 119 t_1 5) w fun t_2 w =>
  ldv prog (Instr.loadAt 76 t_2) w fun t_3 w =>
  ldv prog (Instr.lookup 76 t_3 k_p0 false) w fun t_4 w =>
  pvv prog (Op.unary .not t_4) w fun t_5 w =>
  K t_5 w
theorem B102_eq (k_p0 x_p1 : Value) (w : World) (K : Value → World → Prop) : denFn prog Tryz.f102 T102 [k_p0, x_p1] w K = B102 k_p0 x_p1 w K := by kernel_rfl
theorem c102 {k_p0 x_p1 : Value} {w : World} {K : Value → World → Prop} (h : B102 k_p0 x_p1 w K) : Calls prog 102 #[k_p0, x_p1] w (Ret K) :=
  denFn_calls Tryz.func102 T102_ok (Eq.mpr (B102_eq k_p0 x_p1 w K) h)

-- 27 (*holdfast/pager.Pager).Log
def T27 : Ann := (.seq .none (.seq (.seq .none (.seq (.seq .none .none) .none)) (.seq .none .none)))
theorem T27_ok : chkFn prog Tryz.f27 T27 = true := by kernel_rfl
def B27 (p_p0 : Value) (w : World) (K : Value → World → Prop) : Prop :=
  pvv prog (oEq .eql 55 (.tmp 3) (.const (.pointer none)) p_p0 (.pointer none)) w fun t_0 w =>
  cd t_0 (
    K (.pointer none) w) <|
  pv prog (oNil p_p0) w fun t_1 w =>
  pvv prog (Instr.fieldAt 119 t_1 0) w fun t_2 w =>
  ldv prog (Instr.loadAt 52 t_2) w fun t_3 w =>
  K t_3 w
theorem B27_eq (p_p0 : Value) (w : World) (K : Value → World → Prop) : denFn prog Tryz.f27 T27 [p_p0] w K = B27 p_p0 w K := by kernel_rfl
theorem c27 {p_p0 : Value} {w : World} {K : Value → World → Prop} (h : B27 p_p0 w K) : Calls prog 27 #[p_p0] w (Ret K) :=
  denFn_calls Tryz.func27 T27_ok (Eq.mpr (B27_eq p_p0 w K) h)

-- 56 (holdfast/tree.node).find$1
def T56 : Ann := (.seq .none (.seq .none .none))
theorem T56_ok : chkFn prog Tryz.f56 T56 = true := by kernel_rfl
def B56 (e_p0 k_p1 : Value) (w : World) (K : Value → World → Prop) : Prop :=
  efv prog (Instr.box 67 e_p0) w fun e_0 w =>
  pvv prog (Instr.fieldAt 67 e_0 0) w fun t_1 w =>
  ldv prog (Instr.loadAt 22 t_1) w fun t_2 w =>
  Calls prog 37 #[t_2, k_p1] w (Ret fun t_3 w =>
  K t_3 w)
theorem B56_eq (e_p0 k_p1 : Value) (w : World) (K : Value → World → Prop) : denFn prog Tryz.f56 T56 [e_p0, k_p1] w K = B56 e_p0 k_p1 w K := by kernel_rfl
theorem c56 {e_p0 k_p1 : Value} {w : World} {K : Value → World → Prop} (h : B56 e_p0 k_p1 w K) : Calls prog 56 #[e_p0, k_p1] w (Ret K) :=
  denFn_calls Tryz.func56 T56_ok (Eq.mpr (B56_eq e_p0 k_p1 w K) h)

-- 129 (*holdfast/pager.Pager).drop$1
def T129 : Ann := (.seq .none (.seq .none .none))
theorem T129_ok : chkFn prog Tryz.f129 T129 = true := by kernel_rfl
def B129 (k_p0 x_p1 : Value) (w : World) (K : Value → World → Prop) : Prop :=
  ldv prog (Instr.loadAt 3 x_p1) w fun t_0 w =>
  pvv prog (oEq .eql 3 (.tmp 4) (.tmp 5) k_p0 t_0) w fun t_1 w =>
  K t_1 w
theorem B129_eq (k_p0 x_p1 : Value) (w : World) (K : Value → World → Prop) : denFn prog Tryz.f129 T129 [k_p0, x_p1] w K = B129 k_p0 x_p1 w K := by kernel_rfl
theorem c129 {k_p0 x_p1 : Value} {w : World} {K : Value → World → Prop} (h : B129 k_p0 x_p1 w K) : Calls prog 129 #[k_p0, x_p1] w (Ret K) :=
  denFn_calls Tryz.func129 T129_ok (Eq.mpr (B129_eq k_p0 x_p1 w K) h)

-- 125 maps.Keys[map[int]int,int,int]
def T125 : Ann := (.seq .none (.seq .none .none))
theorem T125_ok : chkFn prog Tryz.f125 T125 = true := by kernel_rfl
def B125 (m_p0 : Value) (w : World) (K : Value → World → Prop) : Prop :=
  efv prog (Instr.box 112 m_p0) w fun m_0 w =>
  pvv prog (Instr.makeFunc (.func 138) #[] #[m_0]) w fun t_1 w =>
  K t_1 w
theorem B125_eq (m_p0 : Value) (w : World) (K : Value → World → Prop) : denFn prog Tryz.f125 T125 [m_p0] w K = B125 m_p0 w K := by kernel_rfl
theorem c125 {m_p0 : Value} {w : World} {K : Value → World → Prop} (h : B125 m_p0 w K) : Calls prog 125 #[m_p0] w (Ret K) :=
  denFn_calls Tryz.func125 T125_ok (Eq.mpr (B125_eq m_p0 w K) h)

-- 77 maps.Keys[map[int][]byte,int,[]byte]
def T77 : Ann := (.seq .none (.seq .none .none))
theorem T77_ok : chkFn prog Tryz.f77 T77 = true := by kernel_rfl
def B77 (m_p0 : Value) (w : World) (K : Value → World → Prop) : Prop :=
  efv prog (Instr.box 117 m_p0) w fun m_0 w =>
  pvv prog (Instr.makeFunc (.func 117) #[] #[m_0]) w fun t_1 w =>
  K t_1 w
theorem B77_eq (m_p0 : Value) (w : World) (K : Value → World → Prop) : denFn prog Tryz.f77 T77 [m_p0] w K = B77 m_p0 w K := by kernel_rfl
theorem c77 {m_p0 : Value} {w : World} {K : Value → World → Prop} (h : B77 m_p0 w K) : Calls prog 77 #[m_p0] w (Ret K) :=
  denFn_calls Tryz.func77 T77_ok (Eq.mpr (B77_eq m_p0 w K) h)

-- 122 slices.isNaN[int]
end Go.Proofs.YtfaeklinhchidaaGreat
