import Derived.Test.YtmnaalpjhkkglaaGreatDoorPI
set_option linter.all false
set_option maxRecDepth 100000
namespace Go.Proofs.YtmnaalpjhkkglaaGreatDoor
open Go Hold
-- 103 internal/strconv.ParseUint
def T103 : Ann := (.seq .none (.seq (.seq .none (.seq (.seq .none .none) .none)) (.seq .none (.seq .none (.meet 75557863725914306642115 [0, 1] (.block (.seq .none (.seq .none (.seq .none (.seq (.seq .none (.seq .none (.seq (.block (.seq .none (.seq (.seq .none .none) (.seq .none (.seq (.seq .none .none) (.seq .none (.seq (.seq .none .none) (.seq .none .none)))))))) .none))) (.seq .none .none)))))) (.meet 38610068363942219267178692 [2] (.seq .none (.seq .none (.seq .none (.seq (.seq .none .none) .none)))) (.seq .none (.meet 19768355002338416264795390976 [10] (.seq .none (.block (.seq .none (.seq .none (.seq .none (.seq .none .none)))))) (.seq .none (.seq .none (.seq .none (.seq (.seq .none (.block (.loop 23384026197294446688723656123004069511501514518720 [12, 13, 101] (.seq .none (.seq (.seq .none .none) (.meet 11692013098647223335488273859904428945273834942656 [12, 13] (.block (.seq .none (.seq .none (.meet 21778071442375242454352634027738663030976 [12, 16] (.block (.seq .none (.seq (.seq .none .none) (.seq .none (.seq .none (.seq .none (.seq .none (.seq .none .none)))))))) (.seq (.seq .none (.seq (.seq .none .none) .none)) (.seq (.seq .none (.seq (.seq .none .none) .none)) (.seq .none (.seq .none (.seq (.seq .none (.seq (.seq .none .none) .none)) .none))))))))) .none)))))) (.seq (.seq .none (.seq (.seq .none .none) .none)) (.seq .none .none))))))))))))))
theorem T103_ok : chkFn prog Tryz.f103 T103 = true := by kernel_rfl
def B103 (s_p0 base_p1 bitSize_p2 : Value) (w : World) (K : Value → World → Prop) : Prop :=
  pvv prog (oEq .eql 9 (.tmp 18) (.const (.string ⟨#[]⟩)) s_p0 (.string ⟨#[]⟩)) w fun t_0 w =>
  cd t_0 (
    pvv prog (Instr.makeInterface 203 (.int .i64 2)) w fun t_1 w =>
    K (.tuple #[(.int .u64 0), t_1]) w) <|
  pvv prog (oEq .eql 3 (.tmp 21) (.const (.int .i64 0)) base_p1 (.int .i64 0)) w fun t_2 w =>
  jn (fun σ w => pop σ fun s_3 σ => pop σ fun base_4 σ => fin σ <|
    jn (fun σ w => pop σ fun bitSize_5 σ => fin σ <|
      jn (fun σ w => pop σ fun cutoff_6 σ => fin σ <|
        pvv prog (convert 3 80 bitSize_5) w fun t_7 w =>
        pvv prog (binOp .shl 79 (.int .u64 1) t_7) w fun t_8 w =>
        pvv prog (binOp .sub 79 t_8 (.int .u64 1)) w fun t_9 w =>
        efv prog (convert 9 22 s_3) w fun t_10 w =>
        pv prog (oBi .len #[22] 3 #[false] #[t_10]) w fun t_11 w =>
        lp (fun σ w again_15 => pop σ fun underscores_12 σ => pop σ fun n_13 σ => pop σ fun t_14 σ => fin σ <|
          pvv prog (binOp .lss 3 t_14 t_11) w fun t_16 w =>
          cd t_16 (
            jn (fun σ w => pop σ fun underscores_17 σ => pop σ fun n_18 σ => fin σ <|
              pvv prog (binOp .add 3 t_14 (.int .i64 1)) w fun t_19 w =>
              again_15 [underscores_17, n_18, t_19] w) fun k_20 =>
            pvv prog (Instr.indexAt 22 t_10 t_14) w fun t_21 w =>
            ldv prog (Instr.loadAt 5 t_21) w fun t_22 w =>
            jn (fun σ w => pop σ fun underscores_23 σ => pop σ fun d_24 σ => fin σ <|
              pvv prog (convert 3 5 base_4) w fun t_25 w =>
              pvv prog (binOp .geq 5 d_24 t_25) w fun t_26 w =>
              cd t_26 (
                pvv prog (Instr.makeInterface 203 (.int .i64 2)) w fun t_27 w =>
                K (.tuple #[(.int .u64 0), t_27]) w) <|
              pvv prog (binOp .geq 79 n_13 cutoff_6) w fun t_28 w =>
              cd t_28 (
                pvv prog (Instr.makeInterface 203 (.int .i64 1)) w fun t_29 w =>
                K (.tuple #[t_9, t_29]) w) <|
              pvv prog (convert 3 79 base_4) w fun t_30 w =>
              pvv prog (binOp .mul 79 n_13 t_30) w fun t_31 w =>
              pvv prog (convert 5 79 d_24) w fun t_32 w =>
              pvv prog (binOp .add 79 t_31 t_32) w fun t_33 w =>
              pvv prog (binOp .lss 79 t_33 t_31) w fun t_34 w =>
              gate (some (t_34, false)) (fun K => K t_33 w) w fun t_35 w =>
              gate (some (t_34, false)) (fun K => K t_9 w) w fun t_36 w =>
              gate (some (t_34, false)) (fun K => pvv prog (binOp .gtr 79 t_35 t_36) w K) w fun t_37 w =>
              pv prog (oPick t_34 (.bool true) t_37) w fun t_38 w =>
              cd t_38 (
                pvv prog (Instr.makeInterface 203 (.int .i64 1)) w fun t_39 w =>
                K (.tuple #[t_9, t_39]) w) <|
              k_20 [underscores_23, t_33] w) fun k_40 =>
            pvv prog (oEq .eql 5 (.tmp 107) (.const (.int .u8 95)) t_22 (.int .u8 95)) w fun t_41 w =>
            gate (some (t_41, true)) (fun K => K t_2 w) w fun t_42 w =>
            pv prog (oPick t_41 t_42 (.bool false)) w fun t_43 w =>
            cd t_43 (
              k_20 [(.bool true), n_13] w) <|
            pvv prog (binOp .leq 5 (.int .u8 48) t_22) w fun t_44 w =>
            gate (some (t_44, true)) (fun K => K t_22 w) w fun t_45 w =>
            gate (some (t_44, true)) (fun K => pvv prog (binOp .leq 5 t_45 (.int .u8 57)) w K) w fun t_46 w =>
            pv prog (oPick t_44 t_46 (.bool false)) w fun t_47 w =>
            cd t_47 (
              pvv prog (binOp .sub 5 t_22 (.int .u8 48)) w fun t_48 w =>
              k_40 [underscores_12, t_48] w) <|
            Calls prog 128 #[t_22] w (Ret fun t_49 w =>
            pvv prog (binOp .leq 5 (.int .u8 97) t_49) w fun t_50 w =>
            gate (some (t_50, true)) (fun K => K t_22 w) w fun t_51 w =>
            gate (some (t_50, true)) (fun K => Calls prog 128 #[t_51] w (Ret K)) w fun t_52 w =>
            gate (some (t_50, true)) (fun K => pvv prog (binOp .leq 5 t_52 (.int .u8 122)) w K) w fun t_53 w =>
            pv prog (oPick t_50 t_53 (.bool false)) w fun t_54 w =>
            cd t_54 (
              Calls prog 128 #[t_22] w (Ret fun t_55 w =>
              pvv prog (binOp .sub 5 t_55 (.int .u8 97)) w fun t_56 w =>
              pvv prog (binOp .add 5 t_56 (.int .u8 10)) w fun t_57 w =>
              k_40 [underscores_12, t_57] w)) <|
            pvv prog (Instr.makeInterface 203 (.int .i64 2)) w fun t_58 w =>
            K (.tuple #[(.int .u64 0), t_58]) w)) <|
          gate (some (underscores_12, true)) (fun K => K s_p0 w) w fun t_59 w =>
          gate (some (underscores_12, true)) (fun K => Calls prog 129 #[t_59] w (Ret K)) w fun t_60 w =>
          gate (some (underscores_12, true)) (fun K => pvv prog (Op.unary .not t_60) w K) w fun t_61 w =>
          pv prog (oPick underscores_12 t_61 (.bool false)) w fun t_62 w =>
          cd t_62 (
            pvv prog (Instr.makeInterface 203 (.int .i64 2)) w fun t_63 w =>
            K (.tuple #[(.int .u64 0), t_63]) w) <|
          K (.tuple #[n_13, .nilIface]) w) [(.bool false), (.int .u64 0), (.int .i64 0)] w) fun k_64 =>
      pvv prog (oEq .eql 3 (.tmp 85) (.const (.int .i64 10)) base_4 (.int .i64 10)) w fun t_65 w =>
      cd t_65 (
        k_64 [(.int .u64 1844674407370955162)] w) <|
      pvv prog (oEq .eql 3 (.tmp 85) (.const (.int .i64 16)) base_4 (.int .i64 16)) w fun t_66 w =>
      cd t_66 (
        k_64 [(.int .u64 1152921504606846976)] w) <|
      pvv prog (convert 3 79 base_4) w fun t_67 w =>
      pvv prog (binOp .quo 79 (.int .u64 18446744073709551615) t_67) w fun t_68 w =>
      pvv prog (binOp .add 79 t_68 (.int .u64 1)) w fun t_69 w =>
      k_64 [t_69] w) fun k_70 =>
    pvv prog (oEq .eql 3 (.tmp 76) (.const (.int .i64 0)) bitSize_p2 (.int .i64 0)) w fun t_71 w =>
    cd t_71 (
      k_70 [(.int .i64 64)] w) <|
    pvv prog (binOp .lss 3 bitSize_p2 (.int .i64 0)) w fun t_72 w =>
    gate (some (t_72, false)) (fun K => K bitSize_p2 w) w fun t_73 w =>
    gate (some (t_72, false)) (fun K => pvv prog (binOp .gtr 3 t_73 (.int .i64 64)) w K) w fun t_74 w =>
    pv prog (oPick t_72 (.bool true) t_74) w fun t_75 w =>
    cd t_75 (
      pvv prog (Instr.makeInterface 203 (.int .i64 4)) w fun t_76 w =>
      K (.tuple #[(.int .u64 0), t_76]) w) <|
    k_70 [bitSize_p2] w) fun k_77 =>
  pvv prog (binOp .leq 3 (.int .i64 2) base_p1) w fun t_78 w =>
  gate (some (t_78, true)) (fun K => K base_p1 w) w fun t_79 w =>
  gate (some (t_78, true)) (fun K => pvv prog (binOp .leq 3 t_79 (.int .i64 36)) w K) w fun t_80 w =>
  pv prog (oPick t_78 t_80 (.bool false)) w fun t_81 w =>
  cd t_81 (
    k_77 [s_p0, base_p1] w) <|
  pvv prog (oEq .eql 3 (.tmp 33) (.const (.int .i64 0)) base_p1 (.int .i64 0)) w fun t_82 w =>
  cd t_82 (
    pvv prog (Instr.index 9 s_p0 (.int .i64 0)) w fun t_83 w =>
    pvv prog (oEq .eql 5 (.tmp 36) (.const (.int .u8 48)) t_83 (.int .u8 48)) w fun t_84 w =>
    cd t_84 (
      pv prog (oBi .len #[9] 3 #[false] #[s_p0]) w fun t_85 w =>
      pvv prog (binOp .geq 3 t_85 (.int .i64 3)) w fun t_86 w =>
      gate (some (t_86, true)) (fun K => K s_p0 w) w fun t_87 w =>
      gate (some (t_86, true)) (fun K => pvv prog (Instr.index 9 t_87 (.int .i64 1)) w K) w fun t_88 w =>
      gate (some (t_86, true)) (fun K => Calls prog 128 #[t_88] w (Ret K)) w fun t_89 w =>
      gate (some (t_86, true)) (fun K => pvv prog (oEq .eql 5 (.tmp 47) (.const (.int .u8 98)) t_89 (.int .u8 98)) w K) w fun t_90 w =>
      pv prog (oPick t_86 t_90 (.bool false)) w fun t_91 w =>
      cd t_91 (
        pvv prog (Instr.sliceAt 9 s_p0 (some (.int .i64 2)) none none) w fun t_92 w =>
        k_77 [t_92, (.int .i64 2)] w) <|
      pv prog (oBi .len #[9] 3 #[false] #[s_p0]) w fun t_93 w =>
      pvv prog (binOp .geq 3 t_93 (.int .i64 3)) w fun t_94 w =>
      gate (some (t_94, true)) (fun K => K s_p0 w) w fun t_95 w =>
      gate (some (t_94, true)) (fun K => pvv prog (Instr.index 9 t_95 (.int .i64 1)) w K) w fun t_96 w =>
      gate (some (t_94, true)) (fun K => Calls prog 128 #[t_96] w (Ret K)) w fun t_97 w =>
      gate (some (t_94, true)) (fun K => pvv prog (oEq .eql 5 (.tmp 59) (.const (.int .u8 111)) t_97 (.int .u8 111)) w K) w fun t_98 w =>
      pv prog (oPick t_94 t_98 (.bool false)) w fun t_99 w =>
      cd t_99 (
        pvv prog (Instr.sliceAt 9 s_p0 (some (.int .i64 2)) none none) w fun t_100 w =>
        k_77 [t_100, (.int .i64 8)] w) <|
      pv prog (oBi .len #[9] 3 #[false] #[s_p0]) w fun t_101 w =>
      pvv prog (binOp .geq 3 t_101 (.int .i64 3)) w fun t_102 w =>
      gate (some (t_102, true)) (fun K => K s_p0 w) w fun t_103 w =>
      gate (some (t_102, true)) (fun K => pvv prog (Instr.index 9 t_103 (.int .i64 1)) w K) w fun t_104 w =>
      gate (some (t_102, true)) (fun K => Calls prog 128 #[t_104] w (Ret K)) w fun t_105 w =>
      gate (some (t_102, true)) (fun K => pvv prog (oEq .eql 5 (.tmp 71) (.const (.int .u8 120)) t_105 (.int .u8 120)) w K) w fun t_106 w =>
      pv prog (oPick t_102 t_106 (.bool false)) w fun t_107 w =>
      cd t_107 (
        pvv prog (Instr.sliceAt 9 s_p0 (some (.int .i64 2)) none none) w fun t_108 w =>
        k_77 [t_108, (.int .i64 16)] w) <|
      pvv prog (Instr.sliceAt 9 s_p0 (some (.int .i64 1)) none none) w fun t_109 w =>
      k_77 [t_109, (.int .i64 8)] w) <|
    k_77 [s_p0, (.int .i64 10)] w) <|
  pvv prog (Instr.makeInterface 203 (.int .i64 3)) w fun t_110 w =>
  K (.tuple #[(.int .u64 0), t_110]) w
theorem B103_eq (s_p0 base_p1 bitSize_p2 : Value) (w : World) (K : Value → World → Prop) : denFn prog Tryz.f103 T103 [s_p0, base_p1, bitSize_p2] w K = B103 s_p0 base_p1 bitSize_p2 w K := by kernel_rfl
theorem c103 {s_p0 base_p1 bitSize_p2 : Value} {w : World} {K : Value → World → Prop} (h : B103 s_p0 base_p1 bitSize_p2 w K) : Calls prog 103 #[s_p0, base_p1, bitSize_p2] w (Ret K) :=
  denFn_calls Tryz.func103 T103_ok (Eq.mpr (B103_eq s_p0 base_p1 bitSize_p2 w K) h)

-- 10 (*holdfast/audit.Chain).Rows
def T10 : Ann := (.seq .none (.seq (.seq .none (.seq (.seq .none .none) .none)) (.seq (.draw [.op 0 .pure, .op 1 .pure, .op 2 .pure, .op 3 .pure, .op 6 .pure, .op 7 .pure, .op 8 .pure, .op 9 .pure, .op 12 .pure, .op 13 .pure, .op 14 .pure, .op 19 .pure, .op 20 .pure, .op 21 .pure, .op 22 .pure, .op 23 .pure, .op 27 .pure, .op 28 .pure, .op 29 .pure, .op 30 .pure, .op 31 .pure, .op 35 .pure, .op 36 .pure, .op 37 .pure, .op 38 .pure, .op 4 .load, .op 10 .load, .op 15 .load, .par [⟨5, .eff, (some 13), []⟩, ⟨24, .eff, (some 32), []⟩, ⟨32, .eff, (some 40), []⟩, ⟨39, .eff, (some 47), []⟩, ⟨11, .eff, (some 19), []⟩, ⟨16, .eff, (some 24), []⟩, ⟨17, .eff, (some 25), [(0, some 13), (4, some 19), (5, some 24)]⟩, ⟨18, .pure, (some 26), [(6, some 25)]⟩, ⟨25, .eff, (some 33), [(1, some 32)]⟩, ⟨26, .pure, (some 34), [(8, some 33)]⟩, ⟨33, .eff, (some 41), [(2, some 40)]⟩, ⟨34, .pure, (some 42), [(10, some 41)]⟩, ⟨40, .eff, (some 48), [(3, some 47)]⟩, ⟨41, .pure, (some 49), [(12, some 48)]⟩], .op 42 .eff, .op 43 .pure]) (.seq (.seq .none (.block (.loop 151115655394234608910376 [3, 56] (.seq .none (.seq (.seq .none .none) (.seq (.block (.seq .none (.draw [.op 0 .pure, .op 1 .pure, .op 5 .pure, .op 8 .pure, .op 10 .pure, .op 2 .load, .op 6 .load, .op 9 .load, .op 11 .load, .op 3 .eff, .op 4 .pure, .op 7 .eff, .op 12 .eff, .op 13 .pure, .op 14 .eff, .op 15 .eff, .op 16 .pure]))) .none)))))) (.seq .none .none)))))
theorem T10_ok : chkFn prog Tryz.f10 T10 = true := by kernel_rfl
def B10 (c_p0 : Value) (w : World) (K : Value → World → Prop) : Prop :=
  pvv prog (oEq .eql 23 (.tmp 6) (.const (.pointer none)) c_p0 (.pointer none)) w fun t_0 w =>
  cd t_0 (
    K (.slice none 0 0) w) <|
  dr w fun w =>
  pv prog (oNil c_p0) w fun t_1 w =>
  pvv prog (Instr.fieldAt 69 t_1 0) w fun t_2 w =>
  pvv prog (Instr.fieldAt 66 t_2 0) w fun t_3 w =>
  pv prog (oNil c_p0) w fun t_4 w =>
  pvv prog (Instr.fieldAt 69 t_4 1) w fun t_5 w =>
  pvv prog (Instr.fieldAt 66 t_5 0) w fun t_6 w =>
  pv prog (oNil c_p0) w fun t_7 w =>
  pvv prog (Instr.fieldAt 69 t_7 3) w fun t_8 w =>
  pv prog (oNil c_p0) w fun t_9 w =>
  pvv prog (Instr.fieldAt 69 t_9 1) w fun t_10 w =>
  pvv prog (Instr.fieldAt 66 t_10 1) w fun t_11 w =>
  pvv prog (Instr.sliceAt 28 t_11 none none none) w fun t_12 w =>
  pv prog (oNil c_p0) w fun t_13 w =>
  pvv prog (Instr.fieldAt 69 t_13 0) w fun t_14 w =>
  pvv prog (Instr.fieldAt 66 t_14 1) w fun t_15 w =>
  pvv prog (Instr.sliceAt 28 t_15 none none none) w fun t_16 w =>
  pv prog (oNil c_p0) w fun t_17 w =>
  pvv prog (Instr.fieldAt 69 t_17 2) w fun t_18 w =>
  pvv prog (Instr.sliceAt 28 t_18 none none none) w fun t_19 w =>
  bindS (vN (Instr.loadAt 3 t_3)) fun m_21 => ldv prog (Instr.loadAt 3 t_3) w fun t_20 w =>
  bindS (vN (Instr.loadAt 3 t_6)) fun m_23 => ldv prog (Instr.loadAt 3 t_6) w fun t_22 w =>
  bindS (vN (Instr.loadAt 3 t_8)) fun m_25 => ldv prog (Instr.loadAt 3 t_8) w fun t_24 w =>
  par 14 w fun J_26 =>
    (∀ (σ : List (Option Value)) (w : World), J_26 σ w → un σ 0 (Calls prog 30 #[t_20] w (Ret fun v_27 w => stay prog none m_25 t_24 w <| stay prog none m_23 t_22 w <| J_26 (σ.set 0 (some v_27)) w))) ∧
    (∀ (σ : List (Option Value)) (w : World), J_26 σ w → un σ 1 (efv prog (convert 22 9 t_12) w fun v_28 w => stay prog none m_25 t_24 w <| stay prog none m_23 t_22 w <| stay prog none m_21 t_20 w <| J_26 (σ.set 1 (some v_28)) w)) ∧
    (∀ (σ : List (Option Value)) (w : World), J_26 σ w → un σ 2 (efv prog (convert 22 9 t_16) w fun v_29 w => stay prog none m_25 t_24 w <| stay prog none m_23 t_22 w <| stay prog none m_21 t_20 w <| J_26 (σ.set 2 (some v_29)) w)) ∧
    (∀ (σ : List (Option Value)) (w : World), J_26 σ w → un σ 3 (efv prog (convert 22 9 t_19) w fun v_30 w => stay prog none m_25 t_24 w <| stay prog none m_23 t_22 w <| stay prog none m_21 t_20 w <| J_26 (σ.set 3 (some v_30)) w)) ∧
    (∀ (σ : List (Option Value)) (w : World), J_26 σ w → un σ 4 (Calls prog 30 #[t_22] w (Ret fun v_31 w => stay prog none m_25 t_24 w <| stay prog none m_21 t_20 w <| J_26 (σ.set 4 (some v_31)) w))) ∧
    (∀ (σ : List (Option Value)) (w : World), J_26 σ w → un σ 5 (Calls prog 30 #[t_24] w (Ret fun v_32 w => stay prog none m_23 t_22 w <| stay prog none m_21 t_20 w <| J_26 (σ.set 5 (some v_32)) w))) ∧
    (∀ (σ : List (Option Value)) (w : World), J_26 σ w → un σ 6 (is σ 0 fun t_33 => is σ 4 fun t_34 => is σ 5 fun t_35 => efv prog (Instr.buildSlice 39 3 #[(0, t_33), (1, t_34), (2, t_35)]) w fun v_36 w => stay prog none m_25 t_24 w <| stay prog none m_23 t_22 w <| stay prog none m_21 t_20 w <| J_26 (σ.set 6 (some v_36)) w)) ∧
    (∀ (σ : List (Option Value)) (w : World), J_26 σ w → un σ 7 (is σ 6 fun t_37 => pvv prog (Instr.build 41 #[(0, (.string ⟨#[35]⟩)), (1, t_37)]) w fun v_38 w => J_26 (σ.set 7 (some v_38)) w)) ∧
    (∀ (σ : List (Option Value)) (w : World), J_26 σ w → un σ 8 (is σ 1 fun t_39 => efv prog (Instr.buildSlice 39 1 #[(0, t_39)]) w fun v_40 w => stay prog none m_25 t_24 w <| stay prog none m_23 t_22 w <| stay prog none m_21 t_20 w <| J_26 (σ.set 8 (some v_40)) w)) ∧
    (∀ (σ : List (Option Value)) (w : World), J_26 σ w → un σ 9 (is σ 8 fun t_41 => pvv prog (Instr.build 41 #[(0, (.string ⟨#[97]⟩)), (1, t_41)]) w fun v_42 w => J_26 (σ.set 9 (some v_42)) w)) ∧
    (∀ (σ : List (Option Value)) (w : World), J_26 σ w → un σ 10 (is σ 2 fun t_43 => efv prog (Instr.buildSlice 39 1 #[(0, t_43)]) w fun v_44 w => stay prog none m_25 t_24 w <| stay prog none m_23 t_22 w <| stay prog none m_21 t_20 w <| J_26 (σ.set 10 (some v_44)) w)) ∧
    (∀ (σ : List (Option Value)) (w : World), J_26 σ w → un σ 11 (is σ 10 fun t_45 => pvv prog (Instr.build 41 #[(0, (.string ⟨#[98]⟩)), (1, t_45)]) w fun v_46 w => J_26 (σ.set 11 (some v_46)) w)) ∧
    (∀ (σ : List (Option Value)) (w : World), J_26 σ w → un σ 12 (is σ 3 fun t_47 => efv prog (Instr.buildSlice 39 1 #[(0, t_47)]) w fun v_48 w => stay prog none m_25 t_24 w <| stay prog none m_23 t_22 w <| stay prog none m_21 t_20 w <| J_26 (σ.set 12 (some v_48)) w)) ∧
    (∀ (σ : List (Option Value)) (w : World), J_26 σ w → un σ 13 (is σ 12 fun t_49 => pvv prog (Instr.build 41 #[(0, (.string ⟨#[104]⟩)), (1, t_49)]) w fun v_50 w => J_26 (σ.set 13 (some v_50)) w)) ∧
    ∀ (σ : List (Option Value)) (w : World), J_26 σ w → is σ 0 fun t_51 => is σ 1 fun t_52 => is σ 2 fun t_53 => is σ 3 fun t_54 => is σ 4 fun t_55 => is σ 5 fun t_56 => is σ 6 fun t_57 => is σ 7 fun t_58 => is σ 8 fun t_59 => is σ 9 fun t_60 => is σ 10 fun t_61 => is σ 11 fun t_62 => is σ 12 fun t_63 => is σ 13 fun t_64 => 
    efv prog (Instr.buildSlice 37 4 #[(0, t_58), (1, t_60), (2, t_62), (3, t_64)]) w fun t_65 w => stay prog none m_25 t_24 w <| stay prog none m_23 t_22 w <| stay prog none m_21 t_20 w <| 
    pv prog (oNil c_p0) w fun t_66 w =>
    pvv prog (Instr.fieldAt 69 t_66 4) w fun t_67 w =>
    ldv prog (Instr.loadAt 67 t_67) w fun t_68 w =>
    pv prog (oBi .len #[67] 3 #[false] #[t_68]) w fun t_69 w =>
    lp (fun σ w again_72 => pop σ fun out_70 σ => pop σ fun t_71 σ => fin σ <|
      pvv prog (binOp .lss 3 t_71 t_69) w fun t_73 w =>
      cd t_73 (
        pvv prog (Instr.indexAt 67 t_68 t_71) w fun t_74 w =>
        ldv prog (Instr.loadAt 31 t_74) w fun t_75 w =>
        efv prog (Instr.alloc 31 true (.tuple #[])) w fun x_76 w =>
        efu prog (Instr.storeAt 31 x_76 t_75) w fun u_77 w =>
        dr w fun w =>
        pvv prog (Instr.fieldAt 31 x_76 0) w fun t_78 w =>
        pvv prog (Instr.fieldAt 31 x_76 1) w fun t_79 w =>
        pvv prog (Instr.fieldAt 31 x_76 2) w fun t_80 w =>
        pvv prog (Instr.fieldAt 31 x_76 3) w fun t_81 w =>
        bindS (vN (Instr.loadAt 3 t_78)) fun m_83 => ldv prog (Instr.loadAt 3 t_78) w fun t_82 w =>
        bindS (vN (Instr.loadAt 3 t_79)) fun m_85 => ldv prog (Instr.loadAt 3 t_79) w fun t_84 w =>
        bindS (vN (Instr.loadAt 9 t_80)) fun m_87 => ldv prog (Instr.loadAt 9 t_80) w fun t_86 w =>
        bindS (vN (Instr.loadAt 9 t_81)) fun m_89 => ldv prog (Instr.loadAt 9 t_81) w fun t_88 w =>
        Calls prog 30 #[t_82] w (Ret fun t_90 w => stay prog none m_89 t_88 w <| stay prog none m_87 t_86 w <| stay prog none m_85 t_84 w <| 
        pvv prog (binOp .add 9 (.string ⟨#[110]⟩) t_90) w fun t_91 w =>
        Calls prog 30 #[t_84] w (Ret fun t_92 w => stay prog none m_89 t_88 w <| stay prog none m_87 t_86 w <| stay prog none m_83 t_82 w <| 
        efv prog (Instr.buildSlice 39 3 #[(0, t_92), (1, t_86), (2, t_88)]) w fun t_93 w => stay prog none m_85 t_84 w <| stay prog none m_83 t_82 w <| 
        pvv prog (Instr.build 41 #[(0, t_91), (1, t_93)]) w fun t_94 w =>
        efv prog (Instr.buildSlice 37 1 #[(0, t_94)]) w fun t_95 w => stay prog none m_89 t_88 w <| stay prog none m_87 t_86 w <| stay prog none m_85 t_84 w <| stay prog none m_83 t_82 w <| 
        ef prog (oBi .append #[37, 37] 37 #[false, false] #[out_70, t_95]) w fun t_96 w => stay prog none m_89 t_88 w <| stay prog none m_87 t_86 w <| stay prog none m_85 t_84 w <| stay prog none m_83 t_82 w <| 
        pvv prog (binOp .add 3 t_71 (.int .i64 1)) w fun t_97 w =>
        again_72 [t_96, t_97] w))) <|
      K out_70 w) [t_65, (.int .i64 0)] w
theorem B10_eq (c_p0 : Value) (w : World) (K : Value → World → Prop) : denFn prog Tryz.f10 T10 [c_p0] w K = B10 c_p0 w K := by kernel_rfl
theorem c10 {c_p0 : Value} {w : World} {K : Value → World → Prop} (h : B10 c_p0 w K) : Calls prog 10 #[c_p0] w (Ret K) :=
  denFn_calls Tryz.func10 T10_ok (Eq.mpr (B10_eq c_p0 w K) h)

-- 129 internal/strconv.underscoreOK
def T129 : Ann := (.seq .none (.seq .none (.seq .none (.meet 2097089 [0] (.seq .none (.seq .none .none)) (.seq .none (.meet 2251799811588152 [3, 4, 5] (.seq .none (.seq (.seq .none (.seq .none .none)) .none)) (.seq (.block (.loop 4951760157139269299782811676 [3, 4] (.seq (.seq .none (.seq .none .none)) (.meet 4951760156997405911520641036 [3] (.block (.seq (.seq .none (.seq (.seq .none .none) .none)) (.seq (.seq .none (.seq (.seq (.seq .none (.seq (.seq .none .none) .none)) (.seq .none .none)) .none)) (.seq (.seq .none (.seq (.seq .none .none) .none)) .none)))) .none)))) (.seq .none .none))))))))
theorem T129_ok : chkFn prog Tryz.f129 T129 = true := by kernel_rfl
def B129 (s_p0 : Value) (w : World) (K : Value → World → Prop) : Prop :=
  jn (fun σ w => pop σ fun s_0 σ => fin σ <|
    jn (fun σ w => pop σ fun saw_1 σ => pop σ fun i_2 σ => pop σ fun hex_3 σ => fin σ <|
      lp (fun σ w again_6 => pop σ fun saw_4 σ => pop σ fun i_5 σ => fin σ <|
        pv prog (oBi .len #[9] 3 #[false] #[s_0]) w fun t_7 w =>
        pvv prog (binOp .lss 3 i_5 t_7) w fun t_8 w =>
        cd t_8 (
          jn (fun σ w => pop σ fun saw_9 σ => fin σ <|
            pvv prog (binOp .add 3 i_5 (.int .i64 1)) w fun t_10 w =>
            again_6 [saw_9, t_10] w) fun k_11 =>
          pvv prog (Instr.index 9 s_0 i_5) w fun t_12 w =>
          pvv prog (binOp .leq 5 (.int .u8 48) t_12) w fun t_13 w =>
          gate (some (t_13, true)) (fun K => K s_0 w) w fun t_14 w =>
          gate (some (t_13, true)) (fun K => K i_5 w) w fun t_15 w =>
          gate (some (t_13, true)) (fun K => pvv prog (Instr.index 9 t_14 t_15) w K) w fun t_16 w =>
          gate (some (t_13, true)) (fun K => pvv prog (binOp .leq 5 t_16 (.int .u8 57)) w K) w fun t_17 w =>
          pv prog (oPick t_13 t_17 (.bool false)) w fun t_18 w =>
          gate (some (t_18, false)) (fun K => K hex_3 w) w fun t_19 w =>
          gate (some (t_18, false)) (fun K => K t_19 w) w fun t_20 w =>
          gate (some (t_20, true)) (fun K => K s_0 w) w fun t_21 w =>
          gate (some (t_20, true)) (fun K => K i_5 w) w fun t_22 w =>
          gate (some (t_20, true)) (fun K => pvv prog (Instr.index 9 t_21 t_22) w K) w fun t_23 w =>
          gate (some (t_20, true)) (fun K => Calls prog 128 #[t_23] w (Ret K)) w fun t_24 w =>
          gate (some (t_20, true)) (fun K => pvv prog (binOp .leq 5 (.int .u8 97) t_24) w K) w fun t_25 w =>
          gate (some (t_18, false)) (fun K => pv prog (oPick t_20 t_25 (.bool false)) w K) w fun t_26 w =>
          gate (some (t_18, false)) (fun K => K t_26 w) w fun t_27 w =>
          gate (some (t_27, true)) (fun K => K s_0 w) w fun t_28 w =>
          gate (some (t_27, true)) (fun K => K i_5 w) w fun t_29 w =>
          gate (some (t_27, true)) (fun K => pvv prog (Instr.index 9 t_28 t_29) w K) w fun t_30 w =>
          gate (some (t_27, true)) (fun K => Calls prog 128 #[t_30] w (Ret K)) w fun t_31 w =>
          gate (some (t_27, true)) (fun K => pvv prog (binOp .leq 5 t_31 (.int .u8 102)) w K) w fun t_32 w =>
          gate (some (t_18, false)) (fun K => pv prog (oPick t_27 t_32 (.bool false)) w K) w fun t_33 w =>
          pv prog (oPick t_18 (.bool true) t_33) w fun t_34 w =>
          cd t_34 (
            k_11 [(.int .i32 48)] w) <|
          pvv prog (Instr.index 9 s_0 i_5) w fun t_35 w =>
          pvv prog (oEq .eql 5 (.tmp 86) (.const (.int .u8 95)) t_35 (.int .u8 95)) w fun t_36 w =>
          cd t_36 (
            pvv prog (oEq .neq 21 (.tmp 88) (.const (.int .i32 48)) saw_4 (.int .i32 48)) w fun t_37 w =>
            cd t_37 (
              K (.bool false) w) <|
            k_11 [(.int .i32 95)] w) <|
          pvv prog (oEq .eql 21 (.tmp 90) (.const (.int .i32 95)) saw_4 (.int .i32 95)) w fun t_38 w =>
          cd t_38 (
            K (.bool false) w) <|
          k_11 [(.int .i32 33)] w) <|
        pvv prog (oEq .neq 21 (.tmp 92) (.const (.int .i32 95)) saw_4 (.int .i32 95)) w fun t_39 w =>
        K t_39 w) [saw_1, i_2] w) fun k_40 =>
    pv prog (oBi .len #[9] 3 #[false] #[s_0]) w fun t_41 w =>
    pvv prog (binOp .geq 3 t_41 (.int .i64 2)) w fun t_42 w =>
    gate (some (t_42, true)) (fun K => K s_0 w) w fun t_43 w =>
    gate (some (t_42, true)) (fun K => pvv prog (Instr.index 9 t_43 (.int .i64 0)) w K) w fun t_44 w =>
    gate (some (t_42, true)) (fun K => pvv prog (oEq .eql 5 (.tmp 26) (.const (.int .u8 48)) t_44 (.int .u8 48)) w K) w fun t_45 w =>
    pv prog (oPick t_42 t_45 (.bool false)) w fun t_46 w =>
    gate (some (t_46, true)) (fun K => K s_0 w) w fun t_47 w =>
    gate (some (t_46, true)) (fun K => pvv prog (Instr.index 9 t_47 (.int .i64 1)) w K) w fun t_48 w =>
    gate (some (t_46, true)) (fun K => Calls prog 128 #[t_48] w (Ret K)) w fun t_49 w =>
    gate (some (t_46, true)) (fun K => pvv prog (oEq .eql 5 (.tmp 32) (.const (.int .u8 98)) t_49 (.int .u8 98)) w K) w fun t_50 w =>
    gate (some (t_46, true)) (fun K => K t_50 w) w fun t_51 w =>
    gate (some (t_51, false)) (fun K => K s_0 w) w fun t_52 w =>
    gate (some (t_51, false)) (fun K => pvv prog (Instr.index 9 t_52 (.int .i64 1)) w K) w fun t_53 w =>
    gate (some (t_51, false)) (fun K => Calls prog 128 #[t_53] w (Ret K)) w fun t_54 w =>
    gate (some (t_51, false)) (fun K => pvv prog (oEq .eql 5 (.tmp 37) (.const (.int .u8 111)) t_54 (.int .u8 111)) w K) w fun t_55 w =>
    gate (some (t_46, true)) (fun K => pv prog (oPick t_51 (.bool true) t_55) w K) w fun t_56 w =>
    gate (some (t_46, true)) (fun K => K t_56 w) w fun t_57 w =>
    gate (some (t_57, false)) (fun K => K s_0 w) w fun t_58 w =>
    gate (some (t_57, false)) (fun K => pvv prog (Instr.index 9 t_58 (.int .i64 1)) w K) w fun t_59 w =>
    gate (some (t_57, false)) (fun K => Calls prog 128 #[t_59] w (Ret K)) w fun t_60 w =>
    gate (some (t_57, false)) (fun K => pvv prog (oEq .eql 5 (.tmp 43) (.const (.int .u8 120)) t_60 (.int .u8 120)) w K) w fun t_61 w =>
    gate (some (t_46, true)) (fun K => pv prog (oPick t_57 (.bool true) t_61) w K) w fun t_62 w =>
    pv prog (oPick t_46 t_62 (.bool false)) w fun t_63 w =>
    cd t_63 (
      pvv prog (Instr.index 9 s_0 (.int .i64 1)) w fun t_64 w =>
      Calls prog 128 #[t_64] w (Ret fun t_65 w =>
      pvv prog (oEq .eql 5 (.tmp 49) (.const (.int .u8 120)) t_65 (.int .u8 120)) w fun t_66 w =>
      k_40 [(.int .i32 48), (.int .i64 2), t_66] w)) <|
    k_40 [(.int .i32 94), (.int .i64 0), (.bool false)] w) fun k_67 =>
  pv prog (oBi .len #[9] 3 #[false] #[s_p0]) w fun t_68 w =>
  pvv prog (binOp .geq 3 t_68 (.int .i64 1)) w fun t_69 w =>
  gate (some (t_69, true)) (fun K => K s_p0 w) w fun t_70 w =>
  gate (some (t_69, true)) (fun K => pvv prog (Instr.index 9 t_70 (.int .i64 0)) w K) w fun t_71 w =>
  gate (some (t_69, true)) (fun K => pvv prog (oEq .eql 5 (.tmp 11) (.const (.int .u8 45)) t_71 (.int .u8 45)) w K) w fun t_72 w =>
  gate (some (t_69, true)) (fun K => K t_72 w) w fun t_73 w =>
  gate (some (t_73, false)) (fun K => K s_p0 w) w fun t_74 w =>
  gate (some (t_73, false)) (fun K => pvv prog (Instr.index 9 t_74 (.int .i64 0)) w K) w fun t_75 w =>
  gate (some (t_73, false)) (fun K => pvv prog (oEq .eql 5 (.tmp 15) (.const (.int .u8 43)) t_75 (.int .u8 43)) w K) w fun t_76 w =>
  gate (some (t_69, true)) (fun K => pv prog (oPick t_73 (.bool true) t_76) w K) w fun t_77 w =>
  pv prog (oPick t_69 t_77 (.bool false)) w fun t_78 w =>
  cd t_78 (
    pvv prog (Instr.sliceAt 9 s_p0 (some (.int .i64 1)) none none) w fun t_79 w =>
    k_67 [t_79] w) <|
  k_67 [s_p0] w
theorem B129_eq (s_p0 : Value) (w : World) (K : Value → World → Prop) : denFn prog Tryz.f129 T129 [s_p0] w K = B129 s_p0 w K := by kernel_rfl
theorem c129 {s_p0 : Value} {w : World} {K : Value → World → Prop} (h : B129 s_p0 w K) : Calls prog 129 #[s_p0] w (Ret K) :=
  denFn_calls Tryz.func129 T129_ok (Eq.mpr (B129_eq s_p0 w K) h)

-- 120 internal/strconv.formatBits
def T120 : Ann := (.seq .none (.meet 1073217536 [] (.seq .none (.seq .none .none)) (.seq .none (.seq .none (.meet 7516192770 [1] (.seq .none (.seq .none .none)) (.meet 618970019642690128860143618 [13] (.seq .none (.seq (.seq .none (.seq .none (.seq .none (.seq (.block (.loop 288212783965675522 [1, 13] (.seq (.seq .none (.seq .none .none)) (.block (.seq .none (.seq .none .none)))))) (.seq .none .none))))) (.seq .none (.seq (.block (.loop 9671332769940738559713282 [1, 13] (.seq (.seq .none (.seq .none .none)) (.block (.seq .none (.seq .none (.seq .none .none))))))) (.seq .none .none))))) (.meet 19188070608923394260936433664 [13] (.seq .none (.seq (.seq .none .none) .none)) (.seq (.seq .none (.seq (.seq .none .none) .none)) (.seq .none .none)))))))))
theorem T120_ok : chkFn prog Tryz.f120 T120 = true := by kernel_rfl
def B120 (dst_p0 u_p1 base_p2 neg_p3 append__p4 : Value) (w : World) (K : Value → World → Prop) : Prop :=
  jn (fun σ w => fin σ <|
    efv prog (Instr.alloc 222 true (.tuple #[])) w fun a_0 w =>
    jn (fun σ w => pop σ fun u_1 σ => fin σ <|
      jn (fun σ w => pop σ fun i_2 σ => fin σ <|
        jn (fun σ w => pop σ fun i_3 σ => fin σ <|
          cd append__p4 (
            pvv prog (Instr.sliceAt 222 a_0 (some i_3) none none) w fun t_4 w =>
            ef prog (oBi .append #[22, 22] 22 #[false, false] #[dst_p0, t_4]) w fun t_5 w =>
            K (.tuple #[t_5, (.string ⟨#[]⟩)]) w) <|
          pvv prog (Instr.sliceAt 222 a_0 (some i_3) none none) w fun t_6 w =>
          efv prog (convert 22 9 t_6) w fun t_7 w =>
          K (.tuple #[(.slice none 0 0), t_7]) w) fun k_8 =>
        cd neg_p3 (
          pvv prog (binOp .sub 3 i_2 (.int .i64 1)) w fun t_9 w =>
          pvv prog (Instr.indexAt 222 a_0 t_9) w fun t_10 w =>
          efu prog (Instr.storeAt 5 t_10 (.int .u8 45)) w fun u_11 w =>
          k_8 [t_9] w) <|
        k_8 [i_2] w) fun k_12 =>
      Calls prog 150 #[base_p2] w (Ret fun t_13 w =>
      cd t_13 (
        pvv prog (convert 3 80 base_p2) w fun t_14 w =>
        Calls prog 151 #[t_14] w (Ret fun t_15 w =>
        pvv prog (convert 3 80 t_15) w fun t_16 w =>
        pvv prog (convert 3 79 base_p2) w fun t_17 w =>
        pvv prog (convert 3 80 base_p2) w fun t_18 w =>
        pvv prog (binOp .sub 80 t_18 (.int .u64 1)) w fun t_19 w =>
        lp (fun σ w again_22 => pop σ fun u_20 σ => pop σ fun i_21 σ => fin σ <|
          pvv prog (binOp .geq 79 u_20 t_17) w fun t_23 w =>
          cd t_23 (
            pvv prog (binOp .sub 3 i_21 (.int .i64 1)) w fun t_24 w =>
            pvv prog (binOp .and 80 u_20 t_19) w fun t_25 w =>
            pvv prog (Instr.index 9 (.string ⟨#[48, 49, 50, 51, 52, 53, 54, 55, 56, 57, 97, 98, 99, 100, 101, 102, 103, 104, 105, 106, 107, 108, 109, 110, 111, 112, 113, 114, 115, 116, 117, 118, 119, 120, 121, 122]⟩) t_25) w fun t_26 w =>
            pvv prog (Instr.indexAt 222 a_0 t_24) w fun t_27 w =>
            efu prog (Instr.storeAt 5 t_27 t_26) w fun u_28 w =>
            pvv prog (binOp .shr 79 u_20 t_16) w fun t_29 w =>
            again_22 [t_29, t_24] w) <|
          pvv prog (binOp .sub 3 i_21 (.int .i64 1)) w fun t_30 w =>
          pvv prog (Instr.index 9 (.string ⟨#[48, 49, 50, 51, 52, 53, 54, 55, 56, 57, 97, 98, 99, 100, 101, 102, 103, 104, 105, 106, 107, 108, 109, 110, 111, 112, 113, 114, 115, 116, 117, 118, 119, 120, 121, 122]⟩) u_20) w fun t_31 w =>
          pvv prog (Instr.indexAt 222 a_0 t_30) w fun t_32 w =>
          efu prog (Instr.storeAt 5 t_32 t_31) w fun u_33 w =>
          k_12 [t_30] w) [u_1, (.int .i64 65)] w)) <|
      pvv prog (convert 3 79 base_p2) w fun t_34 w =>
      lp (fun σ w again_37 => pop σ fun u_35 σ => pop σ fun i_36 σ => fin σ <|
        pvv prog (binOp .geq 79 u_35 t_34) w fun t_38 w =>
        cd t_38 (
          pvv prog (binOp .sub 3 i_36 (.int .i64 1)) w fun t_39 w =>
          pvv prog (binOp .quo 79 u_35 t_34) w fun t_40 w =>
          pvv prog (binOp .mul 79 t_40 t_34) w fun t_41 w =>
          pvv prog (binOp .sub 79 u_35 t_41) w fun t_42 w =>
          pvv prog (Instr.index 9 (.string ⟨#[48, 49, 50, 51, 52, 53, 54, 55, 56, 57, 97, 98, 99, 100, 101, 102, 103, 104, 105, 106, 107, 108, 109, 110, 111, 112, 113, 114, 115, 116, 117, 118, 119, 120, 121, 122]⟩) t_42) w fun t_43 w =>
          pvv prog (Instr.indexAt 222 a_0 t_39) w fun t_44 w =>
          efu prog (Instr.storeAt 5 t_44 t_43) w fun u_45 w =>
          again_37 [t_40, t_39] w) <|
        pvv prog (binOp .sub 3 i_36 (.int .i64 1)) w fun t_46 w =>
        pvv prog (Instr.index 9 (.string ⟨#[48, 49, 50, 51, 52, 53, 54, 55, 56, 57, 97, 98, 99, 100, 101, 102, 103, 104, 105, 106, 107, 108, 109, 110, 111, 112, 113, 114, 115, 116, 117, 118, 119, 120, 121, 122]⟩) u_35) w fun t_47 w =>
        pvv prog (Instr.indexAt 222 a_0 t_46) w fun t_48 w =>
        efu prog (Instr.storeAt 5 t_48 t_47) w fun u_49 w =>
        k_12 [t_46] w) [u_1, (.int .i64 65)] w)) fun k_50 =>
    cd neg_p3 (
      pvv prog (Op.unary .neg u_p1) w fun t_51 w =>
      k_50 [t_51] w) <|
    k_50 [u_p1] w) fun k_52 =>
  pvv prog (binOp .lss 3 base_p2 (.int .i64 2)) w fun t_53 w =>
  gate (some (t_53, false)) (fun K => K base_p2 w) w fun t_54 w =>
  gate (some (t_53, false)) (fun K => pvv prog (oEq .eql 3 (.tmp 22) (.const (.int .i64 10)) t_54 (.int .i64 10)) w K) w fun t_55 w =>
  pv prog (oPick t_53 (.bool true) t_55) w fun t_56 w =>
  gate (some (t_56, false)) (fun K => K base_p2 w) w fun t_57 w =>
  gate (some (t_56, false)) (fun K => pvv prog (binOp .gtr 3 t_57 (.int .i64 36)) w K) w fun t_58 w =>
  pv prog (oPick t_56 (.bool true) t_58) w fun t_59 w =>
  cd t_59 (
    pvv prog (Instr.makeInterface 9 (.string ⟨#[115, 116, 114, 99, 111, 110, 118, 58, 32, 105, 108, 108, 101, 103, 97, 108, 32, 65, 112, 112, 101, 110, 100, 73, 110, 116, 47, 70, 111, 114, 109, 97, 116, 73, 110, 116, 32, 98, 97, 115, 101]⟩)) w fun t_60 w =>
    efv prog (Instr.panic t_60) w fun u_61 w =>
    k_52 [] w) <|
  k_52 [] w
theorem B120_eq (dst_p0 u_p1 base_p2 neg_p3 append__p4 : Value) (w : World) (K : Value → World → Prop) : denFn prog Tryz.f120 T120 [dst_p0, u_p1, base_p2, neg_p3, append__p4] w K = B120 dst_p0 u_p1 base_p2 neg_p3 append__p4 w K := by kernel_rfl
theorem c120 {dst_p0 u_p1 base_p2 neg_p3 append__p4 : Value} {w : World} {K : Value → World → Prop} (h : B120 dst_p0 u_p1 base_p2 neg_p3 append__p4 w K) : Calls prog 120 #[dst_p0, u_p1, base_p2, neg_p3, append__p4] w (Ret K) :=
  denFn_calls Tryz.func120 T120_ok (Eq.mpr (B120_eq dst_p0 u_p1 base_p2 neg_p3 append__p4 w K) h)

-- 125 strings.Replace
def T125 : Ann := (.seq .none (.seq (.seq .none (.seq (.seq .none .none) .none)) (.meet 274861130504 [3] (.seq .none (.seq .none (.seq (.seq .none .none) (.seq .none (.seq .none .none))))) (.seq .none (.seq .none (.seq .none (.meet 633825300114114137798398244864 [11] (.seq .none (.seq (.seq .none (.block (.loop 18889456924279326119936 [11, 53] (.seq .none (.seq (.seq .none .none) (.seq (.block (.seq .none (.seq .none (.seq .none .none)))) .none)))))) (.seq .none (.seq .none (.block (.loop 633824997882659797091057985536 [11, 78] (.seq .none (.seq (.seq .none .none) (.seq (.block (.seq .none (.seq .none (.seq .none (.seq .none .none))))) .none))))))))) (.seq .none (.seq .none .none)))))))))
theorem T125_ok : chkFn prog Tryz.f125 T125 = true := by kernel_rfl
def B125 (s_p0 old_p1 new_p2 n_p3 : Value) (w : World) (K : Value → World → Prop) : Prop :=
  pvv prog (oEq .eql 9 (.tmp 16) (.tmp 17) old_p1 new_p2) w fun t_0 w =>
  gate (some (t_0, false)) (fun K => K n_p3 w) w fun t_1 w =>
  gate (some (t_0, false)) (fun K => pvv prog (oEq .eql 3 (.tmp 20) (.const (.int .i64 0)) t_1 (.int .i64 0)) w K) w fun t_2 w =>
  pv prog (oPick t_0 (.bool true) t_2) w fun t_3 w =>
  cd t_3 (
    K s_p0 w) <|
  jn (fun σ w => pop σ fun n_4 σ => fin σ <|
    efv prog (Instr.alloc 227 true (.tuple #[])) w fun b_5 w =>
    pv prog (oBi .len #[9] 3 #[false] #[s_p0]) w fun t_6 w =>
    pv prog (oBi .len #[9] 3 #[false] #[new_p2]) w fun t_7 w =>
    pv prog (oBi .len #[9] 3 #[false] #[old_p1]) w fun t_8 w =>
    pvv prog (binOp .sub 3 t_7 t_8) w fun t_9 w =>
    pvv prog (binOp .mul 3 n_4 t_9) w fun t_10 w =>
    pvv prog (binOp .add 3 t_6 t_10) w fun t_11 w =>
    Calls prog 155 #[b_5, t_11] w (Ret fun t_12 w =>
    jn (fun σ w => pop σ fun start_13 σ => fin σ <|
      pvv prog (Instr.sliceAt 9 s_p0 (some start_13) none none) w fun t_14 w =>
      Calls prog 156 #[b_5, t_14] w (Ret fun t_15 w =>
      Calls prog 157 #[b_5] w (Ret fun t_16 w =>
      K t_16 w))) fun k_17 =>
    pv prog (oBi .len #[9] 3 #[false] #[old_p1]) w fun t_18 w =>
    pvv prog (binOp .gtr 3 t_18 (.int .i64 0)) w fun t_19 w =>
    cd t_19 (
      lp (fun σ w again_22 => pop σ fun start_20 σ => pop σ fun t_21 σ => fin σ <|
        pvv prog (binOp .lss 3 t_21 n_4) w fun t_23 w =>
        cd t_23 (
          pvv prog (Instr.sliceAt 9 s_p0 (some start_20) none none) w fun t_24 w =>
          Calls prog 116 #[t_24, old_p1] w (Ret fun t_25 w =>
          pvv prog (binOp .add 3 start_20 t_25) w fun t_26 w =>
          pvv prog (Instr.sliceAt 9 s_p0 (some start_20) (some t_26) none) w fun t_27 w =>
          Calls prog 156 #[b_5, t_27] w (Ret fun t_28 w =>
          Calls prog 156 #[b_5, new_p2] w (Ret fun t_29 w =>
          pv prog (oBi .len #[9] 3 #[false] #[old_p1]) w fun t_30 w =>
          pvv prog (binOp .add 3 t_26 t_30) w fun t_31 w =>
          pvv prog (binOp .add 3 t_21 (.int .i64 1)) w fun t_32 w =>
          again_22 [t_31, t_32] w)))) <|
        k_17 [start_20] w) [(.int .i64 0), (.int .i64 0)] w) <|
    Calls prog 156 #[b_5, new_p2] w (Ret fun t_33 w =>
    pvv prog (binOp .sub 3 n_4 (.int .i64 1)) w fun t_34 w =>
    lp (fun σ w again_37 => pop σ fun start_35 σ => pop σ fun t_36 σ => fin σ <|
      pvv prog (binOp .lss 3 t_36 t_34) w fun t_38 w =>
      cd t_38 (
        pvv prog (Instr.sliceAt 9 s_p0 (some start_35) none none) w fun t_39 w =>
        Calls prog 122 #[t_39] w (Ret fun t_40 w =>
        pvv prog (Instr.extract t_40 0) w fun t_41 w =>
        pvv prog (Instr.extract t_40 1) w fun t_42 w =>
        pvv prog (binOp .add 3 start_35 t_42) w fun t_43 w =>
        pvv prog (Instr.sliceAt 9 s_p0 (some start_35) (some t_43) none) w fun t_44 w =>
        Calls prog 156 #[b_5, t_44] w (Ret fun t_45 w =>
        Calls prog 156 #[b_5, new_p2] w (Ret fun t_46 w =>
        pvv prog (binOp .add 3 t_36 (.int .i64 1)) w fun t_47 w =>
        again_37 [t_43, t_47] w)))) <|
      k_17 [start_35] w) [(.int .i64 0), (.int .i64 0)] w))) fun k_48 =>
  Calls prog 115 #[s_p0, old_p1] w (Ret fun t_49 w =>
  pvv prog (oEq .eql 3 (.tmp 27) (.const (.int .i64 0)) t_49 (.int .i64 0)) w fun t_50 w =>
  cd t_50 (
    K s_p0 w) <|
  pvv prog (binOp .lss 3 n_p3 (.int .i64 0)) w fun t_51 w =>
  gate (some (t_51, false)) (fun K => K t_49 w) w fun t_52 w =>
  gate (some (t_51, false)) (fun K => K n_p3 w) w fun t_53 w =>
  gate (some (t_51, false)) (fun K => pvv prog (binOp .lss 3 t_52 t_53) w K) w fun t_54 w =>
  pv prog (oPick t_51 (.bool true) t_54) w fun t_55 w =>
  cd t_55 (
    k_48 [t_49] w) <|
  k_48 [n_p3] w)
theorem B125_eq (s_p0 old_p1 new_p2 n_p3 : Value) (w : World) (K : Value → World → Prop) : denFn prog Tryz.f125 T125 [s_p0, old_p1, new_p2, n_p3] w K = B125 s_p0 old_p1 new_p2 n_p3 w K := by kernel_rfl
theorem c125 {s_p0 old_p1 new_p2 n_p3 : Value} {w : World} {K : Value → World → Prop} (h : B125 s_p0 old_p1 new_p2 n_p3 w K) : Calls prog 125 #[s_p0, old_p1, new_p2, n_p3] w (Ret K) :=
  denFn_calls Tryz.func125 T125_ok (Eq.mpr (B125_eq s_p0 old_p1 new_p2 n_p3 w K) h)

-- 68 holdfast/hash.Tag
def T68 : Ann := (.seq .none (.meet 64545 [0] (.seq .none (.seq (.seq .none .none) .none)) (.seq .none (.seq .none (.seq .none (.seq (.seq .none (.block (.loop 17178820864 [20] (.seq .none (.seq (.seq .none .none) (.seq (.block (.seq .none (.seq .none .none))) .none)))))) (.seq .none (.seq (.draw [.op 0 .pure, .op 1 .pure, .op 2 .eff, .op 3 .eff, .op 4 .eff]) .none))))))))
theorem T68_ok : chkFn prog Tryz.f68 T68 = true := by kernel_rfl
def B68 (key_p0 b_p1 : Value) (w : World) (K : Value → World → Prop) : Prop :=
  efv prog (Instr.alloc 28 true (.tuple #[])) w fun t_0 w =>
  jn (fun σ w => pop σ fun key_1 σ => fin σ <|
    efv prog (Instr.alloc 171 true (.tuple #[])) w fun in_2 w =>
    efv prog (Instr.alloc 171 true (.tuple #[])) w fun out_3 w =>
    pvv prog (Instr.sliceAt 171 in_2 none none none) w fun t_4 w =>
    ef prog (oBi .copy #[22, 22] 3 #[false, false] #[t_4, key_1]) w fun t_5 w =>
    ldv prog (Instr.loadAt 171 in_2) w fun t_6 w =>
    efu prog (Instr.storeAt 171 out_3 t_6) w fun u_7 w =>
    lp (fun σ w again_9 => pop σ fun t_8 σ => fin σ <|
      pvv prog (binOp .lss 3 t_8 (.int .i64 64)) w fun t_10 w =>
      cd t_10 (
        pvv prog (Instr.indexAt 171 in_2 t_8) w fun t_11 w =>
        ldv prog (Instr.loadAt 5 t_11) w fun t_12 w =>
        pvv prog (binOp .xor 5 t_12 (.int .u8 54)) w fun t_13 w =>
        pvv prog (Instr.indexAt 171 in_2 t_8) w fun t_14 w =>
        efu prog (Instr.storeAt 5 t_14 t_13) w fun u_15 w =>
        pvv prog (Instr.indexAt 171 out_3 t_8) w fun t_16 w =>
        ldv prog (Instr.loadAt 5 t_16) w fun t_17 w =>
        pvv prog (binOp .xor 5 t_17 (.int .u8 92)) w fun t_18 w =>
        pvv prog (Instr.indexAt 171 out_3 t_8) w fun t_19 w =>
        efu prog (Instr.storeAt 5 t_19 t_18) w fun u_20 w =>
        pvv prog (binOp .add 3 t_8 (.int .i64 1)) w fun t_21 w =>
        again_9 [t_21] w) <|
      pvv prog (Instr.sliceAt 171 in_2 none none none) w fun t_22 w =>
      ef prog (oBi .append #[22, 22] 22 #[false, false] #[t_22, b_p1]) w fun t_23 w =>
      Calls prog 7 #[t_23] w (Ret fun t_24 w =>
      efv prog (Instr.alloc 28 true (.tuple #[])) w fun h_25 w =>
      efu prog (Instr.storeAt 28 h_25 t_24) w fun u_26 w =>
      dr w fun w =>
      pvv prog (Instr.sliceAt 171 out_3 none none none) w fun t_27 w =>
      pvv prog (Instr.sliceAt 28 h_25 none none none) w fun t_28 w =>
      ef prog (oBi .append #[22, 22] 22 #[false, false] #[t_27, t_28]) w fun t_29 w =>
      Calls prog 7 #[t_29] w (Ret fun t_30 w =>
      efu prog (Instr.storeAt 28 t_0 t_30) w fun u_31 w =>
      ∃ r_32, (do loadVar 28 (← asAddr t_0)).run prog w = .ok r_32 w ∧ K r_32 w))) [(.int .i64 0)] w) fun k_36 =>
  pv prog (oBi .len #[22] 3 #[false] #[key_p0]) w fun t_37 w =>
  pvv prog (binOp .gtr 3 t_37 (.int .i64 64)) w fun t_38 w =>
  cd t_38 (
    Calls prog 7 #[key_p0] w (Ret fun t_39 w =>
    efv prog (Instr.alloc 28 true (.tuple #[])) w fun h_40 w =>
    efu prog (Instr.storeAt 28 h_40 t_39) w fun u_41 w =>
    pvv prog (Instr.sliceAt 28 h_40 none none none) w fun t_42 w =>
    k_36 [t_42] w)) <|
  k_36 [key_p0] w
theorem B68_eq (key_p0 b_p1 : Value) (w : World) (K : Value → World → Prop) : denFn prog Tryz.f68 T68 [key_p0, b_p1] w K = B68 key_p0 b_p1 w K := by kernel_rfl
theorem c68 {key_p0 b_p1 : Value} {w : World} {K : Value → World → Prop} (h : B68 key_p0 b_p1 w K) : Calls prog 68 #[key_p0, b_p1] w (Ret K) :=
  denFn_calls Tryz.func68 T68_ok (Eq.mpr (B68_eq key_p0 b_p1 w K) h)

-- 11 (*holdfast/keys.Tree).Seal
def T11 : Ann := (.seq .none (.seq .none (.seq (.seq .none (.seq (.seq .none .none) .none)) (.seq .none (.seq (.draw [.op 1 .pure, .op 2 .pure, .op 3 .pure, .op 6 .pure, .op 0 .load, .op 4 .load, .op 5 .pure, .op 7 .eff, .op 8 .pure, .op 9 .pure, .op 10 .pure, .op 11 .pure, .op 12 .pure]) (.seq (.block (.seq .none (.seq (.seq .none .none) (.seq .none (.seq (.seq .none .none) .none))))) (.seq .none (.seq .none .none))))))))
theorem T11_ok : chkFn prog Tryz.f11 T11 = true := by kernel_rfl
def B11 (t_p0 tenant_p1 name_p2 plain_p3 : Value) (w : World) (K : Value → World → Prop) : Prop :=
  Calls prog 31 #[t_p0, tenant_p1, name_p2] w (Ret fun t_0 w =>
  pvv prog (Instr.extract t_0 0) w fun t_1 w =>
  pvv prog (Instr.extract t_0 1) w fun t_2 w =>
  pvv prog (oEq .neq 32 (.tmp 22) (.const (.int .i64 0)) t_2 (.int .i64 0)) w fun t_3 w =>
  cd t_3 (
    K (.tuple #[(.slice none 0 0), t_2]) w) <|
  Calls prog 32 #[t_p0, tenant_p1, name_p2, t_1] w (Ret fun t_4 w =>
  pvv prog (Instr.extract t_4 0) w fun t_5 w =>
  pvv prog (Instr.extract t_4 1) w fun t_6 w =>
  efv prog (Instr.alloc 28 true (.tuple #[])) w fun k_7 w =>
  efu prog (Instr.storeAt 28 k_7 t_5) w fun u_8 w =>
  dr w fun w =>
  pv prog (oNil t_p0) w fun t_9 w =>
  pvv prog (Instr.fieldAt 73 t_9 1) w fun t_10 w =>
  bindS (vN (Instr.loadAt 28 k_7)) fun m_12 => ldv prog (Instr.loadAt 28 k_7) w fun t_11 w =>
  bindS (vN (Instr.loadAt 3 t_10)) fun m_14 => ldv prog (Instr.loadAt 3 t_10) w fun t_13 w =>
  pvv prog (convert 3 79 t_13) w fun t_15 w =>
  Calls prog 33 #[t_11, t_15, plain_p3] w (Ret fun t_16 w => stay prog none m_14 t_13 w <| 
  pvv prog (Instr.extract t_16 0) w fun t_17 w =>
  pvv prog (Instr.extract t_16 1) w fun t_18 w =>
  pvv prog (oEq .neq 32 (.tmp 45) (.const (.int .i64 0)) t_18 (.int .i64 0)) w fun t_19 w =>
  cd t_19 (
    K (.tuple #[(.slice none 0 0), t_18]) w) <|
  pv prog (oNil t_p0) w fun t_20 w =>
  pvv prog (Instr.fieldAt 73 t_20 1) w fun t_21 w =>
  ldv prog (Instr.loadAt 3 t_21) w fun t_22 w =>
  pvv prog (binOp .geq 3 t_22 (.int .i64 1099511627776)) w fun t_23 w =>
  cd t_23 (
    K (.tuple #[(.slice none 0 0), (.int .i64 7)]) w) <|
  pv prog (oNil t_p0) w fun t_24 w =>
  pvv prog (Instr.fieldAt 73 t_24 1) w fun t_25 w =>
  ldv prog (Instr.loadAt 3 t_25) w fun t_26 w =>
  pvv prog (binOp .add 3 t_26 (.int .i64 1)) w fun t_27 w =>
  pv prog (oNil t_p0) w fun t_28 w =>
  pvv prog (Instr.fieldAt 73 t_28 1) w fun t_29 w =>
  efu prog (Instr.storeAt 3 t_29 t_27) w fun u_30 w =>
  pvv prog (convert 3 5 t_1) w fun t_31 w =>
  efv prog (Instr.buildSlice 22 1 #[(0, t_31)]) w fun t_32 w =>
  ef prog (oBi .append #[22, 22] 22 #[false, false] #[t_32, t_17]) w fun t_33 w =>
  K (.tuple #[t_33, (.int .i64 0)]) w)))
theorem B11_eq (t_p0 tenant_p1 name_p2 plain_p3 : Value) (w : World) (K : Value → World → Prop) : denFn prog Tryz.f11 T11 [t_p0, tenant_p1, name_p2, plain_p3] w K = B11 t_p0 tenant_p1 name_p2 plain_p3 w K := by kernel_rfl
theorem c11 {t_p0 tenant_p1 name_p2 plain_p3 : Value} {w : World} {K : Value → World → Prop} (h : B11 t_p0 tenant_p1 name_p2 plain_p3 w K) : Calls prog 11 #[t_p0, tenant_p1, name_p2, plain_p3] w (Ret K) :=
  denFn_calls Tryz.func11 T11_ok (Eq.mpr (B11_eq t_p0 tenant_p1 name_p2 plain_p3 w K) h)

-- 36 holdfast/audit.take
def T36 : Ann := (.seq .none (.seq (.seq .none (.seq (.seq .none .none) .none)) (.seq (.draw [.op 0 .pure, .op 1 .pure, .op 2 .pure, .op 3 .pure, .op 4 .load, .op 5 .pure, .op 6 .load, .op 7 .eff]) (.seq .none .none))))
theorem T36_ok : chkFn prog Tryz.f36 T36 = true := by kernel_rfl
def B36 (r_p0 key_p1 h_p2 : Value) (w : World) (K : Value → World → Prop) : Prop :=
  efv prog (Instr.box 41 r_p0) w fun r_0 w =>
  pvv prog (Instr.fieldAt 41 r_0 0) w fun t_1 w =>
  ldv prog (Instr.loadAt 9 t_1) w fun t_2 w =>
  pvv prog (oEq .neq 9 (.tmp 8) (.tmp 9) t_2 key_p1) w fun t_3 w =>
  gate (some (t_3, false)) (fun K => pvv prog (Instr.fieldAt 41 r_0 1) w K) w fun t_4 w =>
  gate (some (t_3, false)) (fun K => ldv prog (Instr.loadAt 39 t_4) w K) w fun t_5 w =>
  gate (some (t_3, false)) (fun K => pv prog (oBi .len #[39] 3 #[false] #[t_5]) w K) w fun t_6 w =>
  gate (some (t_3, false)) (fun K => pvv prog (oEq .neq 3 (.tmp 14) (.const (.int .i64 1)) t_6 (.int .i64 1)) w K) w fun t_7 w =>
  pv prog (oPick t_3 (.bool true) t_7) w fun t_8 w =>
  gate (some (t_8, false)) (fun K => pvv prog (Instr.fieldAt 41 r_0 1) w K) w fun t_9 w =>
  gate (some (t_8, false)) (fun K => ldv prog (Instr.loadAt 39 t_9) w K) w fun t_10 w =>
  gate (some (t_8, false)) (fun K => pvv prog (Instr.indexAt 39 t_10 (.int .i64 0)) w K) w fun t_11 w =>
  gate (some (t_8, false)) (fun K => ldv prog (Instr.loadAt 9 t_11) w K) w fun t_12 w =>
  gate (some (t_8, false)) (fun K => pv prog (oBi .len #[9] 3 #[false] #[t_12]) w K) w fun t_13 w =>
  gate (some (t_8, false)) (fun K => pvv prog (oEq .neq 3 (.tmp 22) (.const (.int .i64 32)) t_13 (.int .i64 32)) w K) w fun t_14 w =>
  pv prog (oPick t_8 (.bool true) t_14) w fun t_15 w =>
  cd t_15 (
    K (.bool false) w) <|
  dr w fun w =>
  pv prog (oNil h_p2) w fun t_16 w =>
  pvv prog (Instr.sliceAt 28 t_16 none none none) w fun t_17 w =>
  pvv prog (Instr.fieldAt 41 r_0 1) w fun t_18 w =>
  bindS (vN (Instr.loadAt 39 t_18)) fun m_20 => ldv prog (Instr.loadAt 39 t_18) w fun t_19 w =>
  pvv prog (Instr.indexAt 39 t_19 (.int .i64 0)) w fun t_21 w =>
  bindS (vN (Instr.loadAt 9 t_21)) fun m_23 => ldv prog (Instr.loadAt 9 t_21) w fun t_22 w =>
  ef prog (oBi .copy #[22, 9] 3 #[false, false] #[t_17, t_22]) w fun t_24 w => stay prog none m_20 t_19 w <| 
  K (.bool true) w
theorem B36_eq (r_p0 key_p1 h_p2 : Value) (w : World) (K : Value → World → Prop) : denFn prog Tryz.f36 T36 [r_p0, key_p1, h_p2] w K = B36 r_p0 key_p1 h_p2 w K := by kernel_rfl
theorem c36 {r_p0 key_p1 h_p2 : Value} {w : World} {K : Value → World → Prop} (h : B36 r_p0 key_p1 h_p2 w K) : Calls prog 36 #[r_p0, key_p1, h_p2] w (Ret K) :=
  denFn_calls Tryz.func36 T36_ok (Eq.mpr (B36_eq r_p0 key_p1 h_p2 w K) h)

-- 127 slices.Concat[[]byte,byte]
def T127 : Ann := (.seq .none (.seq .none (.seq (.seq .none (.block (.loop 8386600 [3, 11] (.seq .none (.seq (.seq .none .none) (.meet 4186152 [3] (.block (.seq .none (.seq .none (.seq .none (.seq .none .none))))) .none)))))) (.seq .none (.seq (.seq .none (.block (.loop 34225520960 [6, 27] (.seq .none (.seq (.seq .none .none) (.seq (.block (.seq .none .none)) .none)))))) (.seq .none .none))))))
theorem T127_ok : chkFn prog Tryz.f127 T127 = true := by kernel_rfl
def B127 (slices_p0 : Value) (w : World) (K : Value → World → Prop) : Prop :=
  pv prog (oBi .len #[232] 3 #[false] #[slices_p0]) w fun t_0 w =>
  lp (fun σ w again_3 => pop σ fun size_1 σ => pop σ fun t_2 σ => fin σ <|
    pvv prog (binOp .lss 3 t_2 t_0) w fun t_4 w =>
    cd t_4 (
      jn (fun σ w => pop σ fun size_5 σ => fin σ <|
        pvv prog (binOp .add 3 t_2 (.int .i64 1)) w fun t_6 w =>
        again_3 [size_5, t_6] w) fun k_7 =>
      pvv prog (Instr.indexAt 232 slices_p0 t_2) w fun t_8 w =>
      ldv prog (Instr.loadAt 22 t_8) w fun t_9 w =>
      pv prog (oBi .len #[22] 3 #[false] #[t_9]) w fun t_10 w =>
      pvv prog (binOp .add 3 size_1 t_10) w fun t_11 w =>
      pvv prog (binOp .lss 3 t_11 (.int .i64 0)) w fun t_12 w =>
      cd t_12 (
        pvv prog (Instr.makeInterface 9 (.string ⟨#[108, 101, 110, 32, 111, 117, 116, 32, 111, 102, 32, 114, 97, 110, 103, 101]⟩)) w fun t_13 w =>
        efv prog (Instr.panic t_13) w fun u_14 w =>
        k_7 [t_11] w) <|
      k_7 [t_11] w) <|
    Calls prog 158 #[(.slice none 0 0), size_1] w (Ret fun t_15 w =>
    pv prog (oBi .len #[232] 3 #[false] #[slices_p0]) w fun t_16 w =>
    lp (fun σ w again_19 => pop σ fun newslice_17 σ => pop σ fun t_18 σ => fin σ <|
      pvv prog (binOp .lss 3 t_18 t_16) w fun t_20 w =>
      cd t_20 (
        pvv prog (Instr.indexAt 232 slices_p0 t_18) w fun t_21 w =>
        ldv prog (Instr.loadAt 22 t_21) w fun t_22 w =>
        ef prog (oBi .append #[22, 22] 22 #[false, false] #[newslice_17, t_22]) w fun t_23 w =>
        pvv prog (binOp .add 3 t_18 (.int .i64 1)) w fun t_24 w =>
        again_19 [t_23, t_24] w) <|
      K newslice_17 w) [t_15, (.int .i64 0)] w)) [(.int .i64 0), (.int .i64 0)] w
theorem B127_eq (slices_p0 : Value) (w : World) (K : Value → World → Prop) : denFn prog Tryz.f127 T127 [slices_p0] w K = B127 slices_p0 w K := by kernel_rfl
theorem c127 {slices_p0 : Value} {w : World} {K : Value → World → Prop} (h : B127 slices_p0 w K) : Calls prog 127 #[slices_p0] w (Ret K) :=
  denFn_calls Tryz.func127 T127_ok (Eq.mpr (B127_eq slices_p0 w K) h)

-- 28 holdfast/audit.next
def T28 : Ann := (.seq .none (.seq (.draw [.op 0 .pure, .op 3 .pure, .op 6 .pure, .op 8 .pure, .op 1 .load, .op 4 .load, .op 7 .load, .op 9 .load, .op 2 .eff, .op 5 .eff, .op 10 .eff, .op 11 .eff, .op 12 .pure, .op 13 .pure, .op 14 .pure, .op 15 .pure, .op 16 .pure]) (.seq .none .none)))
theorem T28_ok : chkFn prog Tryz.f28 T28 = true := by kernel_rfl
def B28 (h_p0 x_p1 : Value) (w : World) (K : Value → World → Prop) : Prop :=
  efv prog (Instr.box 28 h_p0) w fun h_0 w =>
  efv prog (Instr.box 31 x_p1) w fun x_1 w =>
  efv prog (Instr.alloc 28 true (.tuple #[])) w fun t_2 w =>
  dr w fun w =>
  pvv prog (Instr.fieldAt 31 x_1 0) w fun t_3 w =>
  pvv prog (Instr.fieldAt 31 x_1 1) w fun t_4 w =>
  pvv prog (Instr.fieldAt 31 x_1 2) w fun t_5 w =>
  pvv prog (Instr.fieldAt 31 x_1 3) w fun t_6 w =>
  bindS (vN (Instr.loadAt 3 t_3)) fun m_8 => ldv prog (Instr.loadAt 3 t_3) w fun t_7 w =>
  bindS (vN (Instr.loadAt 3 t_4)) fun m_10 => ldv prog (Instr.loadAt 3 t_4) w fun t_9 w =>
  bindS (vN (Instr.loadAt 9 t_5)) fun m_12 => ldv prog (Instr.loadAt 9 t_5) w fun t_11 w =>
  bindS (vN (Instr.loadAt 9 t_6)) fun m_14 => ldv prog (Instr.loadAt 9 t_6) w fun t_13 w =>
  Calls prog 30 #[t_7] w (Ret fun t_15 w => stay prog none m_14 t_13 w <| stay prog none m_12 t_11 w <| stay prog none m_10 t_9 w <| 
  Calls prog 30 #[t_9] w (Ret fun t_16 w => stay prog none m_14 t_13 w <| stay prog none m_12 t_11 w <| stay prog none m_8 t_7 w <| 
  efv prog (Instr.buildSlice 39 4 #[(0, t_15), (1, t_16), (2, t_11), (3, t_13)]) w fun t_17 w => stay prog none m_10 t_9 w <| stay prog none m_8 t_7 w <| 
  Calls prog 50 #[t_17] w (Ret fun t_18 w => stay prog none m_14 t_13 w <| stay prog none m_12 t_11 w <| stay prog none m_10 t_9 w <| stay prog none m_8 t_7 w <| 
  pvv prog (Instr.extract t_18 0) w fun t_19 w =>
  pvv prog (Instr.extract t_18 1) w fun t_20 w =>
  ldv prog (Instr.loadAt 28 h_0) w fun t_21 w =>
  Calls prog 51 #[t_21, t_19] w (Ret fun t_22 w =>
  efu prog (Instr.storeAt 28 t_2 t_22) w fun u_23 w =>
  ∃ r_24, (do loadVar 28 (← asAddr t_2)).run prog w = .ok r_24 w ∧ K r_24 w))))
theorem B28_eq (h_p0 x_p1 : Value) (w : World) (K : Value → World → Prop) : denFn prog Tryz.f28 T28 [h_p0, x_p1] w K = B28 h_p0 x_p1 w K := by kernel_rfl
theorem c28 {h_p0 x_p1 : Value} {w : World} {K : Value → World → Prop} (h : B28 h_p0 x_p1 w K) : Calls prog 28 #[h_p0, x_p1] w (Ret K) :=
  denFn_calls Tryz.func28 T28_ok (Eq.mpr (B28_eq h_p0 x_p1 w K) h)

-- 99 strings.trimRightUnicode
def T99 : Ann := (.seq .none (.meet 8589934561 [0] (.block (.loop 8589934561 [0] (.seq (.seq .none (.seq .none .none)) (.block (.seq .none (.meet 8323168 [5, 6] (.seq .none (.seq .none .none)) (.seq (.seq .none (.seq .none .none)) .none))))))) (.seq .none .none)))
theorem T99_ok : chkFn prog Tryz.f99 T99 = true := by kernel_rfl
def B99 (s_p0 cutset_p1 : Value) (w : World) (K : Value → World → Prop) : Prop :=
  jn (fun σ w => pop σ fun s_0 σ => fin σ <|
    K s_0 w) fun k_1 =>
  lp (fun σ w again_3 => pop σ fun s_2 σ => fin σ <|
    pv prog (oBi .len #[9] 3 #[false] #[s_2]) w fun t_4 w =>
    pvv prog (binOp .gtr 3 t_4 (.int .i64 0)) w fun t_5 w =>
    cd t_5 (
      pv prog (oBi .len #[9] 3 #[false] #[s_2]) w fun t_6 w =>
      pvv prog (binOp .sub 3 t_6 (.int .i64 1)) w fun t_7 w =>
      pvv prog (Instr.index 9 s_2 t_7) w fun t_8 w =>
      pvv prog (convert 5 21 t_8) w fun t_9 w =>
      jn (fun σ w => pop σ fun r_10 σ => pop σ fun n_11 σ => fin σ <|
        Calls prog 123 #[cutset_p1, r_10] w (Ret fun t_12 w =>
        pvv prog (Op.unary .not t_12) w fun t_13 w =>
        cd t_13 (
          k_1 [s_2] w) <|
        pv prog (oBi .len #[9] 3 #[false] #[s_2]) w fun t_14 w =>
        pvv prog (binOp .sub 3 t_14 n_11) w fun t_15 w =>
        pvv prog (Instr.sliceAt 9 s_2 none (some t_15) none) w fun t_16 w =>
        again_3 [t_16] w)) fun k_17 =>
      pvv prog (binOp .geq 21 t_9 (.int .i32 128)) w fun t_18 w =>
      cd t_18 (
        Calls prog 124 #[s_2] w (Ret fun t_19 w =>
        pvv prog (Instr.extract t_19 0) w fun t_20 w =>
        pvv prog (Instr.extract t_19 1) w fun t_21 w =>
        k_17 [t_20, t_21] w)) <|
      k_17 [t_9, (.int .i64 1)] w) <|
    k_1 [s_2] w) [s_p0] w
theorem B99_eq (s_p0 cutset_p1 : Value) (w : World) (K : Value → World → Prop) : denFn prog Tryz.f99 T99 [s_p0, cutset_p1] w K = B99 s_p0 cutset_p1 w K := by kernel_rfl
theorem c99 {s_p0 cutset_p1 : Value} {w : World} {K : Value → World → Prop} (h : B99 s_p0 cutset_p1 w K) : Calls prog 99 #[s_p0, cutset_p1] w (Ret K) :=
  denFn_calls Tryz.func99 T99_ok (Eq.mpr (B99_eq s_p0 cutset_p1 w K) h)

-- 117 internal/strconv.small
def T117 : Ann := (.seq .none (.seq (.seq .none (.seq (.seq .none .none) .none)) (.seq .none .none)))
theorem T117_ok : chkFn prog Tryz.f117 T117 = true := by kernel_rfl
def B117 (i_p0 : Value) (w : World) (K : Value → World → Prop) : Prop :=
  pvv prog (binOp .lss 3 i_p0 (.int .i64 10)) w fun t_0 w =>
  cd t_0 (
    pvv prog (binOp .add 3 i_p0 (.int .i64 1)) w fun t_1 w =>
    pvv prog (Instr.sliceAt 9 (.string ⟨#[48, 49, 50, 51, 52, 53, 54, 55, 56, 57, 97, 98, 99, 100, 101, 102, 103, 104, 105, 106, 107, 108, 109, 110, 111, 112, 113, 114, 115, 116, 117, 118, 119, 120, 121, 122]⟩) (some i_p0) (some t_1) none) w fun t_2 w =>
    K t_2 w) <|
  pvv prog (binOp .mul 3 i_p0 (.int .i64 2)) w fun t_3 w =>
  pvv prog (binOp .mul 3 i_p0 (.int .i64 2)) w fun t_4 w =>
  pvv prog (binOp .add 3 t_4 (.int .i64 2)) w fun t_5 w =>
  pvv prog (Instr.sliceAt 9 (.string ⟨#[48, 48, 48, 49, 48, 50, 48, 51, 48, 52, 48, 53, 48, 54, 48, 55, 48, 56, 48, 57, 49, 48, 49, 49, 49, 50, 49, 51, 49, 52, 49, 53, 49, 54, 49, 55, 49, 56, 49, 57, 50, 48, 50, 49, 50, 50, 50, 51, 50, 52, 50, 53, 50, 54, 50, 55, 50, 56, 50, 57, 51, 48, 51, 49, 51, 50, 51, 51, 51, 52, 51, 53, 51, 54, 51, 55, 51, 56, 51, 57, 52, 48, 52, 49, 52, 50, 52, 51, 52, 52, 52, 53, 52, 54, 52, 55, 52, 56, 52, 57, 53, 48, 53, 49, 53, 50, 53, 51, 53, 52, 53, 53, 53, 54, 53, 55, 53, 56, 53, 57, 54, 48, 54, 49, 54, 50, 54, 51, 54, 52, 54, 53, 54, 54, 54, 55, 54, 56, 54, 57, 55, 48, 55, 49, 55, 50, 55, 51, 55, 52, 55, 53, 55, 54, 55, 55, 55, 56, 55, 57, 56, 48, 56, 49, 56, 50, 56, 51, 56, 52, 56, 53, 56, 54, 56, 55, 56, 56, 56, 57, 57, 48, 57, 49, 57, 50, 57, 51, 57, 52, 57, 53, 57, 54, 57, 55, 57, 56, 57, 57]⟩) (some t_3) (some t_5) none) w fun t_6 w =>
  K t_6 w
theorem B117_eq (i_p0 : Value) (w : World) (K : Value → World → Prop) : denFn prog Tryz.f117 T117 [i_p0] w K = B117 i_p0 w K := by kernel_rfl
theorem c117 {i_p0 : Value} {w : World} {K : Value → World → Prop} (h : B117 i_p0 w K) : Calls prog 117 #[i_p0] w (Ret K) :=
  denFn_calls Tryz.func117 T117_ok (Eq.mpr (B117_eq i_p0 w K) h)

-- 9 (*holdfast/audit.Chain).Anchor
def T9 : Ann := (.seq .none (.seq (.seq .none (.seq (.seq .none .none) .none)) (.seq (.draw [.op 0 .pure, .op 1 .pure, .op 3 .pure, .op 4 .pure, .op 5 .pure, .op 6 .load, .op 2 .eff, .op 7 .pure, .op 8 .pure, .op 9 .pure, .op 10 .eff]) (.seq .none .none))))
theorem T9_ok : chkFn prog Tryz.f9 T9 = true := by kernel_rfl
def B9 (c_p0 : Value) (w : World) (K : Value → World → Prop) : Prop :=
  efv prog (Instr.alloc 28 true (.tuple #[])) w fun t_0 w =>
  pvv prog (oEq .eql 23 (.tmp 4) (.const (.pointer none)) c_p0 (.pointer none)) w fun t_1 w =>
  cd t_1 (
    pvv prog (Instr.build 28 #[]) w fun t_2 w =>
    efu prog (Instr.storeAt 28 t_0 t_2) w fun u_3 w =>
    ∃ r_4, (do loadVar 28 (← asAddr t_0)).run prog w = .ok r_4 w ∧ K (.tuple #[(.int .i64 0), r_4]) w) <|
  dr w fun w =>
  pv prog (oNil c_p0) w fun t_5 w =>
  pvv prog (Instr.fieldAt 69 t_5 2) w fun t_6 w =>
  bindS (vN (Instr.loadAt 28 t_6)) fun m_8 => ldv prog (Instr.loadAt 28 t_6) w fun t_7 w =>
  Calls prog 27 #[c_p0] w (Ret fun t_9 w => stay prog none m_8 t_7 w <| 
  pvv prog (Instr.build 66 #[(0, t_9), (1, t_7)]) w fun t_10 w =>
  pv prog (oNil c_p0) w fun t_11 w =>
  pvv prog (Instr.fieldAt 69 t_11 1) w fun t_12 w =>
  efu prog (Instr.storeAt 66 t_12 t_10) w fun u_13 w =>
  Calls prog 29 #[c_p0] w (Ret fun t_14 w =>
  pvv prog (Instr.extract t_14 0) w fun t_15 w =>
  pvv prog (Instr.extract t_14 1) w fun t_16 w =>
  efu prog (Instr.storeAt 28 t_0 t_16) w fun u_17 w =>
  ∃ r_18, (do loadVar 28 (← asAddr t_0)).run prog w = .ok r_18 w ∧ K (.tuple #[t_15, r_18]) w))
theorem B9_eq (c_p0 : Value) (w : World) (K : Value → World → Prop) : denFn prog Tryz.f9 T9 [c_p0] w K = B9 c_p0 w K := by kernel_rfl
theorem c9 {c_p0 : Value} {w : World} {K : Value → World → Prop} (h : B9 c_p0 w K) : Calls prog 9 #[c_p0] w (Ret K) :=
  denFn_calls Tryz.func9 T9_ok (Eq.mpr (B9_eq c_p0 w K) h)

-- 158 slices.Grow[[]byte,byte]
def T158 : Ann := (.seq .none (.meet 224 [] (.seq .none (.seq .none .none)) (.meet 67108611 [0] (.seq .none (.seq .none (.seq .none .none))) (.seq .none .none))))
theorem T158_ok : chkFn prog Tryz.f158 T158 = true := by kernel_rfl
def B158 (s_p0 n_p1 : Value) (w : World) (K : Value → World → Prop) : Prop :=
  jn (fun σ w => fin σ <|
    jn (fun σ w => pop σ fun s_0 σ => fin σ <|
      K s_0 w) fun k_1 =>
    pv prog (oBi .cap #[22] 3 #[false] #[s_p0]) w fun t_2 w =>
    pv prog (oBi .len #[22] 3 #[false] #[s_p0]) w fun t_3 w =>
    pvv prog (binOp .sub 3 t_2 t_3) w fun t_4 w =>
    pvv prog (binOp .sub 3 n_p1 t_4) w fun t_5 w =>
    pvv prog (binOp .gtr 3 t_5 (.int .i64 0)) w fun t_6 w =>
    cd t_6 (
      pv prog (oBi .cap #[22] 3 #[false] #[s_p0]) w fun t_7 w =>
      pvv prog (Instr.sliceAt 22 s_p0 none (some t_7) none) w fun t_8 w =>
      ef prog (oBi .append #[22, 3] 22 #[false, false] #[t_8, t_5]) w fun t_9 w =>
      pv prog (oBi .len #[22] 3 #[false] #[s_p0]) w fun t_10 w =>
      pvv prog (Instr.sliceAt 22 t_9 none (some t_10) none) w fun t_11 w =>
      k_1 [t_11] w) <|
    k_1 [s_p0] w) fun k_12 =>
  pvv prog (binOp .lss 3 n_p1 (.int .i64 0)) w fun t_13 w =>
  cd t_13 (
    pvv prog (Instr.makeInterface 9 (.string ⟨#[99, 97, 110, 110, 111, 116, 32, 98, 101, 32, 110, 101, 103, 97, 116, 105, 118, 101]⟩)) w fun t_14 w =>
    efv prog (Instr.panic t_14) w fun u_15 w =>
    k_12 [] w) <|
  k_12 [] w
theorem B158_eq (s_p0 n_p1 : Value) (w : World) (K : Value → World → Prop) : denFn prog Tryz.f158 T158 [s_p0, n_p1] w K = B158 s_p0 n_p1 w K := by kernel_rfl
theorem c158 {s_p0 n_p1 : Value} {w : World} {K : Value → World → Prop} (h : B158 s_p0 n_p1 w K) : Calls prog 158 #[s_p0, n_p1] w (Ret K) :=
  denFn_calls Tryz.func158 T158_ok (Eq.mpr (B158_eq s_p0 n_p1 w K) h)

-- 94 strings.trimRightByte
def T94 : Ann := (.seq .none (.seq (.block (.loop 4194273 [0] (.seq (.seq .none (.seq .none .none)) (.block .none)))) (.seq .none .none)))
theorem T94_ok : chkFn prog Tryz.f94 T94 = true := by kernel_rfl
def B94 (s_p0 c_p1 : Value) (w : World) (K : Value → World → Prop) : Prop :=
  lp (fun σ w again_1 => pop σ fun s_0 σ => fin σ <|
    pv prog (oBi .len #[9] 3 #[false] #[s_0]) w fun t_2 w =>
    pvv prog (binOp .gtr 3 t_2 (.int .i64 0)) w fun t_3 w =>
    gate (some (t_3, true)) (fun K => K s_0 w) w fun t_4 w =>
    gate (some (t_3, true)) (fun K => K s_0 w) w fun t_5 w =>
    gate (some (t_3, true)) (fun K => pv prog (oBi .len #[9] 3 #[false] #[t_5]) w K) w fun t_6 w =>
    gate (some (t_3, true)) (fun K => pvv prog (binOp .sub 3 t_6 (.int .i64 1)) w K) w fun t_7 w =>
    gate (some (t_3, true)) (fun K => pvv prog (Instr.index 9 t_4 t_7) w K) w fun t_8 w =>
    gate (some (t_3, true)) (fun K => K c_p1 w) w fun t_9 w =>
    gate (some (t_3, true)) (fun K => pvv prog (oEq .eql 5 (.tmp 13) (.tmp 14) t_8 t_9) w K) w fun t_10 w =>
    pv prog (oPick t_3 t_10 (.bool false)) w fun t_11 w =>
    cd t_11 (
      pv prog (oBi .len #[9] 3 #[false] #[s_0]) w fun t_12 w =>
      pvv prog (binOp .sub 3 t_12 (.int .i64 1)) w fun t_13 w =>
      pvv prog (Instr.sliceAt 9 s_0 none (some t_13) none) w fun t_14 w =>
      again_1 [t_14] w) <|
    K s_0 w) [s_p0] w
theorem B94_eq (s_p0 c_p1 : Value) (w : World) (K : Value → World → Prop) : denFn prog Tryz.f94 T94 [s_p0, c_p1] w K = B94 s_p0 c_p1 w K := by kernel_rfl
theorem c94 {s_p0 c_p1 : Value} {w : World} {K : Value → World → Prop} (h : B94 s_p0 c_p1 w K) : Calls prog 94 #[s_p0, c_p1] w (Ret K) :=
  denFn_calls Tryz.func94 T94_ok (Eq.mpr (B94_eq s_p0 c_p1 w K) h)

-- 182 (*strings.Builder).copyCheck
def T182 : Ann := (.seq .none (.seq .none (.seq .none (.seq .none .none))))
theorem T182_ok : chkFn prog Tryz.f182 T182 = true := by kernel_rfl
def B182 (b_p0 : Value) (w : World) (K : Value → World → Prop) : Prop :=
  pv prog (oNil b_p0) w fun t_0 w =>
  pvv prog (Instr.fieldAt 227 t_0 0) w fun t_1 w =>
  ldv prog (Instr.loadAt 225 t_1) w fun t_2 w =>
  pvv prog (oEq .eql 225 (.tmp 5) (.const (.pointer none)) t_2 (.pointer none)) w fun t_3 w =>
  cd t_3 (
    efv prog (convert 225 259 b_p0) w fun t_4 w =>
    ef prog (oCall (.func (.func 191) #[] #[]) #[t_4]) w fun t_5 w =>
    efv prog (convert 259 225 t_5) w fun t_6 w =>
    pv prog (oNil b_p0) w fun t_7 w =>
    pvv prog (Instr.fieldAt 227 t_7 0) w fun t_8 w =>
    efu prog (Instr.storeAt 225 t_8 t_6) w fun u_9 w =>
    K (.tuple #[]) w) <|
  pv prog (oNil b_p0) w fun t_10 w =>
  pvv prog (Instr.fieldAt 227 t_10 0) w fun t_11 w =>
  ldv prog (Instr.loadAt 225 t_11) w fun t_12 w =>
  pvv prog (oEq .neq 225 (.tmp 17) (.tmp 18) t_12 b_p0) w fun t_13 w =>
  cd t_13 (
    False) <|
  K (.tuple #[]) w
theorem B182_eq (b_p0 : Value) (w : World) (K : Value → World → Prop) : denFn prog Tryz.f182 T182 [b_p0] w K = B182 b_p0 w K := by kernel_rfl
theorem c182 {b_p0 : Value} {w : World} {K : Value → World → Prop} (h : B182 b_p0 w K) : Calls prog 182 #[b_p0] w (Ret K) :=
  denFn_calls Tryz.func182 T182_ok (Eq.mpr (B182_eq b_p0 w K) h)

-- 52 holdfast/codec.Number
def T52 : Ann := (.seq .none (.seq (.seq .none (.seq (.seq .none .none) .none)) (.seq .none (.seq .none .none))))
theorem T52_ok : chkFn prog Tryz.f52 T52 = true := by kernel_rfl
def B52 (n_p0 : Value) (w : World) (K : Value → World → Prop) : Prop :=
  pvv prog (binOp .lss 3 n_p0 (.int .i64 0)) w fun t_0 w =>
  gate (some (t_0, false)) (fun K => K n_p0 w) w fun t_1 w =>
  gate (some (t_0, false)) (fun K => pvv prog (binOp .gtr 3 t_1 (.int .i64 4611686018427387904)) w K) w fun t_2 w =>
  pv prog (oPick t_0 (.bool true) t_2) w fun t_3 w =>
  cd t_3 (
    K (.tuple #[(.string ⟨#[]⟩), (.int .i64 2)]) w) <|
  Calls prog 70 #[n_p0, (.int .i64 16)] w (Ret fun t_4 w =>
  Calls prog 69 #[t_4, (.string ⟨#[48]⟩)] w (Ret fun t_5 w =>
  pv prog (oBi .len #[9] 3 #[false] #[t_5]) w fun t_6 w =>
  pvv prog (binOp .add 3 (.int .i64 97) t_6) w fun t_7 w =>
  pvv prog (convert 3 21 t_7) w fun t_8 w =>
  pvv prog (convert 21 9 t_8) w fun t_9 w =>
  pvv prog (binOp .add 9 t_9 t_5) w fun t_10 w =>
  K (.tuple #[t_10, (.int .i64 0)]) w))
theorem B52_eq (n_p0 : Value) (w : World) (K : Value → World → Prop) : denFn prog Tryz.f52 T52 [n_p0] w K = B52 n_p0 w K := by kernel_rfl
theorem c52 {n_p0 : Value} {w : World} {K : Value → World → Prop} (h : B52 n_p0 w K) : Calls prog 52 #[n_p0] w (Ret K) :=
  denFn_calls Tryz.func52 T52_ok (Eq.mpr (B52_eq n_p0 w K) h)

-- 181 unicode/utf8.ValidRune
def T181 : Ann := (.seq .none (.seq (.block (.seq .none (.seq (.seq .none .none) (.seq .none (.seq (.seq .none .none) .none))))) (.seq .none .none)))
theorem T181_ok : chkFn prog Tryz.f181 T181 = true := by kernel_rfl
def B181 (r_p0 : Value) (w : World) (K : Value → World → Prop) : Prop :=
  pvv prog (binOp .leq 21 (.int .i32 0) r_p0) w fun t_0 w =>
  gate (some (t_0, true)) (fun K => K r_p0 w) w fun t_1 w =>
  gate (some (t_0, true)) (fun K => pvv prog (binOp .lss 21 t_1 (.int .i32 55296)) w K) w fun t_2 w =>
  pv prog (oPick t_0 t_2 (.bool false)) w fun t_3 w =>
  cd t_3 (
    K (.bool true) w) <|
  pvv prog (binOp .lss 21 (.int .i32 57343) r_p0) w fun t_4 w =>
  gate (some (t_4, true)) (fun K => K r_p0 w) w fun t_5 w =>
  gate (some (t_4, true)) (fun K => pvv prog (binOp .leq 21 t_5 (.int .i32 1114111)) w K) w fun t_6 w =>
  pv prog (oPick t_4 t_6 (.bool false)) w fun t_7 w =>
  cd t_7 (
    K (.bool true) w) <|
  K (.bool false) w
theorem B181_eq (r_p0 : Value) (w : World) (K : Value → World → Prop) : denFn prog Tryz.f181 T181 [r_p0] w K = B181 r_p0 w K := by kernel_rfl
theorem c181 {r_p0 : Value} {w : World} {K : Value → World → Prop} (h : B181 r_p0 w K) : Calls prog 181 #[r_p0] w (Ret K) :=
  denFn_calls Tryz.func181 T181_ok (Eq.mpr (B181_eq r_p0 w K) h)

-- 178 math/bits.TrailingZeros32
def T178 : Ann := (.seq .none (.seq (.seq .none (.seq (.seq .none .none) .none)) (.seq .none .none)))
theorem T178_ok : chkFn prog Tryz.f178 T178 = true := by kernel_rfl
def B178 (x_p0 : Value) (w : World) (K : Value → World → Prop) : Prop :=
  pvv prog (oEq .eql 74 (.tmp 3) (.const (.int .u32 0)) x_p0 (.int .u32 0)) w fun t_0 w =>
  cd t_0 (
    K (.int .i64 32) w) <|
  pvv prog (Op.unary .neg x_p0) w fun t_1 w =>
  pvv prog (binOp .and 74 x_p0 t_1) w fun t_2 w =>
  pvv prog (binOp .mul 74 t_2 (.int .u32 125613361)) w fun t_3 w =>
  pvv prog (binOp .shr 74 t_3 (.int .u64 27)) w fun t_4 w =>
  pvv prog (Instr.indexAt 27 (.pointer (some ⟨6, 0, none⟩)) t_4) w fun t_5 w =>
  ldv prog (Instr.loadAt 5 t_5) w fun t_6 w =>
  pvv prog (convert 5 3 t_6) w fun t_7 w =>
  K t_7 w
theorem B178_eq (x_p0 : Value) (w : World) (K : Value → World → Prop) : denFn prog Tryz.f178 T178 [x_p0] w K = B178 x_p0 w K := by kernel_rfl
theorem c178 {x_p0 : Value} {w : World} {K : Value → World → Prop} (h : B178 x_p0 w K) : Calls prog 178 #[x_p0] w (Ret K) :=
  denFn_calls Tryz.func178 T178_ok (Eq.mpr (B178_eq x_p0 w K) h)

-- 131 strconv.rangeError
def T131 : Ann := (.seq .none (.seq (.draw [.op 0 .pure, .op 1 .pure, .op 3 .load, .op 2 .eff, .op 4 .pure, .op 5 .eff, .op 6 .pure]) .none))
theorem T131_ok : chkFn prog Tryz.f131 T131 = true := by kernel_rfl
def B131 (fn_p0 str_p1 : Value) (w : World) (K : Value → World → Prop) : Prop :=
  dr w fun w =>
  bindS (vN (Instr.loadAt 151 (.pointer (some ⟨2, 0, none⟩)))) fun m_1 => ldv prog (Instr.loadAt 151 (.pointer (some ⟨2, 0, none⟩))) w fun t_0 w =>
  Calls prog 159 #[str_p1] w (Ret fun t_2 w => stay prog none m_1 t_0 w <| 
  pvv prog (Instr.build 236 #[(0, fn_p0), (1, t_2), (2, t_0)]) w fun t_3 w =>
  efv prog (Instr.box 236 t_3) w fun t_4 w => stay prog none m_1 t_0 w <| 
  K t_4 w)
theorem B131_eq (fn_p0 str_p1 : Value) (w : World) (K : Value → World → Prop) : denFn prog Tryz.f131 T131 [fn_p0, str_p1] w K = B131 fn_p0 str_p1 w K := by kernel_rfl
theorem c131 {fn_p0 str_p1 : Value} {w : World} {K : Value → World → Prop} (h : B131 fn_p0 str_p1 w K) : Calls prog 131 #[fn_p0, str_p1] w (Ret K) :=
  denFn_calls Tryz.func131 T131_ok (Eq.mpr (B131_eq fn_p0 str_p1 w K) h)

-- 145 unicode/utf8.RuneCountInString
def T145 : Ann := (.seq .none (.seq (.seq .none (.block (.loop 484 [2] (.seq .none (.seq (.seq .none .none) (.block .none)))))) (.seq .none .none)))
theorem T145_ok : chkFn prog Tryz.f145 T145 = true := by kernel_rfl
def B145 (s_p0 : Value) (w : World) (K : Value → World → Prop) : Prop :=
  efv prog (Instr.range 9 s_p0) w fun t_0 w =>
  lp (fun σ w again_2 => pop σ fun n_1 σ => fin σ <|
    efv prog (Instr.next t_0 true 0) w fun t_3 w =>
    pvv prog (Instr.extract t_3 0) w fun t_4 w =>
    cd t_4 (
      pvv prog (binOp .add 3 n_1 (.int .i64 1)) w fun t_5 w =>
      again_2 [t_5] w) <|
    K n_1 w) [(.int .i64 0)] w
theorem B145_eq (s_p0 : Value) (w : World) (K : Value → World → Prop) : denFn prog Tryz.f145 T145 [s_p0] w K = B145 s_p0 w K := by kernel_rfl
theorem c145 {s_p0 : Value} {w : World} {K : Value → World → Prop} (h : B145 s_p0 w K) : Calls prog 145 #[s_p0] w (Ret K) :=
  denFn_calls Tryz.func145 T145_ok (Eq.mpr (B145_eq s_p0 w K) h)

-- 91 internal/stringslite.TrimPrefix
def T91 : Ann := (.seq .none (.seq (.seq .none (.seq (.seq .none .none) .none)) (.seq .none .none)))
theorem T91_ok : chkFn prog Tryz.f91 T91 = true := by kernel_rfl
def B91 (s_p0 prefix_p1 : Value) (w : World) (K : Value → World → Prop) : Prop :=
  Calls prog 102 #[s_p0, prefix_p1] w (Ret fun t_0 w =>
  cd t_0 (
    pv prog (oBi .len #[9] 3 #[false] #[prefix_p1]) w fun t_1 w =>
    pvv prog (Instr.sliceAt 9 s_p0 (some t_1) none none) w fun t_2 w =>
    K t_2 w) <|
  K s_p0 w)
theorem B91_eq (s_p0 prefix_p1 : Value) (w : World) (K : Value → World → Prop) : denFn prog Tryz.f91 T91 [s_p0, prefix_p1] w K = B91 s_p0 prefix_p1 w K := by kernel_rfl
theorem c91 {s_p0 prefix_p1 : Value} {w : World} {K : Value → World → Prop} (h : B91 s_p0 prefix_p1 w K) : Calls prog 91 #[s_p0, prefix_p1] w (Ret K) :=
  denFn_calls Tryz.func91 T91_ok (Eq.mpr (B91_eq s_p0 prefix_p1 w K) h)

-- 101 holdfast/seal.blocks
def T101 : Ann := (.seq .none (.seq .none .none))
theorem T101_ok : chkFn prog Tryz.f101 T101 = true := by kernel_rfl
def B101 (key_p0 once_p1 : Value) (w : World) (K : Value → World → Prop) : Prop :=
  efv prog (Instr.box 28 key_p0) w fun key_0 w =>
  efv prog (Instr.box 79 once_p1) w fun once_1 w =>
  pvv prog (Instr.makeFunc (.func 126) #[] #[key_0, once_1]) w fun t_2 w =>
  K t_2 w
theorem B101_eq (key_p0 once_p1 : Value) (w : World) (K : Value → World → Prop) : denFn prog Tryz.f101 T101 [key_p0, once_p1] w K = B101 key_p0 once_p1 w K := by kernel_rfl
theorem c101 {key_p0 once_p1 : Value} {w : World} {K : Value → World → Prop} (h : B101 key_p0 once_p1 w K) : Calls prog 101 #[key_p0, once_p1] w (Ret K) :=
  denFn_calls Tryz.func101 T101_ok (Eq.mpr (B101_eq key_p0 once_p1 w K) h)

-- 160 errors.New
def T160 : Ann := (.seq .none (.seq .none .none))
theorem T160_ok : chkFn prog Tryz.f160 T160 = true := by kernel_rfl
def B160 (text_p0 : Value) (w : World) (K : Value → World → Prop) : Prop :=
  pvv prog (Instr.build 253 #[(0, text_p0)]) w fun t_0 w =>
  efv prog (Instr.box 253 t_0) w fun t_1 w =>
  pvv prog (Instr.makeInterface 251 t_1) w fun t_2 w =>
  K t_2 w
theorem B160_eq (text_p0 : Value) (w : World) (K : Value → World → Prop) : denFn prog Tryz.f160 T160 [text_p0] w K = B160 text_p0 w K := by kernel_rfl
theorem c160 {text_p0 : Value} {w : World} {K : Value → World → Prop} (h : B160 text_p0 w K) : Calls prog 160 #[text_p0] w (Ret K) :=
  denFn_calls Tryz.func160 T160_ok (Eq.mpr (B160_eq text_p0 w K) h)

-- 116 strings.Index
def T116 : Ann := (.seq .none (.seq .none .none))
theorem T116_ok : chkFn prog Tryz.f116 T116 = true := by kernel_rfl
def B116 (s_p0 substr_p1 : Value) (w : World) (K : Value → World → Prop) : Prop :=
  Calls prog 147 #[s_p0, substr_p1] w (Ret fun t_0 w =>
  K t_0 w)
theorem B116_eq (s_p0 substr_p1 : Value) (w : World) (K : Value → World → Prop) : denFn prog Tryz.f116 T116 [s_p0, substr_p1] w K = B116 s_p0 substr_p1 w K := by kernel_rfl
theorem c116 {s_p0 substr_p1 : Value} {w : World} {K : Value → World → Prop} (h : B116 s_p0 substr_p1 w K) : Calls prog 116 #[s_p0, substr_p1] w (Ret K) :=
  denFn_calls Tryz.func116 T116_ok (Eq.mpr (B116_eq s_p0 substr_p1 w K) h)

-- 69 strings.TrimPrefix
def T69 : Ann := (.seq .none (.seq .none .none))
theorem T69_ok : chkFn prog Tryz.f69 T69 = true := by kernel_rfl
def B69 (s_p0 prefix_p1 : Value) (w : World) (K : Value → World → Prop) : Prop :=
  Calls prog 91 #[s_p0, prefix_p1] w (Ret fun t_0 w =>
  K t_0 w)
theorem B69_eq (s_p0 prefix_p1 : Value) (w : World) (K : Value → World → Prop) : denFn prog Tryz.f69 T69 [s_p0, prefix_p1] w K = B69 s_p0 prefix_p1 w K := by kernel_rfl
theorem c69 {s_p0 prefix_p1 : Value} {w : World} {K : Value → World → Prop} (h : B69 s_p0 prefix_p1 w K) : Calls prog 69 #[s_p0, prefix_p1] w (Ret K) :=
  denFn_calls Tryz.func69 T69_ok (Eq.mpr (B69_eq s_p0 prefix_p1 w K) h)

-- 37 (*holdfast/audit.Chain).links
def T37 : Ann := (.seq .none (.seq .none .none))
theorem T37_ok : chkFn prog Tryz.f37 T37 = true := by kernel_rfl
def B37 (c_p0 : Value) (w : World) (K : Value → World → Prop) : Prop :=
  efv prog (Instr.box 23 c_p0) w fun c_0 w =>
  pvv prog (Instr.makeFunc (.func 60) #[] #[c_0]) w fun t_1 w =>
  K t_1 w
theorem B37_eq (c_p0 : Value) (w : World) (K : Value → World → Prop) : denFn prog Tryz.f37 T37 [c_p0] w K = B37 c_p0 w K := by kernel_rfl
theorem c37 {c_p0 : Value} {w : World} {K : Value → World → Prop} (h : B37 c_p0 w K) : Calls prog 37 #[c_p0] w (Ret K) :=
  denFn_calls Tryz.func37 T37_ok (Eq.mpr (B37_eq c_p0 w K) h)

-- 128 internal/strconv.lower
def T128 : Ann := (.seq .none (.seq .none .none))
theorem T128_ok : chkFn prog Tryz.f128 T128 = true := by kernel_rfl
def B128 (c_p0 : Value) (w : World) (K : Value → World → Prop) : Prop :=
  pvv prog (binOp .or 5 c_p0 (.int .u8 32)) w fun t_0 w =>
  K t_0 w
theorem B128_eq (c_p0 : Value) (w : World) (K : Value → World → Prop) : denFn prog Tryz.f128 T128 [c_p0] w K = B128 c_p0 w K := by kernel_rfl
theorem c128 {c_p0 : Value} {w : World} {K : Value → World → Prop} (h : B128 c_p0 w K) : Calls prog 128 #[c_p0] w (Ret K) :=
  denFn_calls Tryz.func128 T128_ok (Eq.mpr (B128_eq c_p0 w K) h)


end Go.Proofs.YtmnaalpjhkkglaaGreatDoor
