import Derived.Test.YtnkmgkilfkgfhaaDoorPI
set_option linter.all false
set_option maxRecDepth 100000
namespace Go.Proofs.YtnkmgkilfkgfhaaDoor
open Go Hold
-- 50 internal/strconv.ParseUint
def T50 : Ann := (.seq .none (.seq (.seq .none (.seq (.seq .none .none) .none)) (.seq .none (.seq .none (.meet 75557863725914306642115 [0, 1] (.block (.seq .none (.seq .none (.seq .none (.seq (.seq .none (.seq .none (.seq (.block (.seq .none (.seq (.seq .none .none) (.seq .none (.seq (.seq .none .none) (.seq .none (.seq (.seq .none .none) (.seq .none .none)))))))) .none))) (.seq .none .none)))))) (.meet 38610068363942219267178692 [2] (.seq .none (.seq .none (.seq .none (.seq (.seq .none .none) .none)))) (.seq .none (.meet 19768355002338416264795390976 [10] (.seq .none (.block (.seq .none (.seq .none (.seq .none (.seq .none .none)))))) (.seq .none (.seq .none (.seq .none (.seq (.seq .none (.block (.loop 23384026197294446688723656123004069511501514518720 [12, 13, 101] (.seq .none (.seq (.seq .none .none) (.meet 11692013098647223335488273859904428945273834942656 [12, 13] (.block (.seq .none (.seq .none (.meet 21778071442375242454352634027738663030976 [12, 16] (.block (.seq .none (.seq (.seq .none .none) (.seq .none (.seq .none (.seq .none (.seq .none (.seq .none .none)))))))) (.seq (.seq .none (.seq (.seq .none .none) .none)) (.seq (.seq .none (.seq (.seq .none .none) .none)) (.seq .none (.seq .none (.seq (.seq .none (.seq (.seq .none .none) .none)) .none))))))))) .none)))))) (.seq (.seq .none (.seq (.seq .none .none) .none)) (.seq .none .none))))))))))))))
theorem T50_ok : chkFn prog Tryd.f50 T50 = true := by kernel_rfl
def B50 (s_p0 base_p1 bitSize_p2 : Value) (w : World) (K : Value → World → Prop) : Prop :=
  pvv prog (oEq .eql 9 (.tmp 18) (.const (.string ⟨#[]⟩)) s_p0 (.string ⟨#[]⟩)) w fun t_0 w =>
  cd t_0 (
    pvv prog (Instr.makeInterface 83 (.int .i64 2)) w fun t_1 w =>
    K (.tuple #[(.int .u64 0), t_1]) w) <|
  pvv prog (oEq .eql 3 (.tmp 21) (.const (.int .i64 0)) base_p1 (.int .i64 0)) w fun t_2 w =>
  jn (fun σ w => pop σ fun s_3 σ => pop σ fun base_4 σ => fin σ <|
    jn (fun σ w => pop σ fun bitSize_5 σ => fin σ <|
      jn (fun σ w => pop σ fun cutoff_6 σ => fin σ <|
        pvv prog (convert 3 85 bitSize_5) w fun t_7 w =>
        pvv prog (binOp .shl 49 (.int .u64 1) t_7) w fun t_8 w =>
        pvv prog (binOp .sub 49 t_8 (.int .u64 1)) w fun t_9 w =>
        efv prog (convert 9 23 s_3) w fun t_10 w =>
        pv prog (oBi .len #[23] 3 #[false] #[t_10]) w fun t_11 w =>
        lp (fun σ w again_15 => pop σ fun underscores_12 σ => pop σ fun n_13 σ => pop σ fun t_14 σ => fin σ <|
          pvv prog (binOp .lss 3 t_14 t_11) w fun t_16 w =>
          cd t_16 (
            jn (fun σ w => pop σ fun underscores_17 σ => pop σ fun n_18 σ => fin σ <|
              pvv prog (binOp .add 3 t_14 (.int .i64 1)) w fun t_19 w =>
              again_15 [underscores_17, n_18, t_19] w) fun k_20 =>
            pvv prog (Instr.indexAt 23 t_10 t_14) w fun t_21 w =>
            ldv prog (Instr.loadAt 5 t_21) w fun t_22 w =>
            jn (fun σ w => pop σ fun underscores_23 σ => pop σ fun d_24 σ => fin σ <|
              pvv prog (convert 3 5 base_4) w fun t_25 w =>
              pvv prog (binOp .geq 5 d_24 t_25) w fun t_26 w =>
              cd t_26 (
                pvv prog (Instr.makeInterface 83 (.int .i64 2)) w fun t_27 w =>
                K (.tuple #[(.int .u64 0), t_27]) w) <|
              pvv prog (binOp .geq 49 n_13 cutoff_6) w fun t_28 w =>
              cd t_28 (
                pvv prog (Instr.makeInterface 83 (.int .i64 1)) w fun t_29 w =>
                K (.tuple #[t_9, t_29]) w) <|
              pvv prog (convert 3 49 base_4) w fun t_30 w =>
              pvv prog (binOp .mul 49 n_13 t_30) w fun t_31 w =>
              pvv prog (convert 5 49 d_24) w fun t_32 w =>
              pvv prog (binOp .add 49 t_31 t_32) w fun t_33 w =>
              pvv prog (binOp .lss 49 t_33 t_31) w fun t_34 w =>
              gate (some (t_34, false)) (fun K => K t_33 w) w fun t_35 w =>
              gate (some (t_34, false)) (fun K => K t_9 w) w fun t_36 w =>
              gate (some (t_34, false)) (fun K => pvv prog (binOp .gtr 49 t_35 t_36) w K) w fun t_37 w =>
              pv prog (oPick t_34 (.bool true) t_37) w fun t_38 w =>
              cd t_38 (
                pvv prog (Instr.makeInterface 83 (.int .i64 1)) w fun t_39 w =>
                K (.tuple #[t_9, t_39]) w) <|
              k_20 [underscores_23, t_33] w) fun k_40 =>
            pvv prog (oEq .eql 5 (.tmp 107) (.const (.int .u8 95)) t_22 (.int .u8 95)) w fun t_41 w =>
            gate (some (t_41, true)) (fun K => K t_2 w) w fun t_42 w =>
            pv prog (oPick t_41 t_42 (.bool false)) w fun t_43 w =>
            cd t_43 (
              k_20 [(.bool true), n_13] w) <|
            pvv prog (binOp .leq 5 (.int .u8 48) t_22) w fun t_44 w =>
            gate (some (t_44, true)) (fun K => K t_22 w) w fun t_45 w =>
            gate (some (t_44, true)) (fun K => pvv prog (binOp .leq 5 t_45 (.int .u8 57)) w K) w fun t_46 w =>
            pv prog (oPick t_44 t_46 (.bool false)) w fun t_47 w =>
            cd t_47 (
              pvv prog (binOp .sub 5 t_22 (.int .u8 48)) w fun t_48 w =>
              k_40 [underscores_12, t_48] w) <|
            Calls prog 66 #[t_22] w (Ret fun t_49 w =>
            pvv prog (binOp .leq 5 (.int .u8 97) t_49) w fun t_50 w =>
            gate (some (t_50, true)) (fun K => K t_22 w) w fun t_51 w =>
            gate (some (t_50, true)) (fun K => Calls prog 66 #[t_51] w (Ret K)) w fun t_52 w =>
            gate (some (t_50, true)) (fun K => pvv prog (binOp .leq 5 t_52 (.int .u8 122)) w K) w fun t_53 w =>
            pv prog (oPick t_50 t_53 (.bool false)) w fun t_54 w =>
            cd t_54 (
              Calls prog 66 #[t_22] w (Ret fun t_55 w =>
              pvv prog (binOp .sub 5 t_55 (.int .u8 97)) w fun t_56 w =>
              pvv prog (binOp .add 5 t_56 (.int .u8 10)) w fun t_57 w =>
              k_40 [underscores_12, t_57] w)) <|
            pvv prog (Instr.makeInterface 83 (.int .i64 2)) w fun t_58 w =>
            K (.tuple #[(.int .u64 0), t_58]) w)) <|
          gate (some (underscores_12, true)) (fun K => K s_p0 w) w fun t_59 w =>
          gate (some (underscores_12, true)) (fun K => Calls prog 67 #[t_59] w (Ret K)) w fun t_60 w =>
          gate (some (underscores_12, true)) (fun K => pvv prog (Op.unary .not t_60) w K) w fun t_61 w =>
          pv prog (oPick underscores_12 t_61 (.bool false)) w fun t_62 w =>
          cd t_62 (
            pvv prog (Instr.makeInterface 83 (.int .i64 2)) w fun t_63 w =>
            K (.tuple #[(.int .u64 0), t_63]) w) <|
          K (.tuple #[n_13, .nilIface]) w) [(.bool false), (.int .u64 0), (.int .i64 0)] w) fun k_64 =>
      pvv prog (oEq .eql 3 (.tmp 85) (.const (.int .i64 10)) base_4 (.int .i64 10)) w fun t_65 w =>
      cd t_65 (
        k_64 [(.int .u64 1844674407370955162)] w) <|
      pvv prog (oEq .eql 3 (.tmp 85) (.const (.int .i64 16)) base_4 (.int .i64 16)) w fun t_66 w =>
      cd t_66 (
        k_64 [(.int .u64 1152921504606846976)] w) <|
      pvv prog (convert 3 49 base_4) w fun t_67 w =>
      pvv prog (binOp .quo 49 (.int .u64 18446744073709551615) t_67) w fun t_68 w =>
      pvv prog (binOp .add 49 t_68 (.int .u64 1)) w fun t_69 w =>
      k_64 [t_69] w) fun k_70 =>
    pvv prog (oEq .eql 3 (.tmp 76) (.const (.int .i64 0)) bitSize_p2 (.int .i64 0)) w fun t_71 w =>
    cd t_71 (
      k_70 [(.int .i64 64)] w) <|
    pvv prog (binOp .lss 3 bitSize_p2 (.int .i64 0)) w fun t_72 w =>
    gate (some (t_72, false)) (fun K => K bitSize_p2 w) w fun t_73 w =>
    gate (some (t_72, false)) (fun K => pvv prog (binOp .gtr 3 t_73 (.int .i64 64)) w K) w fun t_74 w =>
    pv prog (oPick t_72 (.bool true) t_74) w fun t_75 w =>
    cd t_75 (
      pvv prog (Instr.makeInterface 83 (.int .i64 4)) w fun t_76 w =>
      K (.tuple #[(.int .u64 0), t_76]) w) <|
    k_70 [bitSize_p2] w) fun k_77 =>
  pvv prog (binOp .leq 3 (.int .i64 2) base_p1) w fun t_78 w =>
  gate (some (t_78, true)) (fun K => K base_p1 w) w fun t_79 w =>
  gate (some (t_78, true)) (fun K => pvv prog (binOp .leq 3 t_79 (.int .i64 36)) w K) w fun t_80 w =>
  pv prog (oPick t_78 t_80 (.bool false)) w fun t_81 w =>
  cd t_81 (
    k_77 [s_p0, base_p1] w) <|
  pvv prog (oEq .eql 3 (.tmp 33) (.const (.int .i64 0)) base_p1 (.int .i64 0)) w fun t_82 w =>
  cd t_82 (
    pvv prog (Instr.index 9 s_p0 (.int .i64 0)) w fun t_83 w =>
    pvv prog (oEq .eql 5 (.tmp 36) (.const (.int .u8 48)) t_83 (.int .u8 48)) w fun t_84 w =>
    cd t_84 (
      pv prog (oBi .len #[9] 3 #[false] #[s_p0]) w fun t_85 w =>
      pvv prog (binOp .geq 3 t_85 (.int .i64 3)) w fun t_86 w =>
      gate (some (t_86, true)) (fun K => K s_p0 w) w fun t_87 w =>
      gate (some (t_86, true)) (fun K => pvv prog (Instr.index 9 t_87 (.int .i64 1)) w K) w fun t_88 w =>
      gate (some (t_86, true)) (fun K => Calls prog 66 #[t_88] w (Ret K)) w fun t_89 w =>
      gate (some (t_86, true)) (fun K => pvv prog (oEq .eql 5 (.tmp 47) (.const (.int .u8 98)) t_89 (.int .u8 98)) w K) w fun t_90 w =>
      pv prog (oPick t_86 t_90 (.bool false)) w fun t_91 w =>
      cd t_91 (
        pvv prog (Instr.sliceAt 9 s_p0 (some (.int .i64 2)) none none) w fun t_92 w =>
        k_77 [t_92, (.int .i64 2)] w) <|
      pv prog (oBi .len #[9] 3 #[false] #[s_p0]) w fun t_93 w =>
      pvv prog (binOp .geq 3 t_93 (.int .i64 3)) w fun t_94 w =>
      gate (some (t_94, true)) (fun K => K s_p0 w) w fun t_95 w =>
      gate (some (t_94, true)) (fun K => pvv prog (Instr.index 9 t_95 (.int .i64 1)) w K) w fun t_96 w =>
      gate (some (t_94, true)) (fun K => Calls prog 66 #[t_96] w (Ret K)) w fun t_97 w =>
      gate (some (t_94, true)) (fun K => pvv prog (oEq .eql 5 (.tmp 59) (.const (.int .u8 111)) t_97 (.int .u8 111)) w K) w fun t_98 w =>
      pv prog (oPick t_94 t_98 (.bool false)) w fun t_99 w =>
      cd t_99 (
        pvv prog (Instr.sliceAt 9 s_p0 (some (.int .i64 2)) none none) w fun t_100 w =>
        k_77 [t_100, (.int .i64 8)] w) <|
      pv prog (oBi .len #[9] 3 #[false] #[s_p0]) w fun t_101 w =>
      pvv prog (binOp .geq 3 t_101 (.int .i64 3)) w fun t_102 w =>
      gate (some (t_102, true)) (fun K => K s_p0 w) w fun t_103 w =>
      gate (some (t_102, true)) (fun K => pvv prog (Instr.index 9 t_103 (.int .i64 1)) w K) w fun t_104 w =>
      gate (some (t_102, true)) (fun K => Calls prog 66 #[t_104] w (Ret K)) w fun t_105 w =>
      gate (some (t_102, true)) (fun K => pvv prog (oEq .eql 5 (.tmp 71) (.const (.int .u8 120)) t_105 (.int .u8 120)) w K) w fun t_106 w =>
      pv prog (oPick t_102 t_106 (.bool false)) w fun t_107 w =>
      cd t_107 (
        pvv prog (Instr.sliceAt 9 s_p0 (some (.int .i64 2)) none none) w fun t_108 w =>
        k_77 [t_108, (.int .i64 16)] w) <|
      pvv prog (Instr.sliceAt 9 s_p0 (some (.int .i64 1)) none none) w fun t_109 w =>
      k_77 [t_109, (.int .i64 8)] w) <|
    k_77 [s_p0, (.int .i64 10)] w) <|
  pvv prog (Instr.makeInterface 83 (.int .i64 3)) w fun t_110 w =>
  K (.tuple #[(.int .u64 0), t_110]) w
theorem B50_eq (s_p0 base_p1 bitSize_p2 : Value) (w : World) (K : Value → World → Prop) : denFn prog Tryd.f50 T50 [s_p0, base_p1, bitSize_p2] w K = B50 s_p0 base_p1 bitSize_p2 w K := by kernel_rfl
theorem c50 {s_p0 base_p1 bitSize_p2 : Value} {w : World} {K : Value → World → Prop} (h : B50 s_p0 base_p1 bitSize_p2 w K) : Calls prog 50 #[s_p0, base_p1, bitSize_p2] w (Ret K) :=
  denFn_calls Tryd.func50 T50_ok (Eq.mpr (B50_eq s_p0 base_p1 bitSize_p2 w K) h)

-- 37 strings.Replace
def T37 : Ann := (.seq .none (.seq (.seq .none (.seq (.seq .none .none) .none)) (.meet 274861130504 [3] (.seq .none (.seq .none (.seq (.seq .none .none) (.seq .none (.seq .none .none))))) (.seq .none (.seq .none (.seq .none (.meet 633825300114114137798398244864 [11] (.seq .none (.seq (.seq .none (.block (.loop 18889456924279326119936 [11, 53] (.seq .none (.seq (.seq .none .none) (.seq (.block (.seq .none (.seq .none (.seq .none .none)))) .none)))))) (.seq .none (.seq .none (.block (.loop 633824997882659797091057985536 [11, 78] (.seq .none (.seq (.seq .none .none) (.seq (.block (.seq .none (.seq .none (.seq .none (.seq .none .none))))) .none))))))))) (.seq .none (.seq .none .none)))))))))
theorem T37_ok : chkFn prog Tryd.f37 T37 = true := by kernel_rfl
def B37 (s_p0 old_p1 new_p2 n_p3 : Value) (w : World) (K : Value → World → Prop) : Prop :=
  pvv prog (oEq .eql 9 (.tmp 16) (.tmp 17) old_p1 new_p2) w fun t_0 w =>
  gate (some (t_0, false)) (fun K => K n_p3 w) w fun t_1 w =>
  gate (some (t_0, false)) (fun K => pvv prog (oEq .eql 3 (.tmp 20) (.const (.int .i64 0)) t_1 (.int .i64 0)) w K) w fun t_2 w =>
  pv prog (oPick t_0 (.bool true) t_2) w fun t_3 w =>
  cd t_3 (
    K s_p0 w) <|
  jn (fun σ w => pop σ fun n_4 σ => fin σ <|
    efv prog (Instr.alloc 68 true (.tuple #[])) w fun b_5 w =>
    pv prog (oBi .len #[9] 3 #[false] #[s_p0]) w fun t_6 w =>
    pv prog (oBi .len #[9] 3 #[false] #[new_p2]) w fun t_7 w =>
    pv prog (oBi .len #[9] 3 #[false] #[old_p1]) w fun t_8 w =>
    pvv prog (binOp .sub 3 t_7 t_8) w fun t_9 w =>
    pvv prog (binOp .mul 3 n_4 t_9) w fun t_10 w =>
    pvv prog (binOp .add 3 t_6 t_10) w fun t_11 w =>
    Calls prog 53 #[b_5, t_11] w (Ret fun t_12 w =>
    jn (fun σ w => pop σ fun start_13 σ => fin σ <|
      pvv prog (Instr.sliceAt 9 s_p0 (some start_13) none none) w fun t_14 w =>
      Calls prog 55 #[b_5, t_14] w (Ret fun t_15 w =>
      Calls prog 57 #[b_5] w (Ret fun t_16 w =>
      K t_16 w))) fun k_17 =>
    pv prog (oBi .len #[9] 3 #[false] #[old_p1]) w fun t_18 w =>
    pvv prog (binOp .gtr 3 t_18 (.int .i64 0)) w fun t_19 w =>
    cd t_19 (
      lp (fun σ w again_22 => pop σ fun start_20 σ => pop σ fun t_21 σ => fin σ <|
        pvv prog (binOp .lss 3 t_21 n_4) w fun t_23 w =>
        cd t_23 (
          pvv prog (Instr.sliceAt 9 s_p0 (some start_20) none none) w fun t_24 w =>
          Calls prog 54 #[t_24, old_p1] w (Ret fun t_25 w =>
          pvv prog (binOp .add 3 start_20 t_25) w fun t_26 w =>
          pvv prog (Instr.sliceAt 9 s_p0 (some start_20) (some t_26) none) w fun t_27 w =>
          Calls prog 55 #[b_5, t_27] w (Ret fun t_28 w =>
          Calls prog 55 #[b_5, new_p2] w (Ret fun t_29 w =>
          pv prog (oBi .len #[9] 3 #[false] #[old_p1]) w fun t_30 w =>
          pvv prog (binOp .add 3 t_26 t_30) w fun t_31 w =>
          pvv prog (binOp .add 3 t_21 (.int .i64 1)) w fun t_32 w =>
          again_22 [t_31, t_32] w)))) <|
        k_17 [start_20] w) [(.int .i64 0), (.int .i64 0)] w) <|
    Calls prog 55 #[b_5, new_p2] w (Ret fun t_33 w =>
    pvv prog (binOp .sub 3 n_4 (.int .i64 1)) w fun t_34 w =>
    lp (fun σ w again_37 => pop σ fun start_35 σ => pop σ fun t_36 σ => fin σ <|
      pvv prog (binOp .lss 3 t_36 t_34) w fun t_38 w =>
      cd t_38 (
        pvv prog (Instr.sliceAt 9 s_p0 (some start_35) none none) w fun t_39 w =>
        Calls prog 56 #[t_39] w (Ret fun t_40 w =>
        pvv prog (Instr.extract t_40 0) w fun t_41 w =>
        pvv prog (Instr.extract t_40 1) w fun t_42 w =>
        pvv prog (binOp .add 3 start_35 t_42) w fun t_43 w =>
        pvv prog (Instr.sliceAt 9 s_p0 (some start_35) (some t_43) none) w fun t_44 w =>
        Calls prog 55 #[b_5, t_44] w (Ret fun t_45 w =>
        Calls prog 55 #[b_5, new_p2] w (Ret fun t_46 w =>
        pvv prog (binOp .add 3 t_36 (.int .i64 1)) w fun t_47 w =>
        again_37 [t_43, t_47] w)))) <|
      k_17 [start_35] w) [(.int .i64 0), (.int .i64 0)] w))) fun k_48 =>
  Calls prog 52 #[s_p0, old_p1] w (Ret fun t_49 w =>
  pvv prog (oEq .eql 3 (.tmp 27) (.const (.int .i64 0)) t_49 (.int .i64 0)) w fun t_50 w =>
  cd t_50 (
    K s_p0 w) <|
  pvv prog (binOp .lss 3 n_p3 (.int .i64 0)) w fun t_51 w =>
  gate (some (t_51, false)) (fun K => K t_49 w) w fun t_52 w =>
  gate (some (t_51, false)) (fun K => K n_p3 w) w fun t_53 w =>
  gate (some (t_51, false)) (fun K => pvv prog (binOp .lss 3 t_52 t_53) w K) w fun t_54 w =>
  pv prog (oPick t_51 (.bool true) t_54) w fun t_55 w =>
  cd t_55 (
    k_48 [t_49] w) <|
  k_48 [n_p3] w)
theorem B37_eq (s_p0 old_p1 new_p2 n_p3 : Value) (w : World) (K : Value → World → Prop) : denFn prog Tryd.f37 T37 [s_p0, old_p1, new_p2, n_p3] w K = B37 s_p0 old_p1 new_p2 n_p3 w K := by kernel_rfl
theorem c37 {s_p0 old_p1 new_p2 n_p3 : Value} {w : World} {K : Value → World → Prop} (h : B37 s_p0 old_p1 new_p2 n_p3 w K) : Calls prog 37 #[s_p0, old_p1, new_p2, n_p3] w (Ret K) :=
  denFn_calls Tryd.func37 T37_ok (Eq.mpr (B37_eq s_p0 old_p1 new_p2 n_p3 w K) h)

-- 130 gosem.cut.vars
def T130 : Ann := (.seq .none (.seq .none (.seq .none (.seq .none (.seq .none .none)))))
theorem T130_ok : chkFn prog Tryd.f130 T130 = true := by kernel_rfl
def B130 (w : World) (K : Value → World → Prop) : Prop :=
  pvv prog (Instr.build 118 #[(0, (.int .u8 0)), (1, (.int .u8 1)), (2, (.int .u8 28)), (3, (.int .u8 2)), (4, (.int .u8 29)), (5, (.int .u8 14)), (6, (.int .u8 24)), (7, (.int .u8 3)), (8, (.int .u8 30)), (9, (.int .u8 22)), (10, (.int .u8 20)), (11, (.int .u8 15)), (12, (.int .u8 25)), (13, (.int .u8 17)), (14, (.int .u8 4)), (15, (.int .u8 8)), (16, (.int .u8 31)), (17, (.int .u8 27)), (18, (.int .u8 13)), (19, (.int .u8 23)), (20, (.int .u8 21)), (21, (.int .u8 19)), (22, (.int .u8 16)), (23, (.int .u8 7)), (24, (.int .u8 26)), (25, (.int .u8 12)), (26, (.int .u8 18)), (27, (.int .u8 6)), (28, (.int .u8 11)), (29, (.int .u8 5)), (30, (.int .u8 10)), (31, (.int .u8 9))]) w fun t_0 w =>
  efu prog (Instr.storeAt 118 (.pointer (some ⟨6, 0, none⟩)) t_0) w fun u_1 w =>
  pvv prog (Instr.build 119 #[(0, (.int .u8 0)), (1, (.int .u8 1)), (2, (.int .u8 56)), (3, (.int .u8 2)), (4, (.int .u8 57)), (5, (.int .u8 49)), (6, (.int .u8 28)), (7, (.int .u8 3)), (8, (.int .u8 61)), (9, (.int .u8 58)), (10, (.int .u8 42)), (11, (.int .u8 50)), (12, (.int .u8 38)), (13, (.int .u8 29)), (14, (.int .u8 17)), (15, (.int .u8 4)), (16, (.int .u8 62)), (17, (.int .u8 47)), (18, (.int .u8 59)), (19, (.int .u8 36)), (20, (.int .u8 45)), (21, (.int .u8 43)), (22, (.int .u8 51)), (23, (.int .u8 22)), (24, (.int .u8 53)), (25, (.int .u8 39)), (26, (.int .u8 33)), (27, (.int .u8 30)), (28, (.int .u8 24)), (29, (.int .u8 18)), (30, (.int .u8 12)), (31, (.int .u8 5)), (32, (.int .u8 63)), (33, (.int .u8 55)), (34, (.int .u8 48)), (35, (.int .u8 27)), (36, (.int .u8 60)), (37, (.int .u8 41)), (38, (.int .u8 37)), (39, (.int .u8 16)), (40, (.int .u8 46)), (41, (.int .u8 35)), (42, (.int .u8 44)), (43, (.int .u8 21)), (44, (.int .u8 52)), (45, (.int .u8 32)), (46, (.int .u8 23)), (47, (.int .u8 11)), (48, (.int .u8 54)), (49, (.int .u8 26)), (50, (.int .u8 40)), (51, (.int .u8 15)), (52, (.int .u8 34)), (53, (.int .u8 20)), (54, (.int .u8 31)), (55, (.int .u8 10)), (56, (.int .u8 25)), (57, (.int .u8 14)), (58, (.int .u8 19)), (59, (.int .u8 9)), (60, (.int .u8 13)), (61, (.int .u8 8)), (62, (.int .u8 7)), (63, (.int .u8 6))]) w fun t_2 w =>
  efu prog (Instr.storeAt 119 (.pointer (some ⟨7, 0, none⟩)) t_2) w fun u_3 w =>
  pvv prog (Instr.build 95 #[(0, (.int .u64 1)), (1, (.int .u64 10)), (2, (.int .u64 100)), (3, (.int .u64 1000)), (4, (.int .u64 10000)), (5, (.int .u64 100000)), (6, (.int .u64 1000000)), (7, (.int .u64 10000000)), (8, (.int .u64 100000000)), (9, (.int .u64 1000000000)), (10, (.int .u64 10000000000)), (11, (.int .u64 100000000000)), (12, (.int .u64 1000000000000)), (13, (.int .u64 10000000000000)), (14, (.int .u64 100000000000000)), (15, (.int .u64 1000000000000000)), (16, (.int .u64 10000000000000000)), (17, (.int .u64 100000000000000000)), (18, (.int .u64 1000000000000000000)), (19, (.int .u64 10000000000000000000))]) w fun t_4 w =>
  efu prog (Instr.storeAt 95 (.pointer (some ⟨0, 0, none⟩)) t_4) w fun u_5 w =>
  pvv prog (Instr.build 109 #[(0, (.int .u8 128)), (1, (.int .u8 191))]) w fun t_6 w =>
  pvv prog (Instr.build 109 #[(0, (.int .u8 160)), (1, (.int .u8 191))]) w fun t_7 w =>
  pvv prog (Instr.build 109 #[(0, (.int .u8 128)), (1, (.int .u8 159))]) w fun t_8 w =>
  pvv prog (Instr.build 109 #[(0, (.int .u8 144)), (1, (.int .u8 191))]) w fun t_9 w =>
  pvv prog (Instr.build 109 #[(0, (.int .u8 128)), (1, (.int .u8 143))]) w fun t_10 w =>
  pvv prog (Instr.build 110 #[(0, t_6), (1, t_7), (2, t_8), (3, t_9), (4, t_10)]) w fun t_11 w =>
  efu prog (Instr.storeAt 110 (.pointer (some ⟨5, 0, none⟩)) t_11) w fun u_12 w =>
  Calls prog 86 #[(.string ⟨#[118, 97, 108, 117, 101, 32, 111, 117, 116, 32, 111, 102, 32, 114, 97, 110, 103, 101]⟩)] w (Ret fun t_13 w =>
  efu prog (Instr.storeAt 51 (.pointer (some ⟨3, 0, none⟩)) t_13) w fun u_14 w =>
  Calls prog 86 #[(.string ⟨#[105, 110, 118, 97, 108, 105, 100, 32, 115, 121, 110, 116, 97, 120]⟩)] w (Ret fun t_15 w =>
  efu prog (Instr.storeAt 51 (.pointer (some ⟨2, 0, none⟩)) t_15) w fun u_16 w =>
  K (.tuple #[]) w))
theorem B130_eq (w : World) (K : Value → World → Prop) : denFn prog Tryd.f130 T130 [] w K = B130  w K := by kernel_rfl
theorem c130 {w : World} {K : Value → World → Prop} (h : B130  w K) : Calls prog 130 #[] w (Ret K) :=
  denFn_calls Tryd.func130 T130_ok (Eq.mpr (B130_eq  w K) h)

-- 9 holdfast/holdfastlaw02.CodecKeys
def T9 : Ann := (.seq .none (.seq .none (.seq .none (.seq .none (.seq .none (.seq (.seq .none (.seq (.seq .none .none) .none)) (.meet 75555557882905109749776 [] (.seq .none (.seq (.seq .none (.seq .none (.seq (.seq .none .none) .none))) .none)) (.seq (.seq .none (.seq (.seq .none .none) .none)) (.seq .none (.seq .none .none))))))))))
theorem T9_ok : chkFn prog Tryd.f9 T9 = true := by kernel_rfl
def B9 (parts_p0 b_p1 : Value) (w : World) (K : Value → World → Prop) : Prop :=
  Calls prog 11 #[parts_p0] w (Ret fun t_0 w =>
  pvv prog (Instr.extract t_0 0) w fun t_1 w =>
  pvv prog (Instr.extract t_0 1) w fun t_2 w =>
  Calls prog 25 #[parts_p0] w (Ret fun t_3 w =>
  pvv prog (Instr.extract t_3 0) w fun t_4 w =>
  pvv prog (Instr.extract t_3 1) w fun t_5 w =>
  Calls prog 26 #[b_p1] w (Ret fun t_6 w =>
  pvv prog (Instr.extract t_6 0) w fun t_7 w =>
  pvv prog (Instr.extract t_6 1) w fun t_8 w =>
  Calls prog 27 #[b_p1] w (Ret fun t_9 w =>
  pvv prog (Instr.extract t_9 0) w fun t_10 w =>
  pvv prog (Instr.extract t_9 1) w fun t_11 w =>
  Calls prog 12 #[] w (Ret fun t_12 w =>
  pvv prog (Op.unary .not t_12) w fun t_13 w =>
  gate (some (t_13, false)) (fun K => K t_1 w) w fun t_14 w =>
  gate (some (t_13, false)) (fun K => K t_4 w) w fun t_15 w =>
  gate (some (t_13, false)) (fun K => Calls prog 16 #[t_14, t_15] w (Ret K)) w fun t_16 w =>
  gate (some (t_13, false)) (fun K => pvv prog (Op.unary .not t_16) w K) w fun t_17 w =>
  pv prog (oPick t_13 (.bool true) t_17) w fun t_18 w =>
  gate (some (t_18, false)) (fun K => K t_2 w) w fun t_19 w =>
  gate (some (t_18, false)) (fun K => K t_5 w) w fun t_20 w =>
  gate (some (t_18, false)) (fun K => pvv prog (oEq .neq 24 (.tmp 46) (.tmp 47) t_19 t_20) w K) w fun t_21 w =>
  pv prog (oPick t_18 (.bool true) t_21) w fun t_22 w =>
  gate (some (t_22, false)) (fun K => K t_7 w) w fun t_23 w =>
  gate (some (t_22, false)) (fun K => K t_10 w) w fun t_24 w =>
  gate (some (t_22, false)) (fun K => Calls prog 17 #[t_23, t_24] w (Ret K)) w fun t_25 w =>
  gate (some (t_22, false)) (fun K => pvv prog (Op.unary .not t_25) w K) w fun t_26 w =>
  pv prog (oPick t_22 (.bool true) t_26) w fun t_27 w =>
  gate (some (t_27, false)) (fun K => K t_8 w) w fun t_28 w =>
  gate (some (t_27, false)) (fun K => K t_11 w) w fun t_29 w =>
  gate (some (t_27, false)) (fun K => pvv prog (oEq .neq 24 (.tmp 57) (.tmp 58) t_28 t_29) w K) w fun t_30 w =>
  pv prog (oPick t_27 (.bool true) t_30) w fun t_31 w =>
  cd t_31 (
    K (.bool false) w) <|
  jn (fun σ w => fin σ <|
    pvv prog (oEq .neq 24 (.tmp 76) (.const (.int .i64 0)) t_2 (.int .i64 0)) w fun t_32 w =>
    cd t_32 (
      K (.bool true) w) <|
    Calls prog 26 #[t_1] w (Ret fun t_33 w =>
    pvv prog (Instr.extract t_33 0) w fun t_34 w =>
    pvv prog (Instr.extract t_33 1) w fun t_35 w =>
    pvv prog (oEq .eql 24 (.tmp 83) (.const (.int .i64 0)) t_35 (.int .i64 0)) w fun t_36 w =>
    gate (some (t_36, true)) (fun K => K t_34 w) w fun t_37 w =>
    gate (some (t_36, true)) (fun K => K parts_p0 w) w fun t_38 w =>
    gate (some (t_36, true)) (fun K => Calls prog 17 #[t_37, t_38] w (Ret K)) w fun t_39 w =>
    pv prog (oPick t_36 t_39 (.bool false)) w fun t_40 w =>
    K t_40 w)) fun k_41 =>
  pvv prog (oEq .eql 24 (.tmp 61) (.const (.int .i64 0)) t_8 (.int .i64 0)) w fun t_42 w =>
  cd t_42 (
    Calls prog 11 #[t_7] w (Ret fun t_43 w =>
    pvv prog (Instr.extract t_43 0) w fun t_44 w =>
    pvv prog (Instr.extract t_43 1) w fun t_45 w =>
    pvv prog (oEq .neq 24 (.tmp 68) (.const (.int .i64 0)) t_45 (.int .i64 0)) w fun t_46 w =>
    gate (some (t_46, false)) (fun K => K t_44 w) w fun t_47 w =>
    gate (some (t_46, false)) (fun K => K b_p1 w) w fun t_48 w =>
    gate (some (t_46, false)) (fun K => Calls prog 16 #[t_47, t_48] w (Ret K)) w fun t_49 w =>
    gate (some (t_46, false)) (fun K => pvv prog (Op.unary .not t_49) w K) w fun t_50 w =>
    pv prog (oPick t_46 (.bool true) t_50) w fun t_51 w =>
    cd t_51 (
      K (.bool false) w) <|
    k_41 [] w)) <|
  k_41 [] w)))))
theorem B9_eq (parts_p0 b_p1 : Value) (w : World) (K : Value → World → Prop) : denFn prog Tryd.f9 T9 [parts_p0, b_p1] w K = B9 parts_p0 b_p1 w K := by kernel_rfl
theorem c9 {parts_p0 b_p1 : Value} {w : World} {K : Value → World → Prop} (h : B9 parts_p0 b_p1 w K) : Calls prog 9 #[parts_p0, b_p1] w (Ret K) :=
  denFn_calls Tryd.func9 T9_ok (Eq.mpr (B9_eq parts_p0 b_p1 w K) h)

-- 40 holdfast/codec.split$1
def T40 : Ann := (.seq .none (.seq (.block (.loop 562949953421304 [3] (.seq (.seq .none (.seq .none .none)) (.block (.seq .none (.seq (.seq .none (.seq (.seq .none .none) .none)) (.seq .none (.meet 35184304979976 [3] (.seq .none (.block (.seq .none (.seq .none (.seq .none (.seq (.seq (.seq .none (.seq .none .none)) .none) (.seq .none .none))))))) .none)))))))) (.seq .none (.seq .none .none))))
theorem T40_ok : chkFn prog Tryd.f40 T40 = true := by kernel_rfl
def B40 (yield_p0 x_p1 : Value) (w : World) (K : Value → World → Prop) : Prop :=
  lp (fun σ w again_1 => pop σ fun part_0 σ => fin σ <|
    ldv prog (Instr.loadAt 23 x_p1) w fun t_2 w =>
    pv prog (oBi .len #[23] 3 #[false] #[t_2]) w fun t_3 w =>
    pvv prog (binOp .gtr 3 t_3 (.int .i64 0)) w fun t_4 w =>
    cd t_4 (
      ldv prog (Instr.loadAt 23 x_p1) w fun t_5 w =>
      Calls prog 41 #[t_5, (.int .u8 0)] w (Ret fun t_6 w =>
      pvv prog (binOp .lss 3 t_6 (.int .i64 0)) w fun t_7 w =>
      gate (some (t_7, false)) (fun K => K t_6 w) w fun t_8 w =>
      gate (some (t_7, false)) (fun K => pvv prog (binOp .add 3 t_8 (.int .i64 1)) w K) w fun t_9 w =>
      gate (some (t_7, false)) (fun K => ldv prog (Instr.loadAt 23 x_p1) w K) w fun t_10 w =>
      gate (some (t_7, false)) (fun K => pv prog (oBi .len #[23] 3 #[false] #[t_10]) w K) w fun t_11 w =>
      gate (some (t_7, false)) (fun K => pvv prog (oEq .eql 3 (.tmp 14) (.tmp 16) t_9 t_11) w K) w fun t_12 w =>
      pv prog (oPick t_7 (.bool true) t_12) w fun t_13 w =>
      cd t_13 (
        ef prog (oCall yield_p0 #[(.string ⟨#[]⟩), (.bool false)]) w fun t_14 w =>
        K (.tuple #[]) w) <|
      ldv prog (Instr.loadAt 23 x_p1) w fun t_15 w =>
      pvv prog (Instr.sliceAt 23 t_15 none (some t_6) none) w fun t_16 w =>
      ef prog (oBi .append #[23, 23] 23 #[false, false] #[part_0, t_16]) w fun t_17 w =>
      jn (fun σ w => pop σ fun part_18 σ => fin σ <|
        ldv prog (Instr.loadAt 23 x_p1) w fun t_19 w =>
        pvv prog (binOp .add 3 t_6 (.int .i64 2)) w fun t_20 w =>
        pvv prog (Instr.sliceAt 23 t_19 (some t_20) none none) w fun t_21 w =>
        efu prog (Instr.storeAt 23 x_p1 t_21) w fun u_22 w =>
        again_1 [part_18] w) fun k_23 =>
      ldv prog (Instr.loadAt 23 x_p1) w fun t_24 w =>
      pvv prog (binOp .add 3 t_6 (.int .i64 1)) w fun t_25 w =>
      pvv prog (Instr.indexAt 23 t_24 t_25) w fun t_26 w =>
      ldv prog (Instr.loadAt 5 t_26) w fun t_27 w =>
      pvv prog (oEq .eql 5 (.tmp 30) (.const (.int .u8 255)) t_27 (.int .u8 255)) w fun t_28 w =>
      cd t_28 (
        efv prog (Instr.buildSlice 23 1 #[(0, (.int .u8 0))]) w fun t_29 w =>
        ef prog (oBi .append #[23, 23] 23 #[false, false] #[t_17, t_29]) w fun t_30 w =>
        k_23 [t_30] w) <|
      pvv prog (oEq .eql 5 (.tmp 30) (.const (.int .u8 1)) t_27 (.int .u8 1)) w fun t_31 w =>
      cd t_31 (
        efv prog (convert 23 9 t_17) w fun t_32 w =>
        ef prog (oCall yield_p0 #[t_32, (.bool true)]) w fun t_33 w =>
        pvv prog (Op.unary .not t_33) w fun t_34 w =>
        cd t_34 (
          K (.tuple #[]) w) <|
        k_23 [(.slice none 0 0)] w) <|
      ef prog (oCall yield_p0 #[(.string ⟨#[]⟩), (.bool false)]) w fun t_35 w =>
      K (.tuple #[]) w)) <|
    pv prog (oBi .len #[23] 3 #[false] #[part_0]) w fun t_36 w =>
    pvv prog (binOp .gtr 3 t_36 (.int .i64 0)) w fun t_37 w =>
    cd t_37 (
      ef prog (oCall yield_p0 #[(.string ⟨#[]⟩), (.bool false)]) w fun t_38 w =>
      K (.tuple #[]) w) <|
    K (.tuple #[]) w) [(.slice none 0 0)] w
theorem B40_eq (yield_p0 x_p1 : Value) (w : World) (K : Value → World → Prop) : denFn prog Tryd.f40 T40 [yield_p0, x_p1] w K = B40 yield_p0 x_p1 w K := by kernel_rfl
theorem c40 {yield_p0 x_p1 : Value} {w : World} {K : Value → World → Prop} (h : B40 yield_p0 x_p1 w K) : Calls prog 40 #[yield_p0, x_p1] w (Ret K) :=
  denFn_calls Tryd.func40 T40_ok (Eq.mpr (B40_eq yield_p0 x_p1 w K) h)

-- 8 holdfast/holdfastlaw02.CodecWhole
def T8 : Ann := (.seq .none (.seq .none (.seq (.seq .none (.seq (.seq .none .none) .none)) (.seq (.seq .none (.seq (.seq .none .none) .none)) (.seq .none (.seq .none (.seq .none .none)))))))
theorem T8_ok : chkFn prog Tryd.f8 T8 = true := by kernel_rfl
def B8 (columns_p0 k_p1 : Value) (w : World) (K : Value → World → Prop) : Prop :=
  Calls prog 20 #[columns_p0] w (Ret fun t_0 w =>
  pvv prog (Instr.extract t_0 0) w fun t_1 w =>
  pvv prog (Instr.extract t_0 1) w fun t_2 w =>
  pvv prog (oEq .neq 24 (.tmp 16) (.const (.int .i64 0)) t_2 (.int .i64 0)) w fun t_3 w =>
  cd t_3 (
    Calls prog 12 #[] w (Ret fun t_4 w =>
    K t_4 w)) <|
  pv prog (oBi .len #[23] 3 #[false] #[t_1]) w fun t_5 w =>
  pvv prog (oEq .eql 3 (.tmp 20) (.const (.int .i64 0)) t_5 (.int .i64 0)) w fun t_6 w =>
  cd t_6 (
    K (.bool false) w) <|
  pvv prog (convert 5 3 k_p1) w fun t_7 w =>
  pv prog (oBi .len #[23] 3 #[false] #[t_1]) w fun t_8 w =>
  pvv prog (binOp .rem 3 t_7 t_8) w fun t_9 w =>
  pvv prog (Instr.sliceAt 23 t_1 none (some t_9) none) w fun t_10 w =>
  Calls prog 22 #[t_10] w (Ret fun t_11 w =>
  pvv prog (Instr.extract t_11 0) w fun t_12 w =>
  pvv prog (Instr.extract t_11 1) w fun t_13 w =>
  Calls prog 24 #[t_1] w (Ret fun t_14 w =>
  efv prog (Instr.buildSlice 23 1 #[(0, k_p1)]) w fun t_15 w =>
  ef prog (oBi .append #[23, 23] 23 #[false, false] #[t_14, t_15]) w fun t_16 w =>
  Calls prog 22 #[t_16] w (Ret fun t_17 w =>
  pvv prog (Instr.extract t_17 0) w fun t_18 w =>
  pvv prog (Instr.extract t_17 1) w fun t_19 w =>
  Calls prog 12 #[] w (Ret fun t_20 w =>
  gate (some (t_20, true)) (fun K => K t_13 w) w fun t_21 w =>
  gate (some (t_20, true)) (fun K => pvv prog (oEq .eql 24 (.tmp 44) (.const (.int .i64 3)) t_21 (.int .i64 3)) w K) w fun t_22 w =>
  pv prog (oPick t_20 t_22 (.bool false)) w fun t_23 w =>
  gate (some (t_23, true)) (fun K => K t_19 w) w fun t_24 w =>
  gate (some (t_23, true)) (fun K => pvv prog (oEq .eql 24 (.tmp 48) (.const (.int .i64 3)) t_24 (.int .i64 3)) w K) w fun t_25 w =>
  gate (some (t_23, true)) (fun K => K t_25 w) w fun t_26 w =>
  gate (some (t_26, false)) (fun K => K t_19 w) w fun t_27 w =>
  gate (some (t_26, false)) (fun K => pvv prog (oEq .eql 24 (.tmp 51) (.const (.int .i64 6)) t_27 (.int .i64 6)) w K) w fun t_28 w =>
  gate (some (t_26, false)) (fun K => K t_28 w) w fun t_29 w =>
  gate (some (t_29, true)) (fun K => K t_1 w) w fun t_30 w =>
  gate (some (t_29, true)) (fun K => pv prog (oBi .len #[23] 3 #[false] #[t_30]) w K) w fun t_31 w =>
  gate (some (t_29, true)) (fun K => pvv prog (oEq .eql 3 (.tmp 55) (.const (.int .i64 72)) t_31 (.int .i64 72)) w K) w fun t_32 w =>
  gate (some (t_26, false)) (fun K => pv prog (oPick t_29 t_32 (.bool false)) w K) w fun t_33 w =>
  gate (some (t_23, true)) (fun K => pv prog (oPick t_26 (.bool true) t_33) w K) w fun t_34 w =>
  pv prog (oPick t_23 t_34 (.bool false)) w fun t_35 w =>
  K t_35 w)))))
theorem B8_eq (columns_p0 k_p1 : Value) (w : World) (K : Value → World → Prop) : denFn prog Tryd.f8 T8 [columns_p0, k_p1] w K = B8 columns_p0 k_p1 w K := by kernel_rfl
theorem c8 {columns_p0 k_p1 : Value} {w : World} {K : Value → World → Prop} (h : B8 columns_p0 k_p1 w K) : Calls prog 8 #[columns_p0, k_p1] w (Ret K) :=
  denFn_calls Tryd.func8 T8_ok (Eq.mpr (B8_eq columns_p0 k_p1 w K) h)

-- 4 holdfast/holdfastlaw02.CodecCounts
def T4 : Ann := (.seq .none (.seq .none (.seq .none (.seq (.seq .none (.seq (.seq .none .none) .none)) (.seq .none .none)))))
theorem T4_ok : chkFn prog Tryd.f4 T4 = true := by kernel_rfl
def B4 (a_p0 b_p1 : Value) (w : World) (K : Value → World → Prop) : Prop :=
  Calls prog 15 #[a_p0] w (Ret fun t_0 w =>
  pvv prog (Instr.extract t_0 0) w fun t_1 w =>
  pvv prog (Instr.extract t_0 1) w fun t_2 w =>
  Calls prog 15 #[b_p1] w (Ret fun t_3 w =>
  pvv prog (Instr.extract t_3 0) w fun t_4 w =>
  pvv prog (Instr.extract t_3 1) w fun t_5 w =>
  pvv prog (oEq .neq 24 (.tmp 19) (.const (.int .i64 0)) t_2 (.int .i64 0)) w fun t_6 w =>
  gate (some (t_6, false)) (fun K => K t_5 w) w fun t_7 w =>
  gate (some (t_6, false)) (fun K => pvv prog (oEq .neq 24 (.tmp 22) (.const (.int .i64 0)) t_7 (.int .i64 0)) w K) w fun t_8 w =>
  pv prog (oPick t_6 (.bool true) t_8) w fun t_9 w =>
  cd t_9 (
    Calls prog 12 #[] w (Ret fun t_10 w =>
    gate (some (t_10, true)) (fun K => K a_p0 w) w fun t_11 w =>
    gate (some (t_10, true)) (fun K => pvv prog (binOp .lss 3 t_11 (.int .i64 0)) w K) w fun t_12 w =>
    gate (some (t_10, true)) (fun K => K t_12 w) w fun t_13 w =>
    gate (some (t_13, false)) (fun K => K b_p1 w) w fun t_14 w =>
    gate (some (t_13, false)) (fun K => pvv prog (binOp .lss 3 t_14 (.int .i64 0)) w K) w fun t_15 w =>
    gate (some (t_10, true)) (fun K => pv prog (oPick t_13 (.bool true) t_15) w K) w fun t_16 w =>
    gate (some (t_10, true)) (fun K => K t_16 w) w fun t_17 w =>
    gate (some (t_17, false)) (fun K => K a_p0 w) w fun t_18 w =>
    gate (some (t_17, false)) (fun K => pvv prog (binOp .gtr 3 t_18 (.int .i64 4611686018427387904)) w K) w fun t_19 w =>
    gate (some (t_10, true)) (fun K => pv prog (oPick t_17 (.bool true) t_19) w K) w fun t_20 w =>
    gate (some (t_10, true)) (fun K => K t_20 w) w fun t_21 w =>
    gate (some (t_21, false)) (fun K => K b_p1 w) w fun t_22 w =>
    gate (some (t_21, false)) (fun K => pvv prog (binOp .gtr 3 t_22 (.int .i64 4611686018427387904)) w K) w fun t_23 w =>
    gate (some (t_10, true)) (fun K => pv prog (oPick t_21 (.bool true) t_23) w K) w fun t_24 w =>
    pv prog (oPick t_10 t_24 (.bool false)) w fun t_25 w =>
    K t_25 w)) <|
  Calls prog 12 #[] w (Ret fun t_26 w =>
  gate (some (t_26, true)) (fun K => K t_1 w) w fun t_27 w =>
  gate (some (t_26, true)) (fun K => K t_4 w) w fun t_28 w =>
  gate (some (t_26, true)) (fun K => pvv prog (binOp .lss 9 t_27 t_28) w K) w fun t_29 w =>
  gate (some (t_26, true)) (fun K => K a_p0 w) w fun t_30 w =>
  gate (some (t_26, true)) (fun K => K b_p1 w) w fun t_31 w =>
  gate (some (t_26, true)) (fun K => pvv prog (binOp .lss 3 t_30 t_31) w K) w fun t_32 w =>
  gate (some (t_26, true)) (fun K => pvv prog (oEq .eql 4 (.tmp 46) (.tmp 49) t_29 t_32) w K) w fun t_33 w =>
  pv prog (oPick t_26 t_33 (.bool false)) w fun t_34 w =>
  K t_34 w)))
theorem B4_eq (a_p0 b_p1 : Value) (w : World) (K : Value → World → Prop) : denFn prog Tryd.f4 T4 [a_p0, b_p1] w K = B4 a_p0 b_p1 w K := by kernel_rfl
theorem c4 {a_p0 b_p1 : Value} {w : World} {K : Value → World → Prop} (h : B4 a_p0 b_p1 w K) : Calls prog 4 #[a_p0, b_p1] w (Ret K) :=
  denFn_calls Tryd.func4 T4_ok (Eq.mpr (B4_eq a_p0 b_p1 w K) h)

-- 79 math/bits.Len64
def T79 : Ann := (.seq .none (.meet 125 [0, 2] (.seq .none (.seq (.seq .none .none) .none)) (.meet 8069 [0, 2] (.seq .none (.seq (.seq .none .none) .none)) (.meet 516101 [0, 2] (.seq .none (.seq (.seq .none .none) .none)) (.seq .none .none)))))
theorem T79_ok : chkFn prog Tryd.f79 T79 = true := by kernel_rfl
def B79 (x_p0 : Value) (w : World) (K : Value → World → Prop) : Prop :=
  jn (fun σ w => pop σ fun x_0 σ => pop σ fun n_1 σ => fin σ <|
    jn (fun σ w => pop σ fun x_2 σ => pop σ fun n_3 σ => fin σ <|
      jn (fun σ w => pop σ fun x_4 σ => pop σ fun n_5 σ => fin σ <|
        pvv prog (convert 49 5 x_4) w fun t_6 w =>
        pvv prog (Instr.index 9 (.string ⟨#[0, 1, 2, 2, 3, 3, 3, 3, 4, 4, 4, 4, 4, 4, 4, 4, 5, 5, 5, 5, 5, 5, 5, 5, 5, 5, 5, 5, 5, 5, 5, 5, 6, 6, 6, 6, 6, 6, 6, 6, 6, 6, 6, 6, 6, 6, 6, 6, 6, 6, 6, 6, 6, 6, 6, 6, 6, 6, 6, 6, 6, 6, 6, 6, 7, 7, 7, 7, 7, 7, 7, 7, 7, 7, 7, 7, 7, 7, 7, 7, 7, 7, 7, 7, 7, 7, 7, 7, 7, 7, 7, 7, 7, 7, 7, 7, 7, 7, 7, 7, 7, 7, 7, 7, 7, 7, 7, 7, 7, 7, 7, 7, 7, 7, 7, 7, 7, 7, 7, 7, 7, 7, 7, 7, 7, 7, 7, 7, 8, 8, 8, 8, 8, 8, 8, 8, 8, 8, 8, 8, 8, 8, 8, 8, 8, 8, 8, 8, 8, 8, 8, 8, 8, 8, 8, 8, 8, 8, 8, 8, 8, 8, 8, 8, 8, 8, 8, 8, 8, 8, 8, 8, 8, 8, 8, 8, 8, 8, 8, 8, 8, 8, 8, 8, 8, 8, 8, 8, 8, 8, 8, 8, 8, 8, 8, 8, 8, 8, 8, 8, 8, 8, 8, 8, 8, 8, 8, 8, 8, 8, 8, 8, 8, 8, 8, 8, 8, 8, 8, 8, 8, 8, 8, 8, 8, 8, 8, 8, 8, 8, 8, 8, 8, 8, 8, 8, 8, 8, 8, 8, 8, 8, 8, 8, 8, 8, 8, 8, 8, 8, 8, 8, 8, 8, 8, 8]⟩) t_6) w fun t_7 w =>
        pvv prog (convert 5 3 t_7) w fun t_8 w =>
        pvv prog (binOp .add 3 n_5 t_8) w fun t_9 w =>
        K t_9 w) fun k_10 =>
      pvv prog (binOp .geq 49 x_2 (.int .u64 256)) w fun t_11 w =>
      cd t_11 (
        pvv prog (binOp .shr 49 x_2 (.int .u64 8)) w fun t_12 w =>
        pvv prog (binOp .add 3 n_3 (.int .i64 8)) w fun t_13 w =>
        k_10 [t_12, t_13] w) <|
      k_10 [x_2, n_3] w) fun k_14 =>
    pvv prog (binOp .geq 49 x_0 (.int .u64 65536)) w fun t_15 w =>
    cd t_15 (
      pvv prog (binOp .shr 49 x_0 (.int .u64 16)) w fun t_16 w =>
      pvv prog (binOp .add 3 n_1 (.int .i64 16)) w fun t_17 w =>
      k_14 [t_16, t_17] w) <|
    k_14 [x_0, n_1] w) fun k_18 =>
  pvv prog (binOp .geq 49 x_p0 (.int .u64 4294967296)) w fun t_19 w =>
  cd t_19 (
    pvv prog (binOp .shr 49 x_p0 (.int .u64 32)) w fun t_20 w =>
    k_18 [t_20, (.int .i64 32)] w) <|
  k_18 [x_p0, (.int .i64 0)] w
theorem B79_eq (x_p0 : Value) (w : World) (K : Value → World → Prop) : denFn prog Tryd.f79 T79 [x_p0] w K = B79 x_p0 w K := by kernel_rfl
theorem c79 {x_p0 : Value} {w : World} {K : Value → World → Prop} (h : B79 x_p0 w K) : Calls prog 79 #[x_p0] w (Ret K) :=
  denFn_calls Tryd.func79 T79_ok (Eq.mpr (B79_eq x_p0 w K) h)

-- 11 holdfast/codec.Key
def T11 : Ann := (.seq .none (.seq (.seq .none (.seq (.seq .none .none) .none)) (.seq .none (.seq (.seq .none (.block (.loop 4294836316 [4, 17] (.seq .none (.seq (.seq .none .none) (.seq (.block (.seq .none (.seq (.seq .none (.seq (.seq .none .none) .none)) (.seq .none .none)))) .none)))))) (.seq (.seq .none (.seq (.seq .none .none) .none)) (.seq .none .none))))))
theorem T11_ok : chkFn prog Tryd.f11 T11 = true := by kernel_rfl
def B11 (parts_p0 : Value) (w : World) (K : Value → World → Prop) : Prop :=
  pv prog (oBi .len #[22] 3 #[false] #[parts_p0]) w fun t_0 w =>
  pvv prog (binOp .lss 3 t_0 (.int .i64 1)) w fun t_1 w =>
  gate (some (t_1, false)) (fun K => K parts_p0 w) w fun t_2 w =>
  gate (some (t_1, false)) (fun K => pv prog (oBi .len #[22] 3 #[false] #[t_2]) w K) w fun t_3 w =>
  gate (some (t_1, false)) (fun K => pvv prog (binOp .gtr 3 t_3 (.int .i64 8)) w K) w fun t_4 w =>
  pv prog (oPick t_1 (.bool true) t_4) w fun t_5 w =>
  cd t_5 (
    K (.tuple #[(.slice none 0 0), (.int .i64 2)]) w) <|
  pv prog (oBi .len #[22] 3 #[false] #[parts_p0]) w fun t_6 w =>
  lp (fun σ w again_9 => pop σ fun out_7 σ => pop σ fun t_8 σ => fin σ <|
    pvv prog (binOp .lss 3 t_8 t_6) w fun t_10 w =>
    cd t_10 (
      pvv prog (Instr.indexAt 22 parts_p0 t_8) w fun t_11 w =>
      ldv prog (Instr.loadAt 9 t_11) w fun t_12 w =>
      pv prog (oBi .len #[9] 3 #[false] #[t_12]) w fun t_13 w =>
      pvv prog (binOp .gtr 3 t_13 (.int .i64 64)) w fun t_14 w =>
      cd t_14 (
        K (.tuple #[(.slice none 0 0), (.int .i64 6)]) w) <|
      Calls prog 29 #[t_12, (.string ⟨#[0]⟩), (.string ⟨#[0, 255]⟩)] w (Ret fun t_15 w =>
      ef prog (oBi .append #[23, 9] 23 #[false, false] #[out_7, t_15]) w fun t_16 w =>
      efv prog (Instr.buildSlice 23 2 #[(0, (.int .u8 0)), (1, (.int .u8 1))]) w fun t_17 w =>
      ef prog (oBi .append #[23, 23] 23 #[false, false] #[t_16, t_17]) w fun t_18 w =>
      pvv prog (binOp .add 3 t_8 (.int .i64 1)) w fun t_19 w =>
      again_9 [t_18, t_19] w)) <|
    pv prog (oBi .len #[23] 3 #[false] #[out_7]) w fun t_20 w =>
    pvv prog (binOp .gtr 3 t_20 (.int .i64 64)) w fun t_21 w =>
    cd t_21 (
      K (.tuple #[(.slice none 0 0), (.int .i64 6)]) w) <|
    K (.tuple #[out_7, (.int .i64 0)]) w) [(.slice none 0 0), (.int .i64 0)] w
theorem B11_eq (parts_p0 : Value) (w : World) (K : Value → World → Prop) : denFn prog Tryd.f11 T11 [parts_p0] w K = B11 parts_p0 w K := by kernel_rfl
theorem c11 {parts_p0 : Value} {w : World} {K : Value → World → Prop} (h : B11 parts_p0 w K) : Calls prog 11 #[parts_p0] w (Ret K) :=
  denFn_calls Tryd.func11 T11_ok (Eq.mpr (B11_eq parts_p0 w K) h)

-- 19 holdfast/holdfastref02.After
def T19 : Ann := (.seq .none (.seq .none (.seq .none (.seq (.seq .none (.seq (.seq .none .none) .none)) (.seq .none (.seq .none .none))))))
theorem T19_ok : chkFn prog Tryd.f19 T19 = true := by kernel_rfl
def B19 (key_p0 : Value) (w : World) (K : Value → World → Prop) : Prop :=
  ef prog (oBi .append #[23, 23] 23 #[false, false] #[(.slice none 0 0), key_p0]) w fun t_0 w =>
  pv prog (oBi .len #[23] 3 #[false] #[t_0]) w fun t_1 w =>
  pvv prog (oEq .eql 3 (.tmp 8) (.const (.int .i64 0)) t_1 (.int .i64 0)) w fun t_2 w =>
  gate (some (t_2, false)) (fun K => K t_0 w) w fun t_3 w =>
  gate (some (t_2, false)) (fun K => K t_0 w) w fun t_4 w =>
  gate (some (t_2, false)) (fun K => pv prog (oBi .len #[23] 3 #[false] #[t_4]) w K) w fun t_5 w =>
  gate (some (t_2, false)) (fun K => pvv prog (binOp .sub 3 t_5 (.int .i64 1)) w K) w fun t_6 w =>
  gate (some (t_2, false)) (fun K => pvv prog (Instr.indexAt 23 t_3 t_6) w K) w fun t_7 w =>
  gate (some (t_2, false)) (fun K => ldv prog (Instr.loadAt 5 t_7) w K) w fun t_8 w =>
  gate (some (t_2, false)) (fun K => pvv prog (oEq .eql 5 (.tmp 16) (.const (.int .u8 255)) t_8 (.int .u8 255)) w K) w fun t_9 w =>
  pv prog (oPick t_2 (.bool true) t_9) w fun t_10 w =>
  cd t_10 (
    efv prog (Instr.buildSlice 23 1 #[(0, (.int .u8 255))]) w fun t_11 w =>
    ef prog (oBi .append #[23, 23] 23 #[false, false] #[t_0, t_11]) w fun t_12 w =>
    K t_12 w) <|
  pv prog (oBi .len #[23] 3 #[false] #[t_0]) w fun t_13 w =>
  pvv prog (binOp .sub 3 t_13 (.int .i64 1)) w fun t_14 w =>
  pvv prog (Instr.indexAt 23 t_0 t_14) w fun t_15 w =>
  ldv prog (Instr.loadAt 5 t_15) w fun t_16 w =>
  pvv prog (binOp .add 5 t_16 (.int .u8 1)) w fun t_17 w =>
  pvv prog (Instr.indexAt 23 t_0 t_14) w fun t_18 w =>
  efu prog (Instr.storeAt 5 t_18 t_17) w fun u_19 w =>
  K t_0 w
theorem B19_eq (key_p0 : Value) (w : World) (K : Value → World → Prop) : denFn prog Tryd.f19 T19 [key_p0] w K = B19 key_p0 w K := by kernel_rfl
theorem c19 {key_p0 : Value} {w : World} {K : Value → World → Prop} (h : B19 key_p0 w K) : Calls prog 19 #[key_p0] w (Ret K) :=
  denFn_calls Tryd.func19 T19_ok (Eq.mpr (B19_eq key_p0 w K) h)

-- 51 strconv.toError
def T51 : Ann := (.seq .none (.seq (.seq .none (.block (.seq .none (.seq (.seq .none .none) (.seq .none (.seq (.seq .none .none) (.seq .none (.seq (.seq .none .none) (.seq .none (.seq (.seq .none .none) .none)))))))))) (.seq .none .none)))
theorem T51_ok : chkFn prog Tryd.f51 T51 = true := by kernel_rfl
def B51 (fn_p0 s_p1 base_p2 bitSize_p3 err_p4 : Value) (w : World) (K : Value → World → Prop) : Prop :=
  pvv prog (Instr.makeInterface 83 (.int .i64 2)) w fun t_0 w =>
  pvv prog (oEq .eql 51 (.tmp 11) (.tmp 13) err_p4 t_0) w fun t_1 w =>
  cd t_1 (
    Calls prog 68 #[fn_p0, s_p1] w (Ret fun t_2 w =>
    pvv prog (Instr.makeInterface 87 t_2) w fun t_3 w =>
    K t_3 w)) <|
  pvv prog (Instr.makeInterface 83 (.int .i64 1)) w fun t_4 w =>
  pvv prog (oEq .eql 51 (.tmp 11) (.tmp 20) err_p4 t_4) w fun t_5 w =>
  cd t_5 (
    Calls prog 69 #[fn_p0, s_p1] w (Ret fun t_6 w =>
    pvv prog (Instr.makeInterface 87 t_6) w fun t_7 w =>
    K t_7 w)) <|
  pvv prog (Instr.makeInterface 83 (.int .i64 3)) w fun t_8 w =>
  pvv prog (oEq .eql 51 (.tmp 11) (.tmp 27) err_p4 t_8) w fun t_9 w =>
  cd t_9 (
    Calls prog 70 #[fn_p0, s_p1, base_p2] w (Ret fun t_10 w =>
    pvv prog (Instr.makeInterface 87 t_10) w fun t_11 w =>
    K t_11 w)) <|
  pvv prog (Instr.makeInterface 83 (.int .i64 4)) w fun t_12 w =>
  pvv prog (oEq .eql 51 (.tmp 11) (.tmp 35) err_p4 t_12) w fun t_13 w =>
  cd t_13 (
    Calls prog 71 #[fn_p0, s_p1, bitSize_p3] w (Ret fun t_14 w =>
    pvv prog (Instr.makeInterface 87 t_14) w fun t_15 w =>
    K t_15 w)) <|
  K err_p4 w
theorem B51_eq (fn_p0 s_p1 base_p2 bitSize_p3 err_p4 : Value) (w : World) (K : Value → World → Prop) : denFn prog Tryd.f51 T51 [fn_p0, s_p1, base_p2, bitSize_p3, err_p4] w K = B51 fn_p0 s_p1 base_p2 bitSize_p3 err_p4 w K := by kernel_rfl
theorem c51 {fn_p0 s_p1 base_p2 bitSize_p3 err_p4 : Value} {w : World} {K : Value → World → Prop} (h : B51 fn_p0 s_p1 base_p2 bitSize_p3 err_p4 w K) : Calls prog 51 #[fn_p0, s_p1, base_p2, bitSize_p3, err_p4] w (Ret K) :=
  denFn_calls Tryd.func51 T51_ok (Eq.mpr (B51_eq fn_p0 s_p1 base_p2 bitSize_p3 err_p4 w K) h)

-- 3 holdfast/holdfastlaw02.CodecOrders
def T3 : Ann := (.seq .none (.seq .none (.seq .none (.seq (.seq .none (.seq (.seq .none .none) .none)) (.seq .none .none)))))
theorem T3_ok : chkFn prog Tryd.f3 T3 = true := by kernel_rfl
def B3 (a_p0 b_p1 : Value) (w : World) (K : Value → World → Prop) : Prop :=
  Calls prog 11 #[a_p0] w (Ret fun t_0 w =>
  pvv prog (Instr.extract t_0 0) w fun t_1 w =>
  pvv prog (Instr.extract t_0 1) w fun t_2 w =>
  Calls prog 11 #[b_p1] w (Ret fun t_3 w =>
  pvv prog (Instr.extract t_3 0) w fun t_4 w =>
  pvv prog (Instr.extract t_3 1) w fun t_5 w =>
  pvv prog (oEq .neq 24 (.tmp 19) (.const (.int .i64 0)) t_2 (.int .i64 0)) w fun t_6 w =>
  gate (some (t_6, false)) (fun K => K t_5 w) w fun t_7 w =>
  gate (some (t_6, false)) (fun K => pvv prog (oEq .neq 24 (.tmp 22) (.const (.int .i64 0)) t_7 (.int .i64 0)) w K) w fun t_8 w =>
  pv prog (oPick t_6 (.bool true) t_8) w fun t_9 w =>
  cd t_9 (
    Calls prog 12 #[] w (Ret fun t_10 w =>
    K t_10 w)) <|
  Calls prog 12 #[] w (Ret fun t_11 w =>
  gate (some (t_11, true)) (fun K => K t_1 w) w fun t_12 w =>
  gate (some (t_11, true)) (fun K => K t_4 w) w fun t_13 w =>
  gate (some (t_11, true)) (fun K => Calls prog 13 #[t_12, t_13] w (Ret K)) w fun t_14 w =>
  gate (some (t_11, true)) (fun K => K a_p0 w) w fun t_15 w =>
  gate (some (t_11, true)) (fun K => K b_p1 w) w fun t_16 w =>
  gate (some (t_11, true)) (fun K => Calls prog 14 #[t_15, t_16] w (Ret K)) w fun t_17 w =>
  gate (some (t_11, true)) (fun K => pvv prog (oEq .eql 4 (.tmp 30) (.tmp 33) t_14 t_17) w K) w fun t_18 w =>
  pv prog (oPick t_11 t_18 (.bool false)) w fun t_19 w =>
  K t_19 w)))
theorem B3_eq (a_p0 b_p1 : Value) (w : World) (K : Value → World → Prop) : denFn prog Tryd.f3 T3 [a_p0, b_p1] w K = B3 a_p0 b_p1 w K := by kernel_rfl
theorem c3 {a_p0 b_p1 : Value} {w : World} {K : Value → World → Prop} (h : B3 a_p0 b_p1 w K) : Calls prog 3 #[a_p0, b_p1] w (Ret K) :=
  denFn_calls Tryd.func3 T3_ok (Eq.mpr (B3_eq a_p0 b_p1 w K) h)

-- 17 holdfast/holdfastref02.SameTexts
def T17 : Ann := (.seq .none (.seq (.seq .none (.seq (.seq .none .none) .none)) (.seq (.seq .none (.block (.loop 67106864 [5] (.seq (.seq .none (.seq .none .none)) (.seq (.block (.seq (.draw [.op 0 .pure, .op 1 .pure, .op 2 .pure, .op 4 .pure, .op 5 .pure, .op 6 .pure, .op 3 .load, .op 7 .load, .op 8 .pure]) (.seq (.seq .none .none) .none))) .none))))) (.seq .none .none))))
theorem T17_ok : chkFn prog Tryd.f17 T17 = true := by kernel_rfl
def B17 (a_p0 b_p1 : Value) (w : World) (K : Value → World → Prop) : Prop :=
  pv prog (oBi .len #[22] 3 #[false] #[a_p0]) w fun t_0 w =>
  pv prog (oBi .len #[22] 3 #[false] #[b_p1]) w fun t_1 w =>
  pvv prog (oEq .neq 3 (.tmp 7) (.tmp 9) t_0 t_1) w fun t_2 w =>
  cd t_2 (
    K (.bool false) w) <|
  lp (fun σ w again_4 => pop σ fun i_3 σ => fin σ <|
    pv prog (oBi .len #[22] 3 #[false] #[a_p0]) w fun t_5 w =>
    pvv prog (binOp .lss 3 i_3 t_5) w fun t_6 w =>
    cd t_6 (
      dr w fun w =>
      pvv prog (Instr.indexAt 22 a_p0 i_3) w fun t_7 w =>
      pvv prog (Instr.indexAt 22 b_p1 i_3) w fun t_8 w =>
      bindS (vN (Instr.loadAt 9 t_7)) fun m_10 => ldv prog (Instr.loadAt 9 t_7) w fun t_9 w =>
      bindS (vN (Instr.loadAt 9 t_8)) fun m_12 => ldv prog (Instr.loadAt 9 t_8) w fun t_11 w =>
      pvv prog (oEq .neq 9 (.tmp 20) (.tmp 24) t_9 t_11) w fun t_13 w =>
      cd t_13 (
        K (.bool false) w) <|
      pvv prog (binOp .add 3 i_3 (.int .i64 1)) w fun t_14 w =>
      again_4 [t_14] w) <|
    K (.bool true) w) [(.int .i64 0)] w
theorem B17_eq (a_p0 b_p1 : Value) (w : World) (K : Value → World → Prop) : denFn prog Tryd.f17 T17 [a_p0, b_p1] w K = B17 a_p0 b_p1 w K := by kernel_rfl
theorem c17 {a_p0 b_p1 : Value} {w : World} {K : Value → World → Prop} (h : B17 a_p0 b_p1 w K) : Calls prog 17 #[a_p0, b_p1] w (Ret K) :=
  denFn_calls Tryd.func17 T17_ok (Eq.mpr (B17_eq a_p0 b_p1 w K) h)

-- 47 strings.trimRightASCII
def T47 : Ann := (.seq .none (.meet 2097121 [0] (.block (.loop 2097121 [0] (.seq (.seq .none (.seq .none .none)) (.block (.seq (.seq .none (.seq .none .none)) .none))))) (.seq .none .none)))
theorem T47_ok : chkFn prog Tryd.f47 T47 = true := by kernel_rfl
def B47 (s_p0 as_p1 : Value) (w : World) (K : Value → World → Prop) : Prop :=
  jn (fun σ w => pop σ fun s_0 σ => fin σ <|
    K s_0 w) fun k_1 =>
  lp (fun σ w again_3 => pop σ fun s_2 σ => fin σ <|
    pv prog (oBi .len #[9] 3 #[false] #[s_2]) w fun t_4 w =>
    pvv prog (binOp .gtr 3 t_4 (.int .i64 0)) w fun t_5 w =>
    cd t_5 (
      pv prog (oBi .len #[9] 3 #[false] #[s_2]) w fun t_6 w =>
      pvv prog (binOp .sub 3 t_6 (.int .i64 1)) w fun t_7 w =>
      pvv prog (Instr.index 9 s_2 t_7) w fun t_8 w =>
      Calls prog 63 #[as_p1, t_8] w (Ret fun t_9 w =>
      pvv prog (Op.unary .not t_9) w fun t_10 w =>
      cd t_10 (
        k_1 [s_2] w) <|
      pv prog (oBi .len #[9] 3 #[false] #[s_2]) w fun t_11 w =>
      pvv prog (binOp .sub 3 t_11 (.int .i64 1)) w fun t_12 w =>
      pvv prog (Instr.sliceAt 9 s_2 none (some t_12) none) w fun t_13 w =>
      again_3 [t_13] w)) <|
    k_1 [s_2] w) [s_p0] w
theorem B47_eq (s_p0 as_p1 : Value) (w : World) (K : Value → World → Prop) : denFn prog Tryd.f47 T47 [s_p0, as_p1] w K = B47 s_p0 as_p1 w K := by kernel_rfl
theorem c47 {s_p0 as_p1 : Value} {w : World} {K : Value → World → Prop} (h : B47 s_p0 as_p1 w K) : Calls prog 47 #[s_p0, as_p1] w (Ret K) :=
  denFn_calls Tryd.func47 T47_ok (Eq.mpr (B47_eq s_p0 as_p1 w K) h)

-- 15 holdfast/codec.Number
def T15 : Ann := (.seq .none (.seq (.seq .none (.seq (.seq .none .none) .none)) (.seq .none (.seq .none .none))))
theorem T15_ok : chkFn prog Tryd.f15 T15 = true := by kernel_rfl
def B15 (n_p0 : Value) (w : World) (K : Value → World → Prop) : Prop :=
  pvv prog (binOp .lss 3 n_p0 (.int .i64 0)) w fun t_0 w =>
  gate (some (t_0, false)) (fun K => K n_p0 w) w fun t_1 w =>
  gate (some (t_0, false)) (fun K => pvv prog (binOp .gtr 3 t_1 (.int .i64 4611686018427387904)) w K) w fun t_2 w =>
  pv prog (oPick t_0 (.bool true) t_2) w fun t_3 w =>
  cd t_3 (
    K (.tuple #[(.string ⟨#[]⟩), (.int .i64 2)]) w) <|
  Calls prog 31 #[n_p0, (.int .i64 16)] w (Ret fun t_4 w =>
  Calls prog 30 #[t_4, (.string ⟨#[48]⟩)] w (Ret fun t_5 w =>
  pv prog (oBi .len #[9] 3 #[false] #[t_5]) w fun t_6 w =>
  pvv prog (binOp .add 3 (.int .i64 97) t_6) w fun t_7 w =>
  pvv prog (convert 3 21 t_7) w fun t_8 w =>
  pvv prog (convert 21 9 t_8) w fun t_9 w =>
  pvv prog (binOp .add 9 t_9 t_5) w fun t_10 w =>
  K (.tuple #[t_10, (.int .i64 0)]) w))
theorem B15_eq (n_p0 : Value) (w : World) (K : Value → World → Prop) : denFn prog Tryd.f15 T15 [n_p0] w K = B15 n_p0 w K := by kernel_rfl
theorem c15 {n_p0 : Value} {w : World} {K : Value → World → Prop} (h : B15 n_p0 w K) : Calls prog 15 #[n_p0] w (Ret K) :=
  denFn_calls Tryd.func15 T15_ok (Eq.mpr (B15_eq n_p0 w K) h)

-- 46 strings.trimLeftASCII
def T46 : Ann := (.seq .none (.meet 32737 [0] (.block (.loop 32737 [0] (.seq (.seq .none (.seq .none .none)) (.block (.seq (.seq .none (.seq .none .none)) .none))))) (.seq .none .none)))
theorem T46_ok : chkFn prog Tryd.f46 T46 = true := by kernel_rfl
def B46 (s_p0 as_p1 : Value) (w : World) (K : Value → World → Prop) : Prop :=
  jn (fun σ w => pop σ fun s_0 σ => fin σ <|
    K s_0 w) fun k_1 =>
  lp (fun σ w again_3 => pop σ fun s_2 σ => fin σ <|
    pv prog (oBi .len #[9] 3 #[false] #[s_2]) w fun t_4 w =>
    pvv prog (binOp .gtr 3 t_4 (.int .i64 0)) w fun t_5 w =>
    cd t_5 (
      pvv prog (Instr.index 9 s_2 (.int .i64 0)) w fun t_6 w =>
      Calls prog 63 #[as_p1, t_6] w (Ret fun t_7 w =>
      pvv prog (Op.unary .not t_7) w fun t_8 w =>
      cd t_8 (
        k_1 [s_2] w) <|
      pvv prog (Instr.sliceAt 9 s_2 (some (.int .i64 1)) none none) w fun t_9 w =>
      again_3 [t_9] w)) <|
    k_1 [s_2] w) [s_p0] w
theorem B46_eq (s_p0 as_p1 : Value) (w : World) (K : Value → World → Prop) : denFn prog Tryd.f46 T46 [s_p0, as_p1] w K = B46 s_p0 as_p1 w K := by kernel_rfl
theorem c46 {s_p0 as_p1 : Value} {w : World} {K : Value → World → Prop} (h : B46 s_p0 as_p1 w K) : Calls prog 46 #[s_p0, as_p1] w (Ret K) :=
  denFn_calls Tryd.func46 T46_ok (Eq.mpr (B46_eq s_p0 as_p1 w K) h)

-- 95 math/bits.TrailingZeros64
def T95 : Ann := (.seq .none (.seq (.seq .none (.seq (.seq .none .none) .none)) (.seq .none .none)))
theorem T95_ok : chkFn prog Tryd.f95 T95 = true := by kernel_rfl
def B95 (x_p0 : Value) (w : World) (K : Value → World → Prop) : Prop :=
  pvv prog (oEq .eql 49 (.tmp 3) (.const (.int .u64 0)) x_p0 (.int .u64 0)) w fun t_0 w =>
  cd t_0 (
    K (.int .i64 64) w) <|
  pvv prog (Op.unary .neg x_p0) w fun t_1 w =>
  pvv prog (binOp .and 49 x_p0 t_1) w fun t_2 w =>
  pvv prog (binOp .mul 49 t_2 (.int .u64 285870213051353865)) w fun t_3 w =>
  pvv prog (binOp .shr 49 t_3 (.int .u64 58)) w fun t_4 w =>
  pvv prog (Instr.indexAt 119 (.pointer (some ⟨7, 0, none⟩)) t_4) w fun t_5 w =>
  ldv prog (Instr.loadAt 5 t_5) w fun t_6 w =>
  pvv prog (convert 5 3 t_6) w fun t_7 w =>
  K t_7 w
theorem B95_eq (x_p0 : Value) (w : World) (K : Value → World → Prop) : denFn prog Tryd.f95 T95 [x_p0] w K = B95 x_p0 w K := by kernel_rfl
theorem c95 {x_p0 : Value} {w : World} {K : Value → World → Prop} (h : B95 x_p0 w K) : Calls prog 95 #[x_p0] w (Ret K) :=
  denFn_calls Tryd.func95 T95_ok (Eq.mpr (B95_eq x_p0 w K) h)

-- 71 strconv.bitSizeError
def T71 : Ann := (.seq .none (.seq .none .none))
theorem T71_ok : chkFn prog Tryd.f71 T71 = true := by kernel_rfl
def B71 (fn_p0 str_p1 bitSize_p2 : Value) (w : World) (K : Value → World → Prop) : Prop :=
  Calls prog 85 #[str_p1] w (Ret fun t_0 w =>
  Calls prog 87 #[bitSize_p2] w (Ret fun t_1 w =>
  pvv prog (binOp .add 9 (.string ⟨#[105, 110, 118, 97, 108, 105, 100, 32, 98, 105, 116, 32, 115, 105, 122, 101, 32]⟩) t_1) w fun t_2 w =>
  Calls prog 86 #[t_2] w (Ret fun t_3 w =>
  pvv prog (Instr.build 102 #[(0, fn_p0), (1, t_0), (2, t_3)]) w fun t_4 w =>
  efv prog (Instr.box 102 t_4) w fun t_5 w =>
  K t_5 w)))
theorem B71_eq (fn_p0 str_p1 bitSize_p2 : Value) (w : World) (K : Value → World → Prop) : denFn prog Tryd.f71 T71 [fn_p0, str_p1, bitSize_p2] w K = B71 fn_p0 str_p1 bitSize_p2 w K := by kernel_rfl
theorem c71 {fn_p0 str_p1 bitSize_p2 : Value} {w : World} {K : Value → World → Prop} (h : B71 fn_p0 str_p1 bitSize_p2 w K) : Calls prog 71 #[fn_p0, str_p1, bitSize_p2] w (Ret K) :=
  denFn_calls Tryd.func71 T71_ok (Eq.mpr (B71_eq fn_p0 str_p1 bitSize_p2 w K) h)

-- 72 unicode/utf8.RuneCountInString
def T72 : Ann := (.seq .none (.seq (.seq .none (.block (.loop 484 [2] (.seq .none (.seq (.seq .none .none) (.block .none)))))) (.seq .none .none)))
theorem T72_ok : chkFn prog Tryd.f72 T72 = true := by kernel_rfl
def B72 (s_p0 : Value) (w : World) (K : Value → World → Prop) : Prop :=
  efv prog (Instr.range 9 s_p0) w fun t_0 w =>
  lp (fun σ w again_2 => pop σ fun n_1 σ => fin σ <|
    efv prog (Instr.next t_0 true 0) w fun t_3 w =>
    pvv prog (Instr.extract t_3 0) w fun t_4 w =>
    cd t_4 (
      pvv prog (binOp .add 3 n_1 (.int .i64 1)) w fun t_5 w =>
      again_2 [t_5] w) <|
    K n_1 w) [(.int .i64 0)] w
theorem B72_eq (s_p0 : Value) (w : World) (K : Value → World → Prop) : denFn prog Tryd.f72 T72 [s_p0] w K = B72 s_p0 w K := by kernel_rfl
theorem c72 {s_p0 : Value} {w : World} {K : Value → World → Prop} (h : B72 s_p0 w K) : Calls prog 72 #[s_p0] w (Ret K) :=
  denFn_calls Tryd.func72 T72_ok (Eq.mpr (B72_eq s_p0 w K) h)

-- 63 (*strings.asciiSet).contains
def T63 : Ann := (.seq .none (.seq .none .none))
theorem T63_ok : chkFn prog Tryd.f63 T63 = true := by kernel_rfl
def B63 (as_p0 c_p1 : Value) (w : World) (K : Value → World → Prop) : Prop :=
  pv prog (oNil as_p0) w fun t_0 w =>
  pvv prog (Instr.indexAt 59 t_0 c_p1) w fun t_1 w =>
  ldv prog (Instr.loadAt 4 t_1) w fun t_2 w =>
  K t_2 w
theorem B63_eq (as_p0 c_p1 : Value) (w : World) (K : Value → World → Prop) : denFn prog Tryd.f63 T63 [as_p0, c_p1] w K = B63 as_p0 c_p1 w K := by kernel_rfl
theorem c63 {as_p0 c_p1 : Value} {w : World} {K : Value → World → Prop} (h : B63 as_p0 c_p1 w K) : Calls prog 63 #[as_p0, c_p1] w (Ret K) :=
  denFn_calls Tryd.func63 T63_ok (Eq.mpr (B63_eq as_p0 c_p1 w K) h)

-- 64 strings.ContainsRune
def T64 : Ann := (.seq .none (.seq .none .none))
theorem T64_ok : chkFn prog Tryd.f64 T64 = true := by kernel_rfl
def B64 (s_p0 r_p1 : Value) (w : World) (K : Value → World → Prop) : Prop :=
  Calls prog 83 #[s_p0, r_p1] w (Ret fun t_0 w =>
  pvv prog (binOp .geq 3 t_0 (.int .i64 0)) w fun t_1 w =>
  K t_1 w)
theorem B64_eq (s_p0 r_p1 : Value) (w : World) (K : Value → World → Prop) : denFn prog Tryd.f64 T64 [s_p0, r_p1] w K = B64 s_p0 r_p1 w K := by kernel_rfl
theorem c64 {s_p0 r_p1 : Value} {w : World} {K : Value → World → Prop} (h : B64 s_p0 r_p1 w K) : Calls prog 64 #[s_p0, r_p1] w (Ret K) :=
  denFn_calls Tryd.func64 T64_ok (Eq.mpr (B64_eq s_p0 r_p1 w K) h)

-- 78 internal/strconv.log10Pow2
def T78 : Ann := (.seq .none (.seq .none .none))
theorem T78_ok : chkFn prog Tryd.f78 T78 = true := by kernel_rfl
def B78 (x_p0 : Value) (w : World) (K : Value → World → Prop) : Prop :=
  pvv prog (binOp .mul 3 x_p0 (.int .i64 78913)) w fun t_0 w =>
  pvv prog (binOp .shr 3 t_0 (.int .u64 18)) w fun t_1 w =>
  K t_1 w
theorem B78_eq (x_p0 : Value) (w : World) (K : Value → World → Prop) : denFn prog Tryd.f78 T78 [x_p0] w K = B78 x_p0 w K := by kernel_rfl
theorem c78 {x_p0 : Value} {w : World} {K : Value → World → Prop} (h : B78 x_p0 w K) : Calls prog 78 #[x_p0] w (Ret K) :=
  denFn_calls Tryd.func78 T78_ok (Eq.mpr (B78_eq x_p0 w K) h)

-- 24 holdfast/holdfastref01.Copy
def T24 : Ann := (.seq .none (.seq .none (.seq .none .none)))
theorem T24_ok : chkFn prog Tryd.f24 T24 = true := by kernel_rfl
def B24 (b_p0 : Value) (w : World) (K : Value → World → Prop) : Prop :=
  ef prog (oBi .append #[23, 23] 23 #[false, false] #[(.slice none 0 0), b_p0]) w fun t_0 w =>
  K t_0 w
theorem B24_eq (b_p0 : Value) (w : World) (K : Value → World → Prop) : denFn prog Tryd.f24 T24 [b_p0] w K = B24 b_p0 w K := by kernel_rfl
theorem c24 {b_p0 : Value} {w : World} {K : Value → World → Prop} (h : B24 b_p0 w K) : Calls prog 24 #[b_p0] w (Ret K) :=
  denFn_calls Tryd.func24 T24_ok (Eq.mpr (B24_eq b_p0 w K) h)

-- 41 bytes.IndexByte
def T41 : Ann := (.seq .none (.seq .none .none))
theorem T41_ok : chkFn prog Tryd.f41 T41 = true := by kernel_rfl
def B41 (b_p0 c_p1 : Value) (w : World) (K : Value → World → Prop) : Prop :=
  ef prog (oCall (.func (.func 62) #[] #[]) #[b_p0, c_p1]) w fun t_0 w =>
  K t_0 w
theorem B41_eq (b_p0 c_p1 : Value) (w : World) (K : Value → World → Prop) : denFn prog Tryd.f41 T41 [b_p0, c_p1] w K = B41 b_p0 c_p1 w K := by kernel_rfl
theorem c41 {b_p0 c_p1 : Value} {w : World} {K : Value → World → Prop} (h : B41 b_p0 c_p1 w K) : Calls prog 41 #[b_p0, c_p1] w (Ret K) :=
  denFn_calls Tryd.func41 T41_ok (Eq.mpr (B41_eq b_p0 c_p1 w K) h)


end Go.Proofs.YtnkmgkilfkgfhaaDoor
