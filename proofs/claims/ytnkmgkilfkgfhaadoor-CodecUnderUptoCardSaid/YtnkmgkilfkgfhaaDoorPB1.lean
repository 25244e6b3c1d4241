import Derived.Test.YtnkmgkilfkgfhaaDoorPI
set_option linter.all false
set_option maxRecDepth 100000
namespace Go.Proofs.YtnkmgkilfkgfhaaDoor
open Go Hold
-- 50 internal/strconv.ParseUint
def T50 : Ann := (.seq .none (.seq (.seq .none (.seq (.seq .none .none) .none)) (.seq .none (.seq .none (.meet 75557863725914306642115 [0, 1] (.block (.seq .none (.seq .none (.seq .none (.seq (.seq .none (.seq .none (.seq (.block (.seq .none (.seq (.seq .none .none) (.seq .none (.seq (.seq .none .none) (.seq .none (.seq (.seq .none .none) (.seq .none .none)))))))) .none))) (.seq .none .none)))))) (.meet 38610068363942219267178692 [2] (.seq .none (.seq .none (.seq .none (.seq (.seq .none .none) .none)))) (.seq .none (.meet 19768355002338416264795390976 [10] (.seq .none (.block (.seq .none (.seq .none (.seq .none (.seq .none .none)))))) (.seq .none (.seq .none (.seq .none (.seq (.seq .none (.block (.loop 23384026197294446688723656123004069511501514518720 [12, 13, 101] (.seq .none (.seq (.seq .none .none) (.meet 11692013098647223335488273859904428945273834942656 [12, 13] (.block (.seq .none (.seq .none (.meet 21778071442375242454352634027738663030976 [12, 16] (.block (.seq .none (.seq (.seq .none .none) (.seq .none (.seq .none (.seq .none (.seq .none (.seq .none .none)))))))) (.seq (.seq .none (.seq (.seq .none .none) .none)) (.seq (.seq .none (.seq (.seq .none .none) .none)) (.seq .none (.seq .none (.seq (.seq .none (.seq (.seq .none .none) .none)) .none))))))))) .none)))))) (.seq (.seq .none (.seq (.seq .none .none) .none)) (.seq .none .none))))))))))))))
theorem T50_ok : chkFn prog Tryd.f50 T50 = true := by kernel_rfl
def B50 (s_p0 base_p1 bitSize_p2 : Value) (w : World) (K : Value → World → Prop) : Prop :=
  pvv prog (oEq .eql 9 (.tmp 18) (.const (.string ⟨#[]⟩)) s_p0 (.string ⟨#[]⟩)) w fun t_0 w =>
  cd t_0 (
    pvv prog (Instr.makeInterface 83 (.int .i64 2)) w fun t_1 w =>
    K (.tuple #[(.int .u64 0), t_1]) w) <|
  pvv prog (oEq .eql 3 (.tmp 21) (.const (.int .i64 0)) base_p1 (.int .i64 0)) w fun t_2 w =>
  jn (fun σ w => pop σ fun s_3 σ => pop σ fun base_4 σ => fin σ <|
    jn (fun σ w => pop σ fun bitSize_5 σ => fin σ <|
      jn (fun σ w => pop σ fun cutoff_6 σ => fin σ <|
        pvv prog (convert 3 85 bitSize_5) w fun t_7 w =>
        pvv prog (binOp .shl 49 (.int .u64 1) t_7) w fun t_8 w =>
        pvv prog (binOp .sub 49 t_8 (.int .u64 1)) w fun t_9 w =>
        efv prog (convert 9 23 s_3) w fun t_10 w =>
        pv prog (oBi .len #[23] 3 #[false] #[t_10]) w fun t_11 w =>
        lp (fun σ w again_15 => pop σ fun underscores_12 σ => pop σ fun n_13 σ => pop σ fun t_14 σ => fin σ <|
          pvv prog (binOp .lss 3 t_14 t_11) w fun t_16 w =>
          cd t_16 (
            jn (fun σ w => pop σ fun underscores_17 σ => pop σ fun n_18 σ => fin σ <|
              pvv prog (binOp .add 3 t_14 (.int .i64 1)) w fun t_19 w =>
              again_15 [underscores_17, n_18, t_19] w) fun k_20 =>
            pvv prog (Instr.indexAt 23 t_10 t_14) w fun t_21 w =>
            ldv prog (Instr.loadAt 5 t_21) w fun t_22 w =>
            jn (fun σ w => pop σ fun underscores_23 σ => pop σ fun d_24 σ => fin σ <|
              pvv prog (convert 3 5 base_4) w fun t_25 w =>
              pvv prog (binOp .geq 5 d_24 t_25) w fun t_26 w =>
              cd t_26 (
                pvv prog (Instr.makeInterface 83 (.int .i64 2)) w fun t_27 w =>
                K (.tuple #[(.int .u64 0), t_27]) w) <|
              pvv prog (binOp .geq 49 n_13 cutoff_6) w fun t_28 w =>
              cd t_28 (
                pvv prog (Instr.makeInterface 83 (.int .i64 1)) w fun t_29 w =>
                K (.tuple #[t_9, t_29]) w) <|
              pvv prog (convert 3 49 base_4) w fun t_30 w =>
              pvv prog (binOp .mul 49 n_13 t_30) w fun t_31 w =>
              pvv prog (convert 5 49 d_24) w fun t_32 w =>
              pvv prog (binOp .add 49 t_31 t_32) w fun t_33 w =>
              pvv prog (binOp .lss 49 t_33 t_31) w fun t_34 w =>
              gate (some (t_34, false)) (fun K => K t_33 w) w fun t_35 w =>
              gate (some (t_34, false)) (fun K => K t_9 w) w fun t_36 w =>
              gate (some (t_34, false)) (fun K => pvv prog (binOp .gtr 49 t_35 t_36) w K) w fun t_37 w =>
              pv prog (oPick t_34 (.bool true) t_37) w fun t_38 w =>
              cd t_38 (
                pvv prog (Instr.makeInterface 83 (.int .i64 1)) w fun t_39 w =>
                K (.tuple #[t_9, t_39]) w) <|
              k_20 [underscores_23, t_33] w) fun k_40 =>
            pvv prog (oEq .eql 5 (.tmp 107) (.const (.int .u8 95)) t_22 (.int .u8 95)) w fun t_41 w =>
            gate (some (t_41, true)) (fun K => K t_2 w) w fun t_42 w =>
            pv prog (oPick t_41 t_42 (.bool false)) w fun t_43 w =>
            cd t_43 (
              k_20 [(.bool true), n_13] w) <|
            pvv prog (binOp .leq 5 (.int .u8 48) t_22) w fun t_44 w =>
            gate (some (t_44, true)) (fun K => K t_22 w) w fun t_45 w =>
            gate (some (t_44, true)) (fun K => pvv prog (binOp .leq 5 t_45 (.int .u8 57)) w K) w fun t_46 w =>
            pv prog (oPick t_44 t_46 (.bool false)) w fun t_47 w =>
            cd t_47 (
              pvv prog (binOp .sub 5 t_22 (.int .u8 48)) w fun t_48 w =>
              k_40 [underscores_12, t_48] w) <|
            Calls prog 66 #[t_22] w (Ret fun t_49 w =>
            pvv prog (binOp .leq 5 (.int .u8 97) t_49) w fun t_50 w =>
            gate (some (t_50, true)) (fun K => K t_22 w) w fun t_51 w =>
            gate (some (t_50, true)) (fun K => Calls prog 66 #[t_51] w (Ret K)) w fun t_52 w =>
            gate (some (t_50, true)) (fun K => pvv prog (binOp .leq 5 t_52 (.int .u8 122)) w K) w fun t_53 w =>
            pv prog (oPick t_50 t_53 (.bool false)) w fun t_54 w =>
            cd t_54 (
              Calls prog 66 #[t_22] w (Ret fun t_55 w =>
              pvv prog (binOp .sub 5 t_55 (.int .u8 97)) w fun t_56 w =>
              pvv prog (binOp .add 5 t_56 (.int .u8 10)) w fun t_57 w =>
              k_40 [underscores_12, t_57] w)) <|
            pvv prog (Instr.makeInterface 83 (.int .i64 2)) w fun t_58 w =>
            K (.tuple #[(.int .u64 0), t_58]) w)) <|
          gate (some (underscores_12, true)) (fun K => K s_p0 w) w fun t_59 w =>
          gate (some (underscores_12, true)) (fun K => Calls prog 67 #[t_59] w (Ret K)) w fun t_60 w =>
          gate (some (underscores_12, true)) (fun K => pvv prog (Op.unary .not t_60) w K) w fun t_61 w =>
          pv prog (oPick underscores_12 t_61 (.bool false)) w fun t_62 w =>
          cd t_62 (
            pvv prog (Instr.makeInterface 83 (.int .i64 2)) w fun t_63 w =>
            K (.tuple #[(.int .u64 0), t_63]) w) <|
          K (.tuple #[n_13, .nilIface]) w) [(.bool false), (.int .u64 0), (.int .i64 0)] w) fun k_64 =>
      pvv prog (oEq .eql 3 (.tmp 85) (.const (.int .i64 10)) base_4 (.int .i64 10)) w fun t_65 w =>
      cd t_65 (
        k_64 [(.int .u64 1844674407370955162)] w) <|
      pvv prog (oEq .eql 3 (.tmp 85) (.const (.int .i64 16)) base_4 (.int .i64 16)) w fun t_66 w =>
      cd t_66 (
        k_64 [(.int .u64 1152921504606846976)] w) <|
      pvv prog (convert 3 49 base_4) w fun t_67 w =>
      pvv prog (binOp .quo 49 (.int .u64 18446744073709551615) t_67) w fun t_68 w =>
      pvv prog (binOp .add 49 t_68 (.int .u64 1)) w fun t_69 w =>
      k_64 [t_69] w) fun k_70 =>
    pvv prog (oEq .eql 3 (.tmp 76) (.const (.int .i64 0)) bitSize_p2 (.int .i64 0)) w fun t_71 w =>
    cd t_71 (
      k_70 [(.int .i64 64)] w) <|
    pvv prog (binOp .lss 3 bitSize_p2 (.int .i64 0)) w fun t_72 w =>
    gate (some (t_72, false)) (fun K => K bitSize_p2 w) w fun t_73 w =>
    gate (some (t_72, false)) (fun K => pvv prog (binOp .gtr 3 t_73 (.int .i64 64)) w K) w fun t_74 w =>
    pv prog (oPick t_72 (.bool true) t_74) w fun t_75 w =>
    cd t_75 (
      pvv prog (Instr.makeInterface 83 (.int .i64 4)) w fun t_76 w =>
      K (.tuple #[(.int .u64 0), t_76]) w) <|
    k_70 [bitSize_p2] w) fun k_77 =>
  pvv prog (binOp .leq 3 (.int .i64 2) base_p1) w fun t_78 w =>
  gate (some (t_78, true)) (fun K => K base_p1 w) w fun t_79 w =>
  gate (some (t_78, true)) (fun K => pvv prog (binOp .leq 3 t_79 (.int .i64 36)) w K) w fun t_80 w =>
  pv prog (oPick t_78 t_80 (.bool false)) w fun t_81 w =>
  cd t_81 (
    k_77 [s_p0, base_p1] w) <|
  pvv prog (oEq .eql 3 (.tmp 33) (.const (.int .i64 0)) base_p1 (.int .i64 0)) w fun t_82 w =>
  cd t_82 (
    pvv prog (Instr.index 9 s_p0 (.int .i64 0)) w fun t_83 w =>
    pvv prog (oEq .eql 5 (.tmp 36) (.const (.int .u8 48)) t_83 (.int .u8 48)) w fun t_84 w =>
    cd t_84 (
      pv prog (oBi .len #[9] 3 #[false] #[s_p0]) w fun t_85 w =>
      pvv prog (binOp .geq 3 t_85 (.int .i64 3)) w fun t_86 w =>
      gate (some (t_86, true)) (fun K => K s_p0 w) w fun t_87 w =>
      gate (some (t_86, true)) (fun K => pvv prog (Instr.index 9 t_87 (.int .i64 1)) w K) w fun t_88 w =>
      gate (some (t_86, true)) (fun K => Calls prog 66 #[t_88] w (Ret K)) w fun t_89 w =>
      gate (some (t_86, true)) (fun K => pvv prog (oEq .eql 5 (.tmp 47) (.const (.int .u8 98)) t_89 (.int .u8 98)) w K) w fun t_90 w =>
      pv prog (oPick t_86 t_90 (.bool false)) w fun t_91 w =>
      cd t_91 (
        pvv prog (Instr.sliceAt 9 s_p0 (some (.int .i64 2)) none none) w fun t_92 w =>
        k_77 [t_92, (.int .i64 2)] w) <|
      pv prog (oBi .len #[9] 3 #[false] #[s_p0]) w fun t_93 w =>
      pvv prog (binOp .geq 3 t_93 (.int .i64 3)) w fun t_94 w =>
      gate (some (t_94, true)) (fun K => K s_p0 w) w fun t_95 w =>
      gate (some (t_94, true)) (fun K => pvv prog (Instr.index 9 t_95 (.int .i64 1)) w K) w fun t_96 w =>
      gate (some (t_94, true)) (fun K => Calls prog 66 #[t_96] w (Ret K)) w fun t_97 w =>
      gate (some (t_94, true)) (fun K => pvv prog (oEq .eql 5 (.tmp 59) (.const (.int .u8 111)) t_97 (.int .u8 111)) w K) w fun t_98 w =>
      pv prog (oPick t_94 t_98 (.bool false)) w fun t_99 w =>
      cd t_99 (
        pvv prog (Instr.sliceAt 9 s_p0 (some (.int .i64 2)) none none) w fun t_100 w =>
        k_77 [t_100, (.int .i64 8)] w) <|
      pv prog (oBi .len #[9] 3 #[false] #[s_p0]) w fun t_101 w =>
      pvv prog (binOp .geq 3 t_101 (.int .i64 3)) w fun t_102 w =>
      gate (some (t_102, true)) (fun K => K s_p0 w) w fun t_103 w =>
      gate (some (t_102, true)) (fun K => pvv prog (Instr.index 9 t_103 (.int .i64 1)) w K) w fun t_104 w =>
      gate (some (t_102, true)) (fun K => Calls prog 66 #[t_104] w (Ret K)) w fun t_105 w =>
      gate (some (t_102, true)) (fun K => pvv prog (oEq .eql 5 (.tmp 71) (.const (.int .u8 120)) t_105 (.int .u8 120)) w K) w fun t_106 w =>
      pv prog (oPick t_102 t_106 (.bool false)) w fun t_107 w =>
      cd t_107 (
        pvv prog (Instr.sliceAt 9 s_p0 (some (.int .i64 2)) none none) w fun t_108 w =>
        k_77 [t_108, (.int .i64 16)] w) <|
      pvv prog (Instr.sliceAt 9 s_p0 (some (.int .i64 1)) none none) w fun t_109 w =>
      k_77 [t_109, (.int .i64 8)] w) <|
    k_77 [s_p0, (.int .i64 10)] w) <|
  pvv prog (Instr.makeInterface 83 (.int .i64 3)) w fun t_110 w =>
  K (.tuple #[(.int .u64 0), t_110]) w
theorem B50_eq (s_p0 base_p1 bitSize_p2 : Value) (w : World) (K : Value → World → Prop) : denFn prog Tryd.f50 T50 [s_p0, base_p1, bitSize_p2] w K = B50 s_p0 base_p1 bitSize_p2 w K := by kernel_rfl
theorem c50 {s_p0 base_p1 bitSize_p2 : Value} {w : World} {K : Value → World → Prop} (h : B50 s_p0 base_p1 bitSize_p2 w K) : Calls prog 50 #[s_p0, base_p1, bitSize_p2] w (Ret K) :=
  denFn_calls Tryd.func50 T50_ok (Eq.mpr (B50_eq s_p0 base_p1 bitSize_p2 w K) h)

-- 37 strings.Replace
def T37 : Ann := (.seq .none (.seq (.seq .none (.seq (.seq .none .none) .none)) (.meet 274861130504 [3] (.seq .none (.seq .none (.seq (.seq .none .none) (.seq .none (.seq .none .none))))) (.seq .none (.seq .none (.seq .none (.meet 633825300114114137798398244864 [11] (.seq .none (.seq (.seq .none (.block (.loop 18889456924279326119936 [11, 53] (.seq .none (.seq (.seq .none .none) (.seq (.block (.seq .none (.seq .none (.seq .none .none)))) .none)))))) (.seq .none (.seq .none (.block (.loop 633824997882659797091057985536 [11, 78] (.seq .none (.seq (.seq .none .none) (.seq (.block (.seq .none (.seq .none (.seq .none (.seq .none .none))))) .none))))))))) (.seq .none (.seq .none .none)))))))))
theorem T37_ok : chkFn prog Tryd.f37 T37 = true := by kernel_rfl
def B37 (s_p0 old_p1 new_p2 n_p3 : Value) (w : World) (K : Value → World → Prop) : Prop :=
  pvv prog (oEq .eql 9 (.tmp 16) (.tmp 17) old_p1 new_p2) w fun t_0 w =>
  gate (some (t_0, false)) (fun K => K n_p3 w) w fun t_1 w =>
  gate (some (t_0, false)) (fun K => pvv prog (oEq .eql 3 (.tmp 20) (.const (.int .i64 0)) t_1 (.int .i64 0)) w K) w fun t_2 w =>
  pv prog (oPick t_0 (.bool true) t_2) w fun t_3 w =>
  cd t_3 (
    K s_p0 w) <|
  jn (fun σ w => pop σ fun n_4 σ => fin σ <|
    efv prog (Instr.alloc 68 true (.tuple #[])) w fun b_5 w =>
    pv prog (oBi .len #[9] 3 #[false] #[s_p0]) w fun t_6 w =>
    pv prog (oBi .len #[9] 3 #[false] #[new_p2]) w fun t_7 w =>
    pv prog (oBi .len #[9] 3 #[false] #[old_p1]) w fun t_8 w =>
    pvv prog (binOp .sub 3 t_7 t_8) w fun t_9 w =>
    pvv prog (binOp .mul 3 n_4 t_9) w fun t_10 w =>
    pvv prog (binOp .add 3 t_6 t_10) w fun t_11 w =>
    Calls prog 53 #[b_5, t_11] w (Ret fun t_12 w =>
    jn (fun σ w => pop σ fun start_13 σ => fin σ <|
      pvv prog (Instr.sliceAt 9 s_p0 (some start_13) none none) w fun t_14 w =>
      Calls prog 55 #[b_5, t_14] w (Ret fun t_15 w =>
      Calls prog 57 #[b_5] w (Ret fun t_16 w =>
      K t_16 w))) fun k_17 =>
    pv prog (oBi .len #[9] 3 #[false] #[old_p1]) w fun t_18 w =>
    pvv prog (binOp .gtr 3 t_18 (.int .i64 0)) w fun t_19 w =>
    cd t_19 (
      lp (fun σ w again_22 => pop σ fun start_20 σ => pop σ fun t_21 σ => fin σ <|
        pvv prog (binOp .lss 3 t_21 n_4) w fun t_23 w =>
        cd t_23 (
          pvv prog (Instr.sliceAt 9 s_p0 (some start_20) none none) w fun t_24 w =>
          Calls prog 54 #[t_24, old_p1] w (Ret fun t_25 w =>
          pvv prog (binOp .add 3 start_20 t_25) w fun t_26 w =>
          pvv prog (Instr.sliceAt 9 s_p0 (some start_20) (some t_26) none) w fun t_27 w =>
          Calls prog 55 #[b_5, t_27] w (Ret fun t_28 w =>
          Calls prog 55 #[b_5, new_p2] w (Ret fun t_29 w =>
          pv prog (oBi .len #[9] 3 #[false] #[old_p1]) w fun t_30 w =>
          pvv prog (binOp .add 3 t_26 t_30) w fun t_31 w =>
          pvv prog (binOp .add 3 t_21 (.int .i64 1)) w fun t_32 w =>
          again_22 [t_31, t_32] w)))) <|
        k_17 [start_20] w) [(.int .i64 0), (.int .i64 0)] w) <|
    Calls prog 55 #[b_5, new_p2] w (Ret fun t_33 w =>
    pvv prog (binOp .sub 3 n_4 (.int .i64 1)) w fun t_34 w =>
    lp (fun σ w again_37 => pop σ fun start_35 σ => pop σ fun t_36 σ => fin σ <|
      pvv prog (binOp .lss 3 t_36 t_34) w fun t_38 w =>
      cd t_38 (
        pvv prog (Instr.sliceAt 9 s_p0 (some start_35) none none) w fun t_39 w =>
        Calls prog 56 #[t_39] w (Ret fun t_40 w =>
        pvv prog (Instr.extract t_40 0) w fun t_41 w =>
        pvv prog (Instr.extract t_40 1) w fun t_42 w =>
        pvv prog (binOp .add 3 start_35 t_42) w fun t_43 w =>
        pvv prog (Instr.sliceAt 9 s_p0 (some start_35) (some t_43) none) w fun t_44 w =>
        Calls prog 55 #[b_5, t_44] w (Ret fun t_45 w =>
        Calls prog 55 #[b_5, new_p2] w (Ret fun t_46 w =>
        pvv prog (binOp .add 3 t_36 (.int .i64 1)) w fun t_47 w =>
        again_37 [t_43, t_47] w)))) <|
      k_17 [start_35] w) [(.int .i64 0), (.int .i64 0)] w))) fun k_48 =>
  Calls prog 52 #[s_p0, old_p1] w (Ret fun t_49 w =>
  pvv prog (oEq .eql 3 (.tmp 27) (.const (.int .i64 0)) t_49 (.int .i64 0)) w fun t_50 w =>
  cd t_50 (
    K s_p0 w) <|
  pvv prog (binOp .lss 3 n_p3 (.int .i64 0)) w fun t_51 w =>
  gate (some (t_51, false)) (fun K => K t_49 w) w fun t_52 w =>
  gate (some (t_51, false)) (fun K => K n_p3 w) w fun t_53 w =>
  gate (some (t_51, false)) (fun K => pvv prog (binOp .lss 3 t_52 t_53) w K) w fun t_54 w =>
  pv prog (oPick t_51 (.bool true) t_54) w fun t_55 w =>
  cd t_55 (
    k_48 [t_49] w) <|
  k_48 [n_p3] w)
theorem B37_eq (s_p0 old_p1 new_p2 n_p3 : Value) (w : World) (K : Value → World → Prop) : denFn prog Tryd.f37 T37 [s_p0, old_p1, new_p2, n_p3] w K = B37 s_p0 old_p1 new_p2 n_p3 w K := by kernel_rfl
theorem c37 {s_p0 old_p1 new_p2 n_p3 : Value} {w : World} {K : Value → World → Prop} (h : B37 s_p0 old_p1 new_p2 n_p3 w K) : Calls prog 37 #[s_p0, old_p1, new_p2, n_p3] w (Ret K) :=
  denFn_calls Tryd.func37 T37_ok (Eq.mpr (B37_eq s_p0 old_p1 new_p2 n_p3 w K) h)

-- 130 gosem.cut.vars
def T130 : Ann := (.seq .none (.seq .none (.seq .none (.seq .none (.seq .none .none)))))
theorem T130_ok : chkFn prog Tryd.f130 T130 = true := by kernel_rfl
def B130 (w : World) (K : Value → World → Prop) : Prop :=
  pvv prog (Instr.build 118 #[(0, (.int .u8 0)), (1, (.int .u8 1)), (2, (.int .u8 28)), (3, (.int .u8 2)), (4, (.int .u8 29)), (5, (.int .u8 14)), (6, (.int .u8 24)), (7, (.int .u8 3)), (8, (.int .u8 30)), (9, (.int .u8 22)), (10, (.int .u8 20)), (11, (.int .u8 15)), (12, (.int .u8 25)), (13, (.int .u8 17)), (14, (.int .u8 4)), (15, (.int .u8 8)), (16, (.int .u8 31)), (17, (.int .u8 27)), (18, (.int .u8 13)), (19, (.int .u8 23)), (20, (.int .u8 21)), (21, (.int .u8 19)), (22, (.int .u8 16)), (23, (.int .u8 7)), (24, (.int .u8 26)), (25, (.int .u8 12)), (26, (.int .u8 18)), (27, (.int .u8 6)), (28, (.int .u8 11)), (29, (.int .u8 5)), (30, (.int .u8 10)), (31, (.int .u8 9))]) w fun t_0 w =>
  efu prog (Instr.storeAt 118 (.pointer (some ⟨6, 0, none⟩)) t_0) w fun u_1 w =>
  pvv prog (Instr.build 119 #[(0, (.int .u8 0)), (1, (.int .u8 1)), (2, (.int .u8 56)), (3, (.int .u8 2)), (4, (.int .u8 57)), (5, (.int .u8 49)), (6, (.int .u8 28)), (7, (.int .u8 3)), (8, (.int .u8 61)), (9, (.int .u8 58)), (10, (.int .u8 42)), (11, (.int .u8 50)), (12, (.int .u8 38)), (13, (.int .u8 29)), (14, (.int .u8 17)), (15, (.int .u8 4)), (16, (.int .u8 62)), (17, (.int .u8 47)), (18, (.int .u8 59)), (19, (.int .u8 36)), (20, (.int .u8 45)), (21, (.int .u8 43)), (22, (.int .u8 51)), (23, (.int .u8 22)), (24, (.int .u8 53)), (25, (.int .u8 39)), (26, (.int .u8 33)), (27, (.int .u8 30)), (28, (.int .u8 24)), (29, (.int .u8 18)), (30, (.int .u8 12)), (31, (.int .u8 5)), (32, (.int .u8 63)), (33, (.int .u8 55)), (34, (.int .u8 48)), (35, (.int .u8 27)), (36, (.int .u8 60)), (37, (.int .u8 41)), (38, (.int .u8 37)), (39, (.int .u8 16)), (40, (.int .u8 46)), (41, (.int .u8 35)), (42, (.int .u8 44)), (43, (.int .u8 21)), (44, (.int .u8 52)), (45, (.int .u8 32)), (46, (.int .u8 23)), (47, (.int .u8 11)), (48, (.int .u8 54)), (49, (.int .u8 26)), (50, (.int .u8 40)), (51, (.int .u8 15)), (52, (.int .u8 34)), (53, (.int .u8 20)), (54, (.int .u8 31)), (55, (.int .u8 10)), (56, (.int .u8 25)), (57, (.int .u8 14)), (58, (.int .u8 19)), (59, (.int .u8 9)), (60, (.int .u8 13)), (61, (.int .u8 8)), (62, (.int .u8 7)), (63, (.int .u8 6))]) w fun t_2 w =>
  efu prog (Instr.storeAt 119 (.pointer (some ⟨7, 0, none⟩)) t_2) w fun u_3 w =>
  pvv prog (Instr.build 95 #[(0, (.int .u64 1)), (1, (.int .u64 10)), (2, (.int .u64 100)), (3, (.int .u64 1000)), (4, (.int .u64 10000)), (5, (.int .u64 100000)), (6, (.int .u64 1000000)), (7, (.int .u64 10000000)), (8, (.int .u64 100000000)), (9, (.int .u64 1000000000)), (10, (.int .u64 10000000000)), (11, (.int .u64 100000000000)), (12, (.int .u64 1000000000000)), (13, (.int .u64 10000000000000)), (14, (.int .u64 100000000000000)), (15, (.int .u64 1000000000000000)), (16, (.int .u64 10000000000000000)), (17, (.int .u64 100000000000000000)), (18, (.int .u64 1000000000000000000)), (19, (.int .u64 10000000000000000000))]) w fun t_4 w =>
  efu prog (Instr.storeAt 95 (.pointer (some ⟨0, 0, none⟩)) t_4) w fun u_5 w =>
  pvv prog (Instr.build 109 #[(0, (.int .u8 128)), (1, (.int .u8 191))]) w fun t_6 w =>
  pvv prog (Instr.build 109 #[(0, (.int .u8 160)), (1, (.int .u8 191))]) w fun t_7 w =>
  pvv prog (Instr.build 109 #[(0, (.int .u8 128)), (1, (.int .u8 159))]) w fun t_8 w =>
  pvv prog (Instr.build 109 #[(0, (.int .u8 144)), (1, (.int .u8 191))]) w fun t_9 w =>
  pvv prog (Instr.build 109 #[(0, (.int .u8 128)), (1, (.int .u8 143))]) w fun t_10 w =>
  pvv prog (Instr.build 110 #[(0, t_6), (1, t_7), (2, t_8), (3, t_9), (4, t_10)]) w fun t_11 w =>
  efu prog (Instr.storeAt 110 (.pointer (some ⟨5, 0, none⟩)) t_11) w fun u_12 w =>
  Calls prog 86 #[(.string ⟨#[118, 97, 108, 117, 101, 32, 111, 117, 116, 32, 111, 102, 32, 114, 97, 110, 103, 101]⟩)] w (Ret fun t_13 w =>
  efu prog (Instr.storeAt 51 (.pointer (some ⟨3, 0, none⟩)) t_13) w fun u_14 w =>
  Calls prog 86 #[(.string ⟨#[105, 110, 118, 97, 108, 105, 100, 32, 115, 121, 110, 116, 97, 120]⟩)] w (Ret fun t_15 w =>
  efu prog (Instr.storeAt 51 (.pointer (some ⟨2, 0, none⟩)) t_15) w fun u_16 w =>
  K (.tuple #[]) w))
theorem B130_eq (w : World) (K : Value → World → Prop) : denFn prog Tryd.f130 T130 [] w K = B130  w K := by kernel_rfl
theorem c130 {w : World} {K : Value → World → Prop} (h : B130  w K) : Calls prog 130 #[] w (Ret K) :=
  denFn_calls Tryd.func130 T130_ok (Eq.mpr (B130_eq  w K) h)

-- 9 holdfast/holdfastlaw02.CodecKeys
def T9 : Ann := (.seq .none (.seq .none (.seq .none (.seq .none (.seq .none (.seq (.seq .none (.seq (.seq .none .none) .none)) (.meet 75555557882905109749776 [] (.seq .none (.seq (.seq .none (.seq .none (.seq (.seq .none .none) .none))) .none)) (.seq (.seq .none (.seq (.seq .none .none) .none)) (.seq .none (.seq .none .none))))))))))
theorem T9_ok : chkFn prog Tryd.f9 T9 = true := by kernel_rfl
def B9 (parts_p0 b_p1 : Value) (w : World) (K : Value → World → Prop) : Prop :=
  Calls prog 11 #[parts_p0] w (Ret fun t_0 w =>
  pvv prog (Instr.extract t_0 0) w fun t_1 w =>
  pvv prog (Instr.extract t_0 1) w fun t_2 w =>
  Calls prog 25 #[parts_p0] w (Ret fun t_3 w =>
  pvv prog (Instr.extract t_3 0) w fun t_4 w =>
  pvv prog (Instr.extract t_3 1) w fun t_5 w =>
  Calls prog 26 #[b_p1] w (Ret fun t_6 w =>
  pvv prog (Instr.extract t_6 0) w fun t_7 w =>
  pvv prog (Instr.extract t_6 1) w fun t_8 w =>
  Calls prog 27 #[b_p1] w (Ret fun t_9 w =>
  pvv prog (Instr.extract t_9 0) w fun t_10 w =>
  pvv prog (Instr.extract t_9 1) w fun t_11 w =>
  Calls prog 12 #[] w (Ret fun t_12 w =>
  pvv prog (Op.unary .not t_12) w fun t_13 w =>
  gate (some (t_13, false)) (fun K => K t_1 w) w fun t_14 w =>
  gate (some (t_13, false)) (fun K => K t_4 w) w fun t_15 w =>
  gate (some (t_13, false)) (fun K => Calls prog 16 #[t_14, t_15] w (Ret K)) w fun t_16 w =>
  gate (some (t_13, false)) (fun K => pvv prog (Op.unary .not t_16) w K) w fun t_17 w =>
  pv prog (oPick t_13 (.bool true) t_17) w fun t_18 w =>
  gate (some (t_18, false)) (fun K => K t_2 w) w fun t_19 w =>
  gate (some (t_18, false)) (fun K => K t_5 w) w fun t_20 w =>
  gate (some (t_18, false)) (fun K => pvv prog (oEq .neq 24 (.tmp 46) (.tmp 47) t_19 t_20) w K) w fun t_21 w =>
  pv prog (oPick t_18 (.bool true) t_21) w fun t_22 w =>
  gate (some (t_22, false)) (fun K => K t_7 w) w fun t_23 w =>
  gate (some (t_22, false)) (fun K => K t_10 w) w fun t_24 w =>
  gate (some (t_22, false)) (fun K => Calls prog 17 #[t_23, t_24] w (Ret K)) w fun t_25 w =>
  gate (some (t_22, false)) (fun K => pvv prog (Op.unary .not t_25) w K) w fun t_26 w =>
  pv prog (oPick t_22 (.bool true) t_26) w fun t_27 w =>
  gate (some (t_27, false)) (fun K => K t_8 w) w fun t_28 w =>
  gate (some (t_27, false)) (fun K => K t_11 w) w fun t_29 w =>
  gate (some (t_27, false)) (fun K => pvv prog (oEq .neq 24 (.tmp 57) (.tmp 58) t_28 t_29) w K) w fun t_30 w =>
  pv prog (oPick t_27 (.bool true) t_30) w fun t_31 w =>
  cd t_31 (
    K (.bool false) w) <|
  jn (fun σ w => fin σ <|
    pvv prog (oEq .neq 24 (.tmp 76) (.const (.int .i64 0)) t_2 (.int .i64 0)) w fun t_32 w =>
    cd t_32 (
      K (.bool true) w) <|
    Calls prog 26 #[t_1] w (Ret fun t_33 w =>
    pvv prog (Instr.extract t_33 0) w fun t_34 w =>
    pvv prog (Instr.extract t_33 1) w fun t_35 w =>
    pvv prog (oEq .eql 24 (.tmp 83) (.const (.int .i64 0)) t_35 (.int .i64 0)) w fun t_36 w =>
    gate (some (t_36, true)) (fun K => K t_34 w) w fun t_37 w =>
    gate (some (t_36, true)) (fun K => K parts_p0 w) w fun t_38 w =>
    gate (some (t_36, true)) (fun K => Calls prog 17 #[t_37, t_38] w (Ret K)) w fun t_39 w =>
    pv prog (oPick t_36 t_39 (.bool false)) w fun t_40 w =>
    K t_40 w)) fun k_41 =>
  pvv prog (oEq .eql 24 (.tmp 61) (.const (.int .i64 0)) t_8 (.int .i64 0)) w fun t_42 w =>
  cd t_42 (
    Calls prog 11 #[t_7] w (Ret fun t_43 w =>
    pvv prog (Instr.extract t_43 0) w fun t_44 w =>
    pvv prog (Instr.extract t_43 1) w fun t_45 w =>
    pvv prog (oEq .neq 24 (.tmp 68) (.const (.int .i64 0)) t_45 (.int .i64 0)) w fun t_46 w =>
    gate (some (t_46, false)) (fun K => K t_44 w) w fun t_47 w =>
    gate (some (t_46, false)) (fun K => K b_p1 w) w fun t_48 w =>
    gate (some (t_46, false)) (fun K => Calls prog 16 #[t_47, t_48] w (Ret K)) w fun t_49 w =>
    gate (some (t_46, false)) (fun K => pvv prog (Op.unary .not t_49) w K) w fun t_50 w =>
    pv prog (oPick t_46 (.bool true) t_50) w fun t_51 w =>
    cd t_51 (
      K (.bool false) w) <|
    k_41 [] w)) <|
  k_41 [] w)))))
theorem B9_eq (parts_p0 b_p1 : Value) (w : World) (K : Value → World → Prop) : denFn prog Tryd.f9 T9 [parts_p0, b_p1] w K = B9 parts_p0 b_p1 w K := by kernel_rfl
theorem c9 {parts_p0 b_p1 : Value} {w : World} {K : Value → World → Prop} (h : B9 parts_p0 b_p1 w K) : Calls prog 9 #[parts_p0, b_p1] w (Ret K) :=
  denFn_calls Tryd.func9 T9_ok (Eq.mpr (B9_eq parts_p0 b_p1 w K) h)

-- 40 holdfast/codec.split$1
def T40 : Ann := (.seq .none (.seq (.block (.loop 562949953421304 [3] (.seq (.seq .none (.seq .none .none)) (.block (.seq .none (.seq (.seq .none (.seq (.seq .none .none) .none)) (.seq .none (.meet 35184304979976 [3] (.seq .none (.block (.seq .none (.seq .none (.seq .none (.seq (.seq (.seq .none (.seq .none .none)) .none) (.seq .none .none))))))) .none)))))))) (.seq .none (.seq .none .none))))
theorem T40_ok : chkFn prog Tryd.f40 T40 = true := by kernel_rfl
def B40 (yield_p0 x_p1 : Value) (w : World) (K : Value → World → Prop) : Prop :=
  lp (fun σ w again_1 => pop σ fun part_0 σ => fin σ <|
    ldv prog (Instr.loadAt 23 x_p1) w fun t_2 w =>
    pv prog (oBi .len #[23] 3 #[false] #[t_2]) w fun t_3 w =>
    pvv prog (binOp .gtr 3 t_3 (.int .i64 0)) w fun t_4 w =>
    cd t_4 (
      ldv prog (Instr.loadAt 23 x_p1) w fun t_5 w =>
      Calls prog 41 #[t_5, (.int .u8 0)] w (Ret fun t_6 w =>
      pvv prog (binOp .lss 3 t_6 (.int .i64 0)) w fun t_7 w =>
      gate (some (t_7, false)) (fun K => K t_6 w) w fun t_8 w =>
      gate (some (t_7, false)) (fun K => pvv prog (binOp .add 3 t_8 (.int .i64 1)) w K) w fun t_9 w =>
      gate (some (t_7, false)) (fun K => ldv prog (Instr.loadAt 23 x_p1) w K) w fun t_10 w =>
      gate (some (t_7, false)) (fun K => pv prog (oBi .len #[23] 3 #[false] #[t_10]) w K) w fun t_11 w =>
      gate (some (t_7, false)) (fun K => pvv prog (oEq .eql 3 (.tmp 14) (.tmp 16) t_9 t_11) w K) w fun t_12 w =>
      pv prog (oPick t_7 (.bool true) t_12) w fun t_13 w =>
      cd t_13 (
        ef prog (oCall yield_p0 #[(.string ⟨#[]⟩), (.bool false)]) w fun t_14 w =>
        K (.tuple #[]) w) <|
      ldv prog (Instr.loadAt 23 x_p1) w fun t_15 w =>
      pvv prog (Instr.sliceAt 23 t_15 none (some t_6) none) w fun t_16 w =>
      ef prog (oBi .append #[23, 23] 23 #[false, false] #[part_0, t_16]) w fun t_17 w =>
      jn (fun σ w => pop σ fun part_18 σ => fin σ <|
        ldv prog (Instr.loadAt 23 x_p1) w fun t_19 w =>
        pvv prog (binOp .add 3 t_6 (.int .i64 2)) w fun t_20 w =>
        pvv prog (Instr.sliceAt 23 t_19 (some t_20) none none) w fun t_21 w =>
        efu prog (Instr.storeAt 23 x_p1 t_21) w fun u_22 w =>
        again_1 [part_18] w) fun k_23 =>
      ldv prog (Instr.loadAt 23 x_p1) w fun t_24 w =>
      pvv prog (binOp .add 3 t_6 (.int .i64 1)) w fun t_25 w =>
      pvv prog (Instr.indexAt 23 t_24 t_25) w fun t_26 w =>
      ldv prog (Instr.loadAt 5 t_26) w fun t_27 w =>
      pvv prog (oEq .eql 5 (.tmp 30) (.const (.int .u8 255)) t_27 (.int .u8 255)) w fun t_28 w =>
      cd t_28 (
        efv prog (Instr.buildSlice 23 1 #[(0, (.int .u8 0))]) w fun t_29 w =>
        ef prog (oBi .append #[23, 23] 23 #[false, false] #[t_17, t_29]) w fun t_30 w =>
        k_23 [t_30] w) <|
      pvv prog (oEq .eql 5 (.tmp 30) (.const (.int .u8 1)) t_27 (.int .u8 1)) w fun t_31 w =>
      cd t_31 (
        efv prog (convert 23 9 t_17) w fun t_32 w =>
        ef prog (oCall yield_p0 #[t_32, (.bool true)]) w fun t_33 w =>
        pvv prog (Op.unary .not t_33) w fun t_34 w =>
        cd t_34 (
          K (.tuple #[]) w) <|
        k_23 [(.slice none 0 0)] w) <|
      ef prog (oCall yield_p0 #[(.string ⟨#[]⟩), (.bool false)]) w fun t_35 w =>
      K (.tuple #[]) w)) <|
    pv prog (oBi .len #[23] 3 #[false] #[part_0]) w fun t_36 w =>
    pvv prog (binOp .gtr 3 t_36 (.int .i64 0)) w fun t_37 w =>
    cd t_37 (
      ef prog (oCall yield_p0 #[(.string ⟨#[]⟩), (.bool false)]) w fun t_38 w =>
      K (.tuple #[]) w) <|
    K (.tuple #[]) w) [(.slice none 0 0)] w
theorem B40_eq (yield_p0 x_p1 : Value) (w : World) (K : Value → World → Prop) : denFn prog Tryd.f40 T40 [yield_p0, x_p1] w K = B40 yield_p0 x_p1 w K := by kernel_rfl
theorem c40 {yield_p0 x_p1 : Value} {w : World} {K : Value → World → Prop} (h : B40 yield_p0 x_p1 w K) : Calls prog 40 #[yield_p0, x_p1] w (Ret K) :=
  denFn_calls Tryd.func40 T40_ok (Eq.mpr (B40_eq yield_p0 x_p1 w K) h)

-- 8 holdfast/holdfastlaw02.CodecWhole
def T8 : Ann := (.seq .none (.seq .none (.seq (.seq .none (.seq (.seq .none .none) .none)) (.seq (.seq .none (.seq (.seq .none .none) .none)) (.seq .none (.seq .none (.seq .none .none)))))))
theorem T8_ok : chkFn prog Tryd.f8 T8 = true := by kernel_rfl
def B8 (columns_p0 k_p1 : Value) (w : World) (K : Value → World → Prop) : Prop :=
  Calls prog 20 #[columns_p0] w (Ret fun t_0 w =>
  pvv prog (Instr.extract t_0 0) w fun t_1 w =>
  pvv prog (Instr.extract t_0 1) w fun t_2 w =>
  pvv prog (oEq .neq 24 (.tmp 16) (.const (.int .i64 0)) t_2 (.int .i64 0)) w fun t_3 w =>
  cd t_3 (
    Calls prog 12 #[] w (Ret fun t_4 w =>
    K t_4 w)) <|
  pv prog (oBi .len #[23] 3 #[false] #[t_1]) w fun t_5 w =>
  pvv prog (oEq .eql 3 (.tmp 20) (.const (.int .i64 0)) t_5 (.int .i64 0)) w fun t_6 w =>
  cd t_6 (
    K (.bool false) w) <|
  pvv prog (convert 5 3 k_p1) w fun t_7 w =>
  pv prog (oBi .len #[23] 3 #[false] #[t_1]) w fun t_8 w =>
  pvv prog (binOp .rem 3 t_7 t_8) w fun t_9 w =>
  pvv prog (Instr.sliceAt 23 t_1 none (some t_9) none) w fun t_10 w =>
  Calls prog 22 #[t_10] w (Ret fun t_11 w =>
  pvv prog (Instr.extract t_11 0) w fun t_12 w =>
  pvv prog (Instr.extract t_11 1) w fun t_13 w =>
  Calls prog 24 #[t_1] w (Ret fun t_14 w =>
  efv prog (Instr.buildSlice 23 1 #[(0, k_p1)]) w fun t_15 w =>
  ef prog (oBi .append #[23, 23] 23 #[false, false] #[t_14, t_15]) w fun t_16 w =>
  Calls prog 22 #[t_16] w (Ret fun t_17 w =>
  pvv prog (Instr.extract t_17 0) w fun t_18 w =>
  pvv prog (Instr.extract t_17 1) w fun t_19 w =>
  Calls prog 12 #[] w (Ret fun t_20 w =>
  gate (some (t_20, true)) (fun K => K t_13 w) w fun t_21 w =>
  gate (some (t_20, true)) (fun K => pvv prog (oEq .eql 24 (.tmp 44) (.const (.int .i64 3)) t_21 (.int .i64 3)) w K) w fun t_22 w =>
  pv prog (oPick t_20 t_22 (.bool false)) w fun t_23 w =>
  gate (some (t_23, true)) (fun K => K t_19 w) w fun t_24 w =>
  gate (some (t_23, true)) (fun K => pvv prog (oEq .eql 24 (.tmp 48) (.const (.int .i64 3)) t_24 (.int .i64 3)) w K) w fun t_25 w =>
  gate (some (t_23, true)) (fun K => K t_25 w) w fun t_26 w =>
  gate (some (t_26, false)) (fun K => K t_19 w) w fun t_27 w =>
  gate (some (t_26, false)) (fun K => pvv prog (oEq .eql 24 (.tmp 51) (.const (.int .i64 6)) t_27 (.int .i64 6)) w K) w fun t_28 w =>
  gate (some (t_26, false)) (fun K => K t_28 w) w fun t_29 w =>
  gate (some (t_29, true)) (fun K => K t_1 w) w fun t_30 w =>
  gate (some (t_29, true)) (fun K => pv prog (oBi .len #[23] 3 #[false] #[t_30]) w K) w fun t_31 w =>
  gate (some (t_29, true)) (fun K => pvv prog (oEq .eql 3 (.tmp 55) (.const (.int .i64 72)) t_31 (.int .i64 72)) w K) w fun t_32 w =>
  gate (some (t_26, false)) (fun K => pv prog (oPick t_29 t_32 (.bool false)) w K) w fun t_33 w =>
  gate (some (t_23, true)) (fun K => pv prog (oPick t_26 (.bool true) t_33) w K) w fun t_34 w =>
  pv prog (oPick t_23 t_34 (.bool false)) w fun t_35 w =>
  K t_35 w)))))
theorem B8_eq (columns_p0 k_p1 : Value) (w : World) (K : Value → World → Prop) : denFn prog Tryd.f8 T8 [columns_p0, k_p1] w K = B8 columns_p0 k_p1 w K := by kernel_rfl
theorem c8 {columns_p0 k_p1 : Value} {w : World} {K : Value → World → Prop} (h : B8 columns_p0 k_p1 w K) : Calls prog 8 #[columns_p0, k_p1] w (Ret K) :=
  denFn_calls Tryd.func8 T8_ok (Eq.mpr (B8_eq columns_p0 k_p1 w K) h)

-- 4 holdfast/holdfastlaw02.CodecCounts
def T4 : Ann := (.seq .none (.seq .none (.seq .none (.seq (.seq .none (.seq (.seq .none .none) .none)) (.seq .none .none)))))
theorem T4_ok : chkFn prog Tryd.f4 T4 = true := by kernel_rfl
def B4 (a_p0 b_p1 : Value) (w : World) (K : Value → World → Prop) : Prop :=
  Calls prog 15 #[a_p0] w (Ret fun t_0 w =>
  pvv prog (Instr.extract t_0 0) w fun t_1 w =>
  pvv prog (Instr.extract t_0 1) w fun t_2 w =>
  Calls prog 15 #[b_p1] w (Ret fun t_3 w =>
  pvv prog (Instr.extract t_3 0) w fun t_4 w =>
  pvv prog (Instr.extract t_3 1) w fun t_5 w =>
  pvv prog (oEq .neq 24 (.tmp 19) (.const (.int .i64 0)) t_2 (.int .i64 0)) w fun t_6 w =>
  gate (some (t_6, false)) (fun K => K t_5 w) w fun t_7 w =>
  gate (some (t_6, false)) (fun K => pvv prog (oEq .neq 24 (.tmp 22) (.const (.int .i64 0)) t_7 (.int .i64 0)) w K) w fun t_8 w =>
  pv prog (oPick t_6 (.bool true) t_8) w fun t_9 w =>
  cd t_9 (
    Calls prog 12 #[] w (Ret fun t_10 w =>
    gate (some (t_10, true)) (fun K => K a_p0 w) w fun t_11 w =>
    gate (some (t_10, true)) (fun K => pvv prog (binOp .lss 3 t_11 (.int .i64 0)) w K) w fun t_12 w =>
    gate (some (t_10, true)) (fun K => K t_12 w) w fun t_13 w =>
    gate (some (t_13, false)) (fun K => K b_p1 w) w fun t_14 w =>
    gate (some (t_13, false)) (fun K => pvv prog (binOp .lss 3 t_14 (.int .i64 0)) w K) w fun t_15 w =>
    gate (some (t_10, true)) (fun K => pv prog (oPick t_13 (.bool true) t_15) w K) w fun t_16 w =>
    gate (some (t_10, true)) (fun K => K t_16 w) w fun t_17 w =>
    gate (some (t_17, false)) (fun K => K a_p0 w) w fun t_18 w =>
    gate (some (t_17, false)) (fun K => pvv prog (binOp .gtr 3 t_18 (.int .i64 4611686018427387904)) w K) w fun t_19 w =>
    gate (some (t_10, true)) (fun K => pv prog (oPick t_17 (.bool true) t_19) w K) w fun t_20 w =>
    gate (some (t_10, true)) (fun K => K t_20 w) w fun t_21 w =>
    gate (some (t_21, false)) (fun K => K b_p1 w) w fun t_22 w =>
    gate (some (t_21, false)) (fun K => pvv prog (binOp .gtr 3 t_22 (.int .i64 4611686018427387904)) w K) w fun t_23 w =>
    gate (some (t_10, true)) (fun K => pv prog (oPick t_21 (.bool true) t_23) w K) w fun t_24 w =>
    pv prog (oPick t_10 t_24 (.bool false)) w fun t_25 w =>
    K t_25 w)) <|
  Calls prog 12 #[] w (Ret fun t_26 w =>
  gate (some (t_26, true)) (fun K => K t_1 w) w fun t_27 w =>
  gate (some (t_26, true)) (fun K => K t_4 w) w fun t_28 w =>
  gate (some (t_26, true)) (fun K => pvv prog (binOp .lss 9 t_27 t_28) w K) w fun t_29 w =>
  gate (some (t_26, true)) (fun K => K a_p0 w) w fun t_30 w =>
  gate (some (t_26, true)) (fun K => K b_p1 w) w fun t_31 w =>
  gate (some (t_26, true)) (fun K => pvv prog (binOp .lss 3 t_30 t_31) w K) w fun t_32 w =>
  gate (some (t_26, true)) (fun K => pvv prog (oEq .eql 4 (.tmp 46) (.tmp 49) t_29 t_32) w K) w fun t_33 w =>
  pv prog (oPick t_26 t_33 (.bool false)) w fun t_34 w =>
  K t_34 w)))
theorem B4_eq (a_p0 b_p1 : Value) (w : World) (K : Value → World → Prop) : denFn prog Tryd.f4 T4 [a_p0, b_p1] w K = B4 a_p0 b_p1 w K := by kernel_rfl
theorem c4 {a_p0 b_p1 : Value} {w : World} {K : Value → World → Prop} (h : B4 a_p0 b_p1 w K) : Calls prog 4 #[a_p0, b_p1] w (Ret K) :=
  denFn_calls Tryd.func4 T4_ok (Eq.mpr (B4_eq a_p0 b_p1 w K) h)

-- 79 math/bits.Len64
def T79 : Ann := (.seq .none (.meet 125 [0, 2] (.seq .none (.seq (.seq .none .none) .none)) (.meet 8069 [0, 2] (.seq .none (.seq (.seq .none .none) .none)) (.meet 516101 [0, 2] (.seq .none (.seq (.seq .none .none) .none)) (.seq .none .none)))))
theorem T79_ok : chkFn prog Tryd.f79 T79 = true := by kernel_rfl
def B79 (x_p0 : Value) (w : World) (K : Value → World → Prop) : Prop :=
  jn (fun σ w => pop σ fun x_0 σ => pop σ fun n_1 σ => fin σ <|
    jn (fun σ w => pop σ fun x_2 σ => pop σ fun n_3 σ => fin σ <|
      jn (fun σ w => pop σ fun x_4 σ => pop σ fun n_5 σ => fin σ <|
        pvv prog (convert 49 5 x_4) w fun t_6 w =>
        pvv prog (Instr.index 9 (.string ⟨#[0, 1, 2, 2, 3, 3, 3, 3, 4, 4, 4, 4, 4, 4, 4, 4, 5, 5, 5, 5, 5, 5, 5, 5, 5, 5, 5, 5, 5, 5, 5, 5, 6, 6, 6, 6, 6, 6, 6, 6, 6, 6, 6, 6, 6, 6, 6, 6, 6, 6, 6, 6, 6, 6, 6, 6, 6, 6, 6, 6, 6, 6, 6, 6, 7, 7, 7, 7, 7, 7, 7, 7, 7, 7, 7, 7, 7, 7, 7, 7, 7, 7, 7, 7, 7, 7, 7, 7, 7, 7, 7, 7, 7, 7, 7, 7, 7, 7, 7, 7, 7, 7, 7, 7, 7, 7, 7, 7, 7, 7, 7, 7, 7, 7, 7, 7, 7, 7, 7, 7, 7, 7, 7, 7, 7, 7, 7, 7, 8, 8, 8, 8, 8, 8, 8, 8, 8, 8, 8, 8, 8, 8, 8, 8, 8, 8, 8, 8, 8, 8, 8, 8, 8, 8, 8, 8, 8, 8, 8, 8, 8, 8, 8, 8, 8, 8, 8, 8, 8, 8, 8, 8, 8, 8, 8, 8, 8, 8, 8, 8, 8, 8, 8, 8, 8, 8, 8, 8, 8, 8, 8, 8, 8, 8, 8, 8, 8, 8, 8, 8, 8, 8, 8, 8, 8, 8, 8, 8, 8, 8, 8, 8, 8, 8, 8, 8, 8, 8, 8, 8, 8, 8, 8, 8, 8, 8, 8, 8, 8, 8, 8, 8, 8, 8, 8, 8, 8, 8, 8, 8, 8, 8, 8, 8, 8, 8, 8, 8, 8, 8, 8, 8, 8, 8, 8, 8]⟩) t_6) w fun t_7 w =>
        pvv prog (convert 5 3 t_7) w fun t_8 w =>
        pvv prog (binOp .add 3 n_5 t_8) w fun t_9 w =>
        K t_9 w) fun k_10 =>
      pvv prog (binOp .geq 49 x_2 (.int .u64 256)) w fun t_11 w =>
      cd t_11 (
        pvv prog (binOp .shr 49 x_2 (.int .u64 8)) w fun t_12 w =>
        pvv prog (binOp .add 3 n_3 (.int .i64 8)) w fun t_13 w =>
        k_10 [t_12, t_13] w) <|
      k_10 [x_2, n_3] w) fun k_14 =>
    pvv prog (binOp .geq 49 x_0 (.int .u64 65536)) w fun t_15 w =>
    cd t_15 (
      pvv prog (binOp .shr 49 x_0 (.int .u64 16)) w fun t_16 w =>
      pvv prog (binOp .add 3 n_1 (.int .i64 16)) w fun t_17 w =>
      k_14 [t_16, t_17] w) <|
    k_14 [x_0, n_1] w) fun k_18 =>
  pvv prog (binOp .geq 49 x_p0 (.int .u64 4294967296)) w fun t_19 w =>
  cd t_19 (
    pvv prog (binOp .shr 49 x_p0 (.int .u64 32)) w fun t_20 w =>
    k_18 [t_20, (.int .i64 32)] w) <|
  k_18 [x_p0, (.int .i64 0)] w
theorem B79_eq (x_p0 : Value) (w : World) (K : Value → World → Prop) : denFn prog Tryd.f79 T79 [x_p0] w K = B79 x_p0 w K := by kernel_rfl
theorem c79 {x_p0 : Value} {w : World} {K : Value → World → Prop} (h : B79 x_p0 w K) : Calls prog 79 #[x_p0] w (Ret K) :=
  denFn_calls Tryd.func79 T79_ok (Eq.mpr (B79_eq x_p0 w K) h)

-- 11 holdfast/codec.Key
def T11 : Ann := (.seq .none (.seq (.seq .none (.seq (.seq .none .none) .none)) (.seq .none (.seq (.seq .none (.block (.loop 4294836316 [4, 17] (.seq .none (.seq (.seq .none .none) (.seq (.block (.seq .none (.seq (.seq .none (.seq (.seq .none .none) .none)) (.seq .none .none)))) .none)))))) (.seq (.seq .none (.seq (.seq .none .none) .none)) (.seq .none .none))))))
theorem T11_ok : chkFn prog Tryd.f11 T11 = true := by kernel_rfl
def B11 (parts_p0 : Value) (w : World) (K : Value → World → Prop) : Prop :=
  pv prog (oBi .len #[22] 3 #[false] #[parts_p0]) w fun t_0 w =>
  pvv prog (binOp .lss 3 t_0 (.int .i64 1)) w fun t_1 w =>
  gate (some (t_1, false)) (fun K => K parts_p0 w) w fun t_2 w =>
  gate (some (t_1, false)) (fun K => pv prog (oBi .len #[22] 3 #[false] #[t_2]) w K) w fun t_3 w =>
  gate (some (t_1, false)) (fun K => pvv prog (binOp .gtr 3 t_3 (.int .i64 8)) w K) w fun t_4 w =>
  pv prog (oPick t_1 (.bool true) t_4) w fun t_5 w =>
  cd t_5 (
    K (.tuple #[(.slice none 0 0), (.int .i64 2)]) w) <|
  pv prog (oBi .len #[22] 3 #[false] #[parts_p0]) w fun t_6 w =>
  lp (fun σ w again_9 => pop σ fun out_7 σ => pop σ fun t_8 σ => fin σ <|
    pvv prog (binOp .lss 3 t_8 t_6) w fun t_10 w =>
    cd t_10 (
      pvv prog (Instr.indexAt 22 parts_p0 t_8) w fun t_11 w =>
      ldv prog (Instr.loadAt 9 t_11) w fun t_12 w =>
      pv prog (oBi .len #[9] 3 #[false] #[t_12]) w fun t_13 w =>
      pvv prog (binOp .gtr 3 t_13 (.int .i64 64)) w fun t_14 w =>
      cd t_14 (
        K (.tuple #[(.slice none 0 0), (.int .i64 6)]) w) <|
      Calls prog 29 #[t_12, (.string ⟨#[0]⟩), (.string ⟨#[0, 255]⟩)] w (Ret fun t_15 w =>
      ef prog (oBi .append #[23, 9] 23 #[false, false] #[out_7, t_15]) w fun t_16 w =>
      efv prog (Instr.buildSlice 23 2 #[(0, (.int .u8 0)), (1, (.int .u8 1))]) w fun t_17 w =>
      ef prog (oBi .append #[23, 23] 23 #[false, false] #[t_16, t_17]) w fun t_18 w =>
      pvv prog (binOp .add 3 t_8 (.int .i64 1)) w fun t_19 w =>
      again_9 [t_18, t_19] w)) <|
    pv prog (oBi .len #[23] 3 #[false] #[out_7]) w fun t_20 w =>
    pvv prog (binOp .gtr 3 t_20 (.int .i64 64)) w fun t_21 w =>
    cd t_21 (
      K (.tuple #[(.slice none 0 0), (.int .i64 6)]) w) <|
    K (.tuple #[out_7, (.int .i64 0)]) w) [(.slice none 0 0), (.int .i64 0)] w
theorem B11_eq (parts_p0 : Value) (w : World) (K : Value → World → Prop) : denFn prog Tryd.f11 T11 [parts_p0] w K = B11 parts_p0 w K := by kernel_rfl
theorem c11 {parts_p0 : Value} {w : World} {K : Value → World → Prop} (h : B11 parts_p0 w K) : Calls prog 11 #[parts_p0] w (Ret K) :=
  denFn_calls Tryd.func11 T11_ok (Eq.mpr (B11_eq parts_p0 w K) h)

-- 19 holdfast/holdfastref02.After
def T19 : Ann := (.seq .none (.seq .none (.seq .none (.seq (.seq .none (.seq (.seq .none .none) .none)) (.seq .none (.seq .none .none))))))
theorem T19_ok : chkFn prog Tryd.f19 T19 = true := by kernel_rfl
def B19 (key_p0 : Value) (w : World) (K : Value → World → Prop) : Prop :=
  ef prog (oBi .append #[23, 23] 23 #[false, false] #[(.slice none 0 0), key_p0]) w fun t_0 w =>
  pv prog (oBi .len #[23] 3 #[false] #[t_0]) w fun t_1 w =>
  pvv prog (oEq .eql 3 (.tmp 8) (.const (.int .i64 0)) t_1 (.int .i64 0)) w fun t_2 w =>
  gate (some (t_2, false)) (fun K => K t_0 w) w fun t_3 w =>
  gate (some (t_2, false)) (fun K => K t_0 w) w fun t_4 w =>
  gate (some (t_2, false)) (fun K => pv prog (oBi .len #[23] 3 #[false] #[t_4]) w K) w fun t_5 w =>
  gate (some (t_2, false)) (fun K => pvv prog (binOp .sub 3 t_5 (.int .i64 1)) w K) w fun t_6 w =>
  gate (some (t_2, false)) (fun K => pvv prog (Instr.indexAt 23 t_3 t_6) w K) w fun t_7 w =>
  gate (some (t_2, false)) (fun K => ldv prog (Instr.loadAt 5 t_7) w K) w fun t_8 w =>
  gate (some (t_2, false)) (fun K => pvv prog (oEq .eql 5 (.tmp 16) (.const (.int .u8 255)) t_8 (.int .u8 255)) w K) w fun t_9 w =>
  pv prog (oPick t_2 (.bool true) t_9) w fun t_10 w =>
  cd t_10 (
    efv prog (Instr.buildSlice 23 1 #[(0, (.int .u8 255))]) w fun t_11 w =>
    ef prog (oBi .append #[23, 23] 23 #[false, false] #[t_0, t_11]) w fun t_12 w =>
    K t_12 w) <|
  pv prog (oBi .len #[23] 3 #[false] #[t_0]) w fun t_13 w =>
  pvv prog (binOp .sub 3 t_13 (.int .i64 1)) w fun t_14 w =>
  pvv prog (Instr.indexAt 23 t_0 t_14) w fun t_15 w =>
  ldv prog (Instr.loadAt 5 t_15) w fun t_16 w =>
  pvv prog (binOp .add 5 t_16 (.int .u8 1)) w fun t_17 w =>
  pvv prog (Instr.indexAt 23 t_0 t_14) w fun t_18 w =>
  efu prog (Instr.storeAt 5 t_18 t_17) w fun u_19 w =>
  K t_0 w
theorem B19_eq (key_p0 : Value) (w : World) (K : Value → World → Prop) : denFn prog Tryd.f19 T19 [key_p0] w K = B19 key_p0 w K := by kernel_rfl
theorem c19 {key_p0 : Value} {w : World} {K : Value → World → Prop} (h : B19 key_p0 w K) : Calls prog 19 #[key_p0] w (Ret K) :=
  denFn_calls Tryd.func19 T19_ok (Eq.mpr (B19_eq key_p0 w K) h)

-- 83 strings.IndexRune
def T83 : Ann := (.seq .none (.block (.seq .none (.seq (.seq .none .none) (.seq .none (.seq (.seq (.seq .none (.block (.loop 12164183355622992813219379528005579144973741782332342384 [] (.seq .none (.seq (.seq .none .none) (.block (.seq .none (.seq .none (.seq (.seq .none .none) .none))))))))) (.seq .none .none)) (.seq .none (.seq (.seq .none .none) .none))))))))
theorem T83_ok : chkFn prog Tryd.f83 T83 = true := by kernel_rfl
def B83 (s_p0 r_p1 : Value) (w : World) (K : Value → World → Prop) : Prop :=
  pvv prog (binOp .leq 21 (.int .i32 0) r_p1) w fun t_0 w =>
  gate (some (t_0, true)) (fun K => K r_p1 w) w fun t_1 w =>
  gate (some (t_0, true)) (fun K => pvv prog (binOp .lss 21 t_1 (.int .i32 128)) w K) w fun t_2 w =>
  pv prog (oPick t_0 t_2 (.bool false)) w fun t_3 w =>
  cd t_3 (
    pvv prog (convert 21 5 r_p1) w fun t_4 w =>
    Calls prog 96 #[s_p0, t_4] w (Ret fun t_5 w =>
    K t_5 w)) <|
  pvv prog (oEq .eql 21 (.tmp 172) (.const (.int .i32 65533)) r_p1 (.int .i32 65533)) w fun t_6 w =>
  cd t_6 (
    efv prog (Instr.range 9 s_p0) w fun t_7 w =>
    lp (fun σ w again_8 => fin σ <|
      efv prog (Instr.next t_7 true 0) w fun t_9 w =>
      pvv prog (Instr.extract t_9 0) w fun t_10 w =>
      cd t_10 (
        pvv prog (Instr.extract t_9 1) w fun t_11 w =>
        pvv prog (Instr.extract t_9 2) w fun t_12 w =>
        pvv prog (oEq .eql 21 (.tmp 180) (.const (.int .i32 65533)) t_12 (.int .i32 65533)) w fun t_13 w =>
        cd t_13 (
          K t_11 w) <|
        again_8 [] w) <|
      K (.int .i64 (-1)) w) [] w) <|
  Calls prog 97 #[r_p1] w (Ret fun t_14 w =>
  pvv prog (Op.unary .not t_14) w fun t_15 w =>
  cd t_15 (
    K (.int .i64 (-1)) w) <|
  False)
theorem B83_eq (s_p0 r_p1 : Value) (w : World) (K : Value → World → Prop) : denFn prog Tryd.f83 T83 [s_p0, r_p1] w K = B83 s_p0 r_p1 w K := by kernel_rfl
theorem c83 {s_p0 r_p1 : Value} {w : World} {K : Value → World → Prop} (h : B83 s_p0 r_p1 w K) : Calls prog 83 #[s_p0, r_p1] w (Ret K) :=
  denFn_calls Tryd.func83 T83_ok (Eq.mpr (B83_eq s_p0 r_p1 w K) h)

-- 53 (*strings.Builder).Grow
def T53 : Ann := (.seq .none (.meet 448 [] (.seq .none (.seq .none .none)) (.seq (.draw [(0, .pure), (1, .pure), (2, .pure), (5, .pure), (6, .pure), (7, .pure), (11, .pure), (3, .load), (4, .pure), (8, .load), (9, .pure), (10, .pure), (12, .pure)]) (.seq .none .none))))
theorem T53_ok : chkFn prog Tryd.f53 T53 = true := by kernel_rfl
def B53 (b_p0 n_p1 : Value) (w : World) (K : Value → World → Prop) : Prop :=
  Calls prog 74 #[b_p0] w (Ret fun t_0 w =>
  jn (fun σ w => fin σ <|
    dr w fun w =>
    pv prog (oNil b_p0) w fun t_1 w =>
    pvv prog (Instr.fieldAt 68 t_1 1) w fun t_2 w =>
    pv prog (oNil b_p0) w fun t_3 w =>
    pvv prog (Instr.fieldAt 68 t_3 1) w fun t_4 w =>
    bindS (vN (Instr.loadAt 23 t_2)) fun m_6 => ldv prog (Instr.loadAt 23 t_2) w fun t_5 w =>
    pv prog (oBi .cap #[23] 3 #[false] #[t_5]) w fun t_7 w =>
    bindS (vN (Instr.loadAt 23 t_4)) fun m_9 => ldv prog (Instr.loadAt 23 t_4) w fun t_8 w =>
    pv prog (oBi .len #[23] 3 #[false] #[t_8]) w fun t_10 w =>
    pvv prog (binOp .sub 3 t_7 t_10) w fun t_11 w =>
    pvv prog (binOp .lss 3 t_11 n_p1) w fun t_12 w =>
    cd t_12 (
      Calls prog 75 #[b_p0, n_p1] w (Ret fun t_13 w =>
      K (.tuple #[]) w)) <|
    K (.tuple #[]) w) fun k_14 =>
  pvv prog (binOp .lss 3 n_p1 (.int .i64 0)) w fun t_15 w =>
  cd t_15 (
    pvv prog (Instr.makeInterface 9 (.string ⟨#[115, 116, 114, 105, 110, 103, 115, 46, 66, 117, 105, 108, 100, 101, 114, 46, 71, 114, 111, 119, 58, 32, 110, 101, 103, 97, 116, 105, 118, 101, 32, 99, 111, 117, 110, 116]⟩)) w fun t_16 w =>
    efv prog (Instr.panic t_16) w fun u_17 w =>
    k_14 [] w) <|
  k_14 [] w)
theorem B53_eq (b_p0 n_p1 : Value) (w : World) (K : Value → World → Prop) : denFn prog Tryd.f53 T53 [b_p0, n_p1] w K = B53 b_p0 n_p1 w K := by kernel_rfl
theorem c53 {b_p0 n_p1 : Value} {w : World} {K : Value → World → Prop} (h : B53 b_p0 n_p1 w K) : Calls prog 53 #[b_p0, n_p1] w (Ret K) :=
  denFn_calls Tryd.func53 T53_ok (Eq.mpr (B53_eq b_p0 n_p1 w K) h)

-- 18 holdfast/codec.After
def T18 : Ann := (.seq .none (.seq .none (.seq (.seq .none (.seq .none (.seq (.seq .none (.seq .none .none)) .none))) (.seq .none .none))))
theorem T18_ok : chkFn prog Tryd.f18 T18 = true := by kernel_rfl
def B18 (key_p0 : Value) (w : World) (K : Value → World → Prop) : Prop :=
  Calls prog 32 #[key_p0] w (Ret fun t_0 w =>
  pv prog (oBi .len #[23] 3 #[false] #[t_0]) w fun t_1 w =>
  pvv prog (binOp .gtr 3 t_1 (.int .i64 0)) w fun t_2 w =>
  gate (some (t_2, true)) (fun K => K t_0 w) w fun t_3 w =>
  gate (some (t_2, true)) (fun K => K t_1 w) w fun t_4 w =>
  gate (some (t_2, true)) (fun K => pvv prog (binOp .sub 3 t_4 (.int .i64 1)) w K) w fun t_5 w =>
  gate (some (t_2, true)) (fun K => pvv prog (Instr.indexAt 23 t_3 t_5) w K) w fun t_6 w =>
  gate (some (t_2, true)) (fun K => ldv prog (Instr.loadAt 5 t_6) w K) w fun t_7 w =>
  gate (some (t_2, true)) (fun K => pvv prog (binOp .lss 5 t_7 (.int .u8 255)) w K) w fun t_8 w =>
  pv prog (oPick t_2 t_8 (.bool false)) w fun t_9 w =>
  cd t_9 (
    pvv prog (binOp .sub 3 t_1 (.int .i64 1)) w fun t_10 w =>
    pvv prog (Instr.indexAt 23 t_0 t_10) w fun t_11 w =>
    ldv prog (Instr.loadAt 5 t_11) w fun t_12 w =>
    pvv prog (binOp .add 5 t_12 (.int .u8 1)) w fun t_13 w =>
    pvv prog (Instr.indexAt 23 t_0 t_10) w fun t_14 w =>
    efu prog (Instr.storeAt 5 t_14 t_13) w fun u_15 w =>
    K t_0 w) <|
  efv prog (Instr.buildSlice 23 1 #[(0, (.int .u8 255))]) w fun t_16 w =>
  ef prog (oBi .append #[23, 23] 23 #[false, false] #[t_0, t_16]) w fun t_17 w =>
  K t_17 w)
theorem B18_eq (key_p0 : Value) (w : World) (K : Value → World → Prop) : denFn prog Tryd.f18 T18 [key_p0] w K = B18 key_p0 w K := by kernel_rfl
theorem c18 {key_p0 : Value} {w : World} {K : Value → World → Prop} (h : B18 key_p0 w K) : Calls prog 18 #[key_p0] w (Ret K) :=
  denFn_calls Tryd.func18 T18_ok (Eq.mpr (B18_eq key_p0 w K) h)

-- 47 strings.trimRightASCII
def T47 : Ann := (.seq .none (.meet 2097121 [0] (.block (.loop 2097121 [0] (.seq (.seq .none (.seq .none .none)) (.block (.seq (.seq .none (.seq .none .none)) .none))))) (.seq .none .none)))
theorem T47_ok : chkFn prog Tryd.f47 T47 = true := by kernel_rfl
def B47 (s_p0 as_p1 : Value) (w : World) (K : Value → World → Prop) : Prop :=
  jn (fun σ w => pop σ fun s_0 σ => fin σ <|
    K s_0 w) fun k_1 =>
  lp (fun σ w again_3 => pop σ fun s_2 σ => fin σ <|
    pv prog (oBi .len #[9] 3 #[false] #[s_2]) w fun t_4 w =>
    pvv prog (binOp .gtr 3 t_4 (.int .i64 0)) w fun t_5 w =>
    cd t_5 (
      pv prog (oBi .len #[9] 3 #[false] #[s_2]) w fun t_6 w =>
      pvv prog (binOp .sub 3 t_6 (.int .i64 1)) w fun t_7 w =>
      pvv prog (Instr.index 9 s_2 t_7) w fun t_8 w =>
      Calls prog 63 #[as_p1, t_8] w (Ret fun t_9 w =>
      pvv prog (Op.unary .not t_9) w fun t_10 w =>
      cd t_10 (
        k_1 [s_2] w) <|
      pv prog (oBi .len #[9] 3 #[false] #[s_2]) w fun t_11 w =>
      pvv prog (binOp .sub 3 t_11 (.int .i64 1)) w fun t_12 w =>
      pvv prog (Instr.sliceAt 9 s_2 none (some t_12) none) w fun t_13 w =>
      again_3 [t_13] w)) <|
    k_1 [s_2] w) [s_p0] w
theorem B47_eq (s_p0 as_p1 : Value) (w : World) (K : Value → World → Prop) : denFn prog Tryd.f47 T47 [s_p0, as_p1] w K = B47 s_p0 as_p1 w K := by kernel_rfl
theorem c47 {s_p0 as_p1 : Value} {w : World} {K : Value → World → Prop} (h : B47 s_p0 as_p1 w K) : Calls prog 47 #[s_p0, as_p1] w (Ret K) :=
  denFn_calls Tryd.func47 T47_ok (Eq.mpr (B47_eq s_p0 as_p1 w K) h)

-- 43 strings.trimLeftByte
def T43 : Ann := (.seq .none (.seq (.block (.loop 65505 [0] (.seq (.seq .none (.seq .none .none)) (.block .none)))) (.seq .none .none)))
theorem T43_ok : chkFn prog Tryd.f43 T43 = true := by kernel_rfl
def B43 (s_p0 c_p1 : Value) (w : World) (K : Value → World → Prop) : Prop :=
  lp (fun σ w again_1 => pop σ fun s_0 σ => fin σ <|
    pv prog (oBi .len #[9] 3 #[false] #[s_0]) w fun t_2 w =>
    pvv prog (binOp .gtr 3 t_2 (.int .i64 0)) w fun t_3 w =>
    gate (some (t_3, true)) (fun K => K s_0 w) w fun t_4 w =>
    gate (some (t_3, true)) (fun K => pvv prog (Instr.index 9 t_4 (.int .i64 0)) w K) w fun t_5 w =>
    gate (some (t_3, true)) (fun K => K c_p1 w) w fun t_6 w =>
    gate (some (t_3, true)) (fun K => pvv prog (oEq .eql 5 (.tmp 10) (.tmp 11) t_5 t_6) w K) w fun t_7 w =>
    pv prog (oPick t_3 t_7 (.bool false)) w fun t_8 w =>
    cd t_8 (
      pvv prog (Instr.sliceAt 9 s_0 (some (.int .i64 1)) none none) w fun t_9 w =>
      again_1 [t_9] w) <|
    K s_0 w) [s_p0] w
theorem B43_eq (s_p0 c_p1 : Value) (w : World) (K : Value → World → Prop) : denFn prog Tryd.f43 T43 [s_p0, c_p1] w K = B43 s_p0 c_p1 w K := by kernel_rfl
theorem c43 {s_p0 c_p1 : Value} {w : World} {K : Value → World → Prop} (h : B43 s_p0 c_p1 w K) : Calls prog 43 #[s_p0, c_p1] w (Ret K) :=
  denFn_calls Tryd.func43 T43_ok (Eq.mpr (B43_eq s_p0 c_p1 w K) h)

-- 97 unicode/utf8.ValidRune
def T97 : Ann := (.seq .none (.seq (.block (.seq .none (.seq (.seq .none .none) (.seq .none (.seq (.seq .none .none) .none))))) (.seq .none .none)))
theorem T97_ok : chkFn prog Tryd.f97 T97 = true := by kernel_rfl
def B97 (r_p0 : Value) (w : World) (K : Value → World → Prop) : Prop :=
  pvv prog (binOp .leq 21 (.int .i32 0) r_p0) w fun t_0 w =>
  gate (some (t_0, true)) (fun K => K r_p0 w) w fun t_1 w =>
  gate (some (t_0, true)) (fun K => pvv prog (binOp .lss 21 t_1 (.int .i32 55296)) w K) w fun t_2 w =>
  pv prog (oPick t_0 t_2 (.bool false)) w fun t_3 w =>
  cd t_3 (
    K (.bool true) w) <|
  pvv prog (binOp .lss 21 (.int .i32 57343) r_p0) w fun t_4 w =>
  gate (some (t_4, true)) (fun K => K r_p0 w) w fun t_5 w =>
  gate (some (t_4, true)) (fun K => pvv prog (binOp .leq 21 t_5 (.int .i32 1114111)) w K) w fun t_6 w =>
  pv prog (oPick t_4 t_6 (.bool false)) w fun t_7 w =>
  cd t_7 (
    K (.bool true) w) <|
  K (.bool false) w
theorem B97_eq (r_p0 : Value) (w : World) (K : Value → World → Prop) : denFn prog Tryd.f97 T97 [r_p0] w K = B97 r_p0 w K := by kernel_rfl
theorem c97 {r_p0 : Value} {w : World} {K : Value → World → Prop} (h : B97 r_p0 w K) : Calls prog 97 #[r_p0] w (Ret K) :=
  denFn_calls Tryd.func97 T97_ok (Eq.mpr (B97_eq r_p0 w K) h)

-- 94 math/bits.TrailingZeros32
def T94 : Ann := (.seq .none (.seq (.seq .none (.seq (.seq .none .none) .none)) (.seq .none .none)))
theorem T94_ok : chkFn prog Tryd.f94 T94 = true := by kernel_rfl
def B94 (x_p0 : Value) (w : World) (K : Value → World → Prop) : Prop :=
  pvv prog (oEq .eql 96 (.tmp 3) (.const (.int .u32 0)) x_p0 (.int .u32 0)) w fun t_0 w =>
  cd t_0 (
    K (.int .i64 32) w) <|
  pvv prog (Op.unary .neg x_p0) w fun t_1 w =>
  pvv prog (binOp .and 96 x_p0 t_1) w fun t_2 w =>
  pvv prog (binOp .mul 96 t_2 (.int .u32 125613361)) w fun t_3 w =>
  pvv prog (binOp .shr 96 t_3 (.int .u64 27)) w fun t_4 w =>
  pvv prog (Instr.indexAt 118 (.pointer (some ⟨6, 0, none⟩)) t_4) w fun t_5 w =>
  ldv prog (Instr.loadAt 5 t_5) w fun t_6 w =>
  pvv prog (convert 5 3 t_6) w fun t_7 w =>
  K t_7 w
theorem B94_eq (x_p0 : Value) (w : World) (K : Value → World → Prop) : denFn prog Tryd.f94 T94 [x_p0] w K = B94 x_p0 w K := by kernel_rfl
theorem c94 {x_p0 : Value} {w : World} {K : Value → World → Prop} (h : B94 x_p0 w K) : Calls prog 94 #[x_p0] w (Ret K) :=
  denFn_calls Tryd.func94 T94_ok (Eq.mpr (B94_eq x_p0 w K) h)

-- 69 strconv.rangeError
def T69 : Ann := (.seq .none (.seq (.draw [(0, .pure), (1, .pure), (3, .load), (2, .eff), (4, .pure), (5, .eff), (6, .pure)]) .none))
theorem T69_ok : chkFn prog Tryd.f69 T69 = true := by kernel_rfl
def B69 (fn_p0 str_p1 : Value) (w : World) (K : Value → World → Prop) : Prop :=
  dr w fun w =>
  bindS (vN (Instr.loadAt 51 (.pointer (some ⟨3, 0, none⟩)))) fun m_1 => ldv prog (Instr.loadAt 51 (.pointer (some ⟨3, 0, none⟩))) w fun t_0 w =>
  Calls prog 85 #[str_p1] w (Ret fun t_2 w => stay prog none m_1 t_0 w <| 
  pvv prog (Instr.build 102 #[(0, fn_p0), (1, t_2), (2, t_0)]) w fun t_3 w =>
  efv prog (Instr.box 102 t_3) w fun t_4 w => stay prog none m_1 t_0 w <| 
  K t_4 w)
theorem B69_eq (fn_p0 str_p1 : Value) (w : World) (K : Value → World → Prop) : denFn prog Tryd.f69 T69 [fn_p0, str_p1] w K = B69 fn_p0 str_p1 w K := by kernel_rfl
theorem c69 {fn_p0 str_p1 : Value} {w : World} {K : Value → World → Prop} (h : B69 fn_p0 str_p1 w K) : Calls prog 69 #[fn_p0, str_p1] w (Ret K) :=
  denFn_calls Tryd.func69 T69_ok (Eq.mpr (B69_eq fn_p0 str_p1 w K) h)

-- 38 internal/stringslite.TrimPrefix
def T38 : Ann := (.seq .none (.seq (.seq .none (.seq (.seq .none .none) .none)) (.seq .none .none)))
theorem T38_ok : chkFn prog Tryd.f38 T38 = true := by kernel_rfl
def B38 (s_p0 prefix_p1 : Value) (w : World) (K : Value → World → Prop) : Prop :=
  Calls prog 42 #[s_p0, prefix_p1] w (Ret fun t_0 w =>
  cd t_0 (
    pv prog (oBi .len #[9] 3 #[false] #[prefix_p1]) w fun t_1 w =>
    pvv prog (Instr.sliceAt 9 s_p0 (some t_1) none none) w fun t_2 w =>
    K t_2 w) <|
  K s_p0 w)
theorem B38_eq (s_p0 prefix_p1 : Value) (w : World) (K : Value → World → Prop) : denFn prog Tryd.f38 T38 [s_p0, prefix_p1] w K = B38 s_p0 prefix_p1 w K := by kernel_rfl
theorem c38 {s_p0 prefix_p1 : Value} {w : World} {K : Value → World → Prop} (h : B38 s_p0 prefix_p1 w K) : Calls prog 38 #[s_p0, prefix_p1] w (Ret K) :=
  denFn_calls Tryd.func38 T38_ok (Eq.mpr (B38_eq s_p0 prefix_p1 w K) h)

-- 81 internal/strconv.isPowerOfTwo
def T81 : Ann := (.seq .none (.seq .none .none))
theorem T81_ok : chkFn prog Tryd.f81 T81 = true := by kernel_rfl
def B81 (x_p0 : Value) (w : World) (K : Value → World → Prop) : Prop :=
  pvv prog (binOp .sub 3 x_p0 (.int .i64 1)) w fun t_0 w =>
  pvv prog (binOp .and 3 x_p0 t_0) w fun t_1 w =>
  pvv prog (oEq .eql 3 (.tmp 6) (.const (.int .i64 0)) t_1 (.int .i64 0)) w fun t_2 w =>
  K t_2 w
theorem B81_eq (x_p0 : Value) (w : World) (K : Value → World → Prop) : denFn prog Tryd.f81 T81 [x_p0] w K = B81 x_p0 w K := by kernel_rfl
theorem c81 {x_p0 : Value} {w : World} {K : Value → World → Prop} (h : B81 x_p0 w K) : Calls prog 81 #[x_p0] w (Ret K) :=
  denFn_calls Tryd.func81 T81_ok (Eq.mpr (B81_eq x_p0 w K) h)

-- 84 unicode/utf8.RuneStart
def T84 : Ann := (.seq .none (.seq .none .none))
theorem T84_ok : chkFn prog Tryd.f84 T84 = true := by kernel_rfl
def B84 (b_p0 : Value) (w : World) (K : Value → World → Prop) : Prop :=
  pvv prog (binOp .and 5 b_p0 (.int .u8 192)) w fun t_0 w =>
  pvv prog (oEq .neq 5 (.tmp 4) (.const (.int .u8 128)) t_0 (.int .u8 128)) w fun t_1 w =>
  K t_1 w
theorem B84_eq (b_p0 : Value) (w : World) (K : Value → World → Prop) : denFn prog Tryd.f84 T84 [b_p0] w K = B84 b_p0 w K := by kernel_rfl
theorem c84 {b_p0 : Value} {w : World} {K : Value → World → Prop} (h : B84 b_p0 w K) : Calls prog 84 #[b_p0] w (Ret K) :=
  denFn_calls Tryd.func84 T84_ok (Eq.mpr (B84_eq b_p0 w K) h)

-- 34 strings.HasPrefix
def T34 : Ann := (.seq .none (.seq .none .none))
theorem T34_ok : chkFn prog Tryd.f34 T34 = true := by kernel_rfl
def B34 (s_p0 prefix_p1 : Value) (w : World) (K : Value → World → Prop) : Prop :=
  Calls prog 42 #[s_p0, prefix_p1] w (Ret fun t_0 w =>
  K t_0 w)
theorem B34_eq (s_p0 prefix_p1 : Value) (w : World) (K : Value → World → Prop) : denFn prog Tryd.f34 T34 [s_p0, prefix_p1] w K = B34 s_p0 prefix_p1 w K := by kernel_rfl
theorem c34 {s_p0 prefix_p1 : Value} {w : World} {K : Value → World → Prop} (h : B34 s_p0 prefix_p1 w K) : Calls prog 34 #[s_p0, prefix_p1] w (Ret K) :=
  denFn_calls Tryd.func34 T34_ok (Eq.mpr (B34_eq s_p0 prefix_p1 w K) h)

-- 92 internal/bytealg.Cutover
def T92 : Ann := (.seq .none (.seq .none .none))
theorem T92_ok : chkFn prog Tryd.f92 T92 = true := by kernel_rfl
def B92 (n_p0 : Value) (w : World) (K : Value → World → Prop) : Prop :=
  pvv prog (binOp .add 3 n_p0 (.int .i64 16)) w fun t_0 w =>
  pvv prog (binOp .quo 3 t_0 (.int .i64 8)) w fun t_1 w =>
  K t_1 w
theorem B92_eq (n_p0 : Value) (w : World) (K : Value → World → Prop) : denFn prog Tryd.f92 T92 [n_p0] w K = B92 n_p0 w K := by kernel_rfl
theorem c92 {n_p0 : Value} {w : World} {K : Value → World → Prop} (h : B92 n_p0 w K) : Calls prog 92 #[n_p0] w (Ret K) :=
  denFn_calls Tryd.func92 T92_ok (Eq.mpr (B92_eq n_p0 w K) h)

-- 80 internal/strconv.bool2[int]
def T80 : Ann := (.seq .none (.seq (.seq .none (.seq (.seq .none .none) .none)) (.seq .none .none)))
theorem T80_ok : chkFn prog Tryd.f80 T80 = true := by kernel_rfl
def B80 (b_p0 : Value) (w : World) (K : Value → World → Prop) : Prop :=
  cd b_p0 (
    K (.int .i64 1) w) <|
  K (.int .i64 0) w
theorem B80_eq (b_p0 : Value) (w : World) (K : Value → World → Prop) : denFn prog Tryd.f80 T80 [b_p0] w K = B80 b_p0 w K := by kernel_rfl
theorem c80 {b_p0 : Value} {w : World} {K : Value → World → Prop} (h : B80 b_p0 w K) : Calls prog 80 #[b_p0] w (Ret K) :=
  denFn_calls Tryd.func80 T80_ok (Eq.mpr (B80_eq b_p0 w K) h)


end Go.Proofs.YtnkmgkilfkgfhaaDoor
