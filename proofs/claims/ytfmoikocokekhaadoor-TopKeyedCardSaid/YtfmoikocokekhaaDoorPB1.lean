import Derived.Test.YtfmoikocokekhaaDoorPI
set_option linter.all false
set_option maxRecDepth 100000
namespace Go.Proofs.YtfmoikocokekhaaDoor
open Go Hold
-- 38 internal/stringslite.Index
def T38 : Ann := (.seq .none (.seq .none (.seq (.block (.seq .none (.seq (.seq .none .none) (.seq .none (.seq (.seq .none .none) (.seq .none (.seq (.seq .none .none) (.seq .none (.seq (.seq .none .none) .none))))))))) (.seq .none (.seq .none (.seq .none (.seq .none (.seq .none (.seq (.block (.loop 11150372599265311570767858992208992677149968 [8, 10] (.seq (.seq .none (.seq .none .none)) (.block (.meet 302230301982152686831888 [8] (.seq .none (.seq (.seq .none (.seq (.seq .none (.seq (.seq .none .none) .none)) .none)) .none)) (.seq (.seq .none (.seq (.seq .none .none) .none)) (.seq .none (.seq .none (.seq .none (.seq (.seq .none (.seq (.seq .none (.seq (.seq .none .none) .none)) (.seq .none .none))) (.seq .none (.seq (.seq .none (.seq (.seq .none (.seq (.seq .none .none) .none)) (.seq .none .none))) .none)))))))))))) (.seq .none .none))))))))))
theorem T38_ok : chkFn prog Tryd.f38 T38 = true := by kernel_rfl
def B38 (s_p0 substr_p1 : Value) (w : World) (K : Value → World → Prop) : Prop :=
  pv prog (oBi .len #[9] 3 #[false] #[substr_p1]) w fun t_0 w =>
  pvv prog (oEq .eql 3 (.tmp 17) (.const (.int .i64 0)) t_0 (.int .i64 0)) w fun t_1 w =>
  gate (some (t_1, false)) (fun K => K substr_p1 w) w fun t_2 w =>
  gate (some (t_1, false)) (fun K => K s_p0 w) w fun t_3 w =>
  gate (some (t_1, false)) (fun K => pvv prog (oEq .eql 9 (.tmp 20) (.tmp 21) t_2 t_3) w K) w fun t_4 w =>
  pv prog (oPick t_1 (.bool true) t_4) w fun t_5 w =>
  cd t_5 (
    K (.int .i64 0) w) <|
  pvv prog (oEq .eql 3 (.tmp 25) (.const (.int .i64 1)) t_0 (.int .i64 1)) w fun t_6 w =>
  cd t_6 (
    pvv prog (Instr.index 9 substr_p1 (.int .i64 0)) w fun t_7 w =>
    Calls prog 42 #[s_p0, t_7] w (Ret fun t_8 w =>
    K t_8 w)) <|
  pv prog (oBi .len #[9] 3 #[false] #[s_p0]) w fun t_9 w =>
  pvv prog (binOp .geq 3 t_0 t_9) w fun t_10 w =>
  cd t_10 (
    K (.int .i64 (-1)) w) <|
  ldv prog (Instr.loadAt 3 (.pointer (some ⟨0, 0, none⟩))) w fun t_11 w =>
  pvv prog (binOp .leq 3 t_0 t_11) w fun t_12 w =>
  gate (some (t_12, true)) (fun K => K s_p0 w) w fun t_13 w =>
  gate (some (t_12, true)) (fun K => pv prog (oBi .len #[9] 3 #[false] #[t_13]) w K) w fun t_14 w =>
  gate (some (t_12, true)) (fun K => pvv prog (binOp .leq 3 t_14 (.int .i64 64)) w K) w fun t_15 w =>
  pv prog (oPick t_12 t_15 (.bool false)) w fun t_16 w =>
  cd t_16 (
    ef prog (oCall (.func (.func 43) #[] #[]) #[s_p0, substr_p1]) w fun t_17 w =>
    K t_17 w) <|
  pvv prog (Instr.index 9 substr_p1 (.int .i64 0)) w fun t_18 w =>
  pvv prog (Instr.index 9 substr_p1 (.int .i64 1)) w fun t_19 w =>
  pv prog (oBi .len #[9] 3 #[false] #[s_p0]) w fun t_20 w =>
  pvv prog (binOp .sub 3 t_20 t_0) w fun t_21 w =>
  pvv prog (binOp .add 3 t_21 (.int .i64 1)) w fun t_22 w =>
  lp (fun σ w again_25 => pop σ fun i_23 σ => pop σ fun fails_24 σ => fin σ <|
    pvv prog (binOp .lss 3 i_23 t_22) w fun t_26 w =>
    cd t_26 (
      jn (fun σ w => pop σ fun i_27 σ => fin σ <|
        pvv prog (binOp .add 3 i_27 (.int .i64 1)) w fun t_28 w =>
        pvv prog (Instr.index 9 s_p0 t_28) w fun t_29 w =>
        pvv prog (oEq .eql 5 (.tmp 81) (.tmp 82) t_29 t_19) w fun t_30 w =>
        gate (some (t_30, true)) (fun K => K s_p0 w) w fun t_31 w =>
        gate (some (t_30, true)) (fun K => K i_27 w) w fun t_32 w =>
        gate (some (t_30, true)) (fun K => K i_27 w) w fun t_33 w =>
        gate (some (t_30, true)) (fun K => K t_0 w) w fun t_34 w =>
        gate (some (t_30, true)) (fun K => pvv prog (binOp .add 3 t_33 t_34) w K) w fun t_35 w =>
        gate (some (t_30, true)) (fun K => pvv prog (Instr.sliceAt 9 t_31 (some t_32) (some t_35) none) w K) w fun t_36 w =>
        gate (some (t_30, true)) (fun K => K substr_p1 w) w fun t_37 w =>
        gate (some (t_30, true)) (fun K => pvv prog (oEq .eql 9 (.tmp 90) (.tmp 91) t_36 t_37) w K) w fun t_38 w =>
        pv prog (oPick t_30 t_38 (.bool false)) w fun t_39 w =>
        cd t_39 (
          K i_27 w) <|
        pvv prog (binOp .add 3 i_27 (.int .i64 1)) w fun t_40 w =>
        pvv prog (binOp .add 3 fails_24 (.int .i64 1)) w fun t_41 w =>
        ldv prog (Instr.loadAt 3 (.pointer (some ⟨0, 0, none⟩))) w fun t_42 w =>
        pvv prog (binOp .leq 3 t_0 t_42) w fun t_43 w =>
        gate (some (t_43, true)) (fun K => K t_41 w) w fun t_44 w =>
        gate (some (t_43, true)) (fun K => K t_40 w) w fun t_45 w =>
        gate (some (t_43, true)) (fun K => Calls prog 44 #[t_45] w (Ret K)) w fun t_46 w =>
        gate (some (t_43, true)) (fun K => pvv prog (binOp .gtr 3 t_44 t_46) w K) w fun t_47 w =>
        pv prog (oPick t_43 t_47 (.bool false)) w fun t_48 w =>
        cd t_48 (
          pvv prog (Instr.sliceAt 9 s_p0 (some t_40) none none) w fun t_49 w =>
          ef prog (oCall (.func (.func 43) #[] #[]) #[t_49, substr_p1]) w fun t_50 w =>
          pvv prog (binOp .geq 3 t_50 (.int .i64 0)) w fun t_51 w =>
          cd t_51 (
            pvv prog (binOp .add 3 t_50 t_40) w fun t_52 w =>
            K t_52 w) <|
          K (.int .i64 (-1)) w) <|
        ldv prog (Instr.loadAt 3 (.pointer (some ⟨0, 0, none⟩))) w fun t_53 w =>
        pvv prog (binOp .gtr 3 t_0 t_53) w fun t_54 w =>
        gate (some (t_54, true)) (fun K => K t_41 w) w fun t_55 w =>
        gate (some (t_54, true)) (fun K => K t_40 w) w fun t_56 w =>
        gate (some (t_54, true)) (fun K => pvv prog (binOp .shr 3 t_56 (.int .u64 4)) w K) w fun t_57 w =>
        gate (some (t_54, true)) (fun K => pvv prog (binOp .add 3 (.int .i64 4) t_57) w K) w fun t_58 w =>
        gate (some (t_54, true)) (fun K => pvv prog (binOp .geq 3 t_55 t_58) w K) w fun t_59 w =>
        pv prog (oPick t_54 t_59 (.bool false)) w fun t_60 w =>
        gate (some (t_60, true)) (fun K => K t_40 w) w fun t_61 w =>
        gate (some (t_60, true)) (fun K => K t_22 w) w fun t_62 w =>
        gate (some (t_60, true)) (fun K => pvv prog (binOp .lss 3 t_61 t_62) w K) w fun t_63 w =>
        pv prog (oPick t_60 t_63 (.bool false)) w fun t_64 w =>
        cd t_64 (
          pvv prog (Instr.sliceAt 9 s_p0 (some t_40) none none) w fun t_65 w =>
          Calls prog 45 #[t_65, substr_p1] w (Ret fun t_66 w =>
          pvv prog (binOp .lss 3 t_66 (.int .i64 0)) w fun t_67 w =>
          cd t_67 (
            K (.int .i64 (-1)) w) <|
          pvv prog (binOp .add 3 t_40 t_66) w fun t_68 w =>
          K t_68 w)) <|
        again_25 [t_40, t_41] w) fun k_69 =>
      pvv prog (Instr.index 9 s_p0 i_23) w fun t_70 w =>
      pvv prog (oEq .neq 5 (.tmp 62) (.tmp 63) t_70 t_18) w fun t_71 w =>
      cd t_71 (
        pvv prog (binOp .add 3 i_23 (.int .i64 1)) w fun t_72 w =>
        pvv prog (Instr.sliceAt 9 s_p0 (some t_72) (some t_22) none) w fun t_73 w =>
        Calls prog 42 #[t_73, t_18] w (Ret fun t_74 w =>
        pvv prog (binOp .lss 3 t_74 (.int .i64 0)) w fun t_75 w =>
        cd t_75 (
          K (.int .i64 (-1)) w) <|
        pvv prog (binOp .add 3 t_74 (.int .i64 1)) w fun t_76 w =>
        pvv prog (binOp .add 3 i_23 t_76) w fun t_77 w =>
        k_69 [t_77] w)) <|
      k_69 [i_23] w) <|
    K (.int .i64 (-1)) w) [(.int .i64 0), (.int .i64 0)] w
theorem B38_eq (s_p0 substr_p1 : Value) (w : World) (K : Value → World → Prop) : denFn prog Tryd.f38 T38 [s_p0, substr_p1] w K = B38 s_p0 substr_p1 w K := by kernel_rfl
theorem c38 {s_p0 substr_p1 : Value} {w : World} {K : Value → World → Prop} (h : B38 s_p0 substr_p1 w K) : Calls prog 38 #[s_p0, substr_p1] w (Ret K) :=
  denFn_calls Tryd.func38 T38_ok (Eq.mpr (B38_eq s_p0 substr_p1 w K) h)

-- 45 internal/bytealg.IndexRabinKarp[string]
def T45 : Ann := (.seq .none (.seq .none (.seq .none (.seq .none (.seq (.seq .none (.block (.loop 1073480448 [8, 9] (.seq (.seq .none (.seq .none .none)) (.seq (.block .none) .none))))) (.seq (.seq .none (.seq (.seq .none .none) .none)) (.seq (.seq .none (.block (.loop 2417851639227059326158096 [8, 10] (.seq (.seq .none (.seq .none .none)) (.block (.seq .none (.seq .none (.seq .none (.seq .none (.seq .none (.seq (.seq .none .none) .none))))))))))) (.seq .none .none))))))))
theorem T45_ok : chkFn prog Tryd.f45 T45 = true := by kernel_rfl
def B45 (s_p0 sep_p1 : Value) (w : World) (K : Value → World → Prop) : Prop :=
  Calls prog 47 #[sep_p1] w (Ret fun t_0 w =>
  pvv prog (Instr.extract t_0 0) w fun t_1 w =>
  pvv prog (Instr.extract t_0 1) w fun t_2 w =>
  pv prog (oBi .len #[9] 3 #[false] #[sep_p1]) w fun t_3 w =>
  lp (fun σ w again_6 => pop σ fun h_4 σ => pop σ fun i_5 σ => fin σ <|
    pvv prog (binOp .lss 3 i_5 t_3) w fun t_7 w =>
    cd t_7 (
      pvv prog (binOp .mul 50 h_4 (.int .u32 16777619)) w fun t_8 w =>
      pvv prog (Instr.index 9 s_p0 i_5) w fun t_9 w =>
      pvv prog (convert 5 50 t_9) w fun t_10 w =>
      pvv prog (binOp .add 50 t_8 t_10) w fun t_11 w =>
      pvv prog (binOp .add 3 i_5 (.int .i64 1)) w fun t_12 w =>
      again_6 [t_11, t_12] w) <|
    pvv prog (oEq .eql 50 (.tmp 30) (.tmp 31) h_4 t_1) w fun t_13 w =>
    gate (some (t_13, true)) (fun K => K s_p0 w) w fun t_14 w =>
    gate (some (t_13, true)) (fun K => K t_3 w) w fun t_15 w =>
    gate (some (t_13, true)) (fun K => pvv prog (Instr.sliceAt 9 t_14 none (some t_15) none) w K) w fun t_16 w =>
    gate (some (t_13, true)) (fun K => K sep_p1 w) w fun t_17 w =>
    gate (some (t_13, true)) (fun K => pvv prog (oEq .eql 9 (.tmp 36) (.tmp 37) t_16 t_17) w K) w fun t_18 w =>
    pv prog (oPick t_13 t_18 (.bool false)) w fun t_19 w =>
    cd t_19 (
      K (.int .i64 0) w) <|
    lp (fun σ w again_22 => pop σ fun h_20 σ => pop σ fun i_21 σ => fin σ <|
      pv prog (oBi .len #[9] 3 #[false] #[s_p0]) w fun t_23 w =>
      pvv prog (binOp .lss 3 i_21 t_23) w fun t_24 w =>
      cd t_24 (
        pvv prog (binOp .mul 50 h_20 (.int .u32 16777619)) w fun t_25 w =>
        pvv prog (Instr.index 9 s_p0 i_21) w fun t_26 w =>
        pvv prog (convert 5 50 t_26) w fun t_27 w =>
        pvv prog (binOp .add 50 t_25 t_27) w fun t_28 w =>
        pvv prog (binOp .sub 3 i_21 t_3) w fun t_29 w =>
        pvv prog (Instr.index 9 s_p0 t_29) w fun t_30 w =>
        pvv prog (convert 5 50 t_30) w fun t_31 w =>
        pvv prog (binOp .mul 50 t_2 t_31) w fun t_32 w =>
        pvv prog (binOp .sub 50 t_28 t_32) w fun t_33 w =>
        pvv prog (binOp .add 3 i_21 (.int .i64 1)) w fun t_34 w =>
        pvv prog (oEq .eql 50 (.tmp 65) (.tmp 66) t_33 t_1) w fun t_35 w =>
        gate (some (t_35, true)) (fun K => K s_p0 w) w fun t_36 w =>
        gate (some (t_35, true)) (fun K => K t_34 w) w fun t_37 w =>
        gate (some (t_35, true)) (fun K => K t_3 w) w fun t_38 w =>
        gate (some (t_35, true)) (fun K => pvv prog (binOp .sub 3 t_37 t_38) w K) w fun t_39 w =>
        gate (some (t_35, true)) (fun K => K t_34 w) w fun t_40 w =>
        gate (some (t_35, true)) (fun K => pvv prog (Instr.sliceAt 9 t_36 (some t_39) (some t_40) none) w K) w fun t_41 w =>
        gate (some (t_35, true)) (fun K => K sep_p1 w) w fun t_42 w =>
        gate (some (t_35, true)) (fun K => pvv prog (oEq .eql 9 (.tmp 74) (.tmp 75) t_41 t_42) w K) w fun t_43 w =>
        pv prog (oPick t_35 t_43 (.bool false)) w fun t_44 w =>
        cd t_44 (
          pvv prog (binOp .sub 3 t_34 t_3) w fun t_45 w =>
          K t_45 w) <|
        again_22 [t_33, t_34] w) <|
      K (.int .i64 (-1)) w) [h_4, t_3] w) [(.int .u32 0), (.int .i64 0)] w)
theorem B45_eq (s_p0 sep_p1 : Value) (w : World) (K : Value → World → Prop) : denFn prog Tryd.f45 T45 [s_p0, sep_p1] w K = B45 s_p0 sep_p1 w K := by kernel_rfl
theorem c45 {s_p0 sep_p1 : Value} {w : World} {K : Value → World → Prop} (h : B45 s_p0 sep_p1 w K) : Calls prog 45 #[s_p0, sep_p1] w (Ret K) :=
  denFn_calls Tryd.func45 T45_ok (Eq.mpr (B45_eq s_p0 sep_p1 w K) h)

-- 8 holdfast/seal.Open
def T8 : Ann := (.seq .none (.seq (.block (.seq .none (.seq (.seq .none .none) (.seq .none (.seq (.seq .none .none) .none))))) (.seq .none (.seq (.seq (.draw [.op 1 .pure, .op 2 .pure, .op 3 .pure, .op 5 .pure, .op 6 .pure, .op 7 .pure, .op 0 .load, .par [⟨4, .eff, (some 27), []⟩, ⟨8, .eff, (some 31), []⟩, ⟨9, .load, (some 32), [(1, some 31)]⟩], .op 10 .pure]) (.seq (.seq .none .none) .none)) (.seq (.seq .none (.block (.loop 140600049402400 [5, 37] (.seq .none (.seq (.seq .none .none) (.seq (.block (.seq .none .none)) .none)))))) (.seq (.draw [.op 1 .pure, .op 2 .pure, .op 3 .pure, .op 4 .pure, .op 6 .pure, .op 0 .load, .op 5 .eff, .op 7 .pure, .op 8 .pure, .op 9 .pure]) .none))))))
theorem T8_ok : chkFn prog Tryd.f8 T8 = true := by kernel_rfl
def B8 (key_p0 sealed_p1 : Value) (w : World) (K : Value → World → Prop) : Prop :=
  efv prog (Instr.box 23 key_p0) w fun key_0 w =>
  pv prog (oBi .len #[25] 3 #[false] #[sealed_p1]) w fun t_1 w =>
  Calls prog 20 #[(.int .i64 0)] w (Ret fun t_2 w =>
  pvv prog (binOp .lss 3 t_1 t_2) w fun t_3 w =>
  cd t_3 (
    K (.tuple #[(.slice none 0 0), (.int .u64 0), (.int .i64 3)]) w) <|
  pv prog (oBi .len #[25] 3 #[false] #[sealed_p1]) w fun t_4 w =>
  Calls prog 20 #[(.int .i64 1024)] w (Ret fun t_5 w =>
  pvv prog (binOp .gtr 3 t_4 t_5) w fun t_6 w =>
  cd t_6 (
    K (.tuple #[(.slice none 0 0), (.int .u64 0), (.int .i64 6)]) w) <|
  pv prog (oBi .len #[25] 3 #[false] #[sealed_p1]) w fun t_7 w =>
  pvv prog (binOp .sub 3 t_7 (.int .i64 16)) w fun t_8 w =>
  dr w fun w =>
  pvv prog (Instr.sliceAt 25 sealed_p1 none (some t_8) none) w fun t_9 w =>
  pvv prog (Instr.sliceAt 25 sealed_p1 (some t_8) none none) w fun t_10 w =>
  bindS (vN (Instr.loadAt 23 key_0)) fun m_12 => ldv prog (Instr.loadAt 23 key_0) w fun t_11 w =>
  par 3 w fun J_13 =>
    (∀ (σ : List (Option Value)) (w : World), J_13 σ w → un σ 0 (Calls prog 19 #[t_11, t_9] w (Ret fun v_14 w => J_13 (σ.set 0 (some v_14)) w))) ∧
    (∀ (σ : List (Option Value)) (w : World), J_13 σ w → un σ 1 (efv prog (Instr.arrayAt 60 t_10) w fun v_15 w => stay prog none m_12 t_11 w <| J_13 (σ.set 1 (some v_15)) w)) ∧
    (∀ (σ : List (Option Value)) (w : World), J_13 σ w → un σ 2 (is σ 1 fun t_16 => ldv prog (Instr.loadAt 60 t_16) w fun v_17 w => J_13 (σ.set 2 (some v_17)) w)) ∧
    ∀ (σ : List (Option Value)) (w : World), J_13 σ w → is σ 0 fun t_18 => is σ 1 fun t_19 => is σ 2 fun t_20 => 
    pvv prog (oEq .neq 60 (.tmp 27) (.tmp 32) t_18 t_20) w fun t_21 w =>
    cd t_21 (
      K (.tuple #[(.slice none 0 0), (.int .u64 0), (.int .i64 10)]) w) <|
    pvv prog (Instr.sliceAt 25 sealed_p1 none (some (.int .i64 8)) none) w fun t_22 w =>
    pv prog (oBi .len #[25] 3 #[false] #[t_22]) w fun t_23 w =>
    lp (fun σ w again_26 => pop σ fun once_24 σ => pop σ fun t_25 σ => fin σ <|
      pvv prog (binOp .lss 3 t_25 t_23) w fun t_27 w =>
      cd t_27 (
        pvv prog (Instr.indexAt 25 t_22 t_25) w fun t_28 w =>
        ldv prog (Instr.loadAt 5 t_28) w fun t_29 w =>
        pvv prog (binOp .shl 35 once_24 (.int .u64 8)) w fun t_30 w =>
        pvv prog (convert 5 35 t_29) w fun t_31 w =>
        pvv prog (binOp .or 35 t_30 t_31) w fun t_32 w =>
        pvv prog (binOp .add 3 t_25 (.int .i64 1)) w fun t_33 w =>
        again_26 [t_32, t_33] w) <|
      dr w fun w =>
      pvv prog (Instr.sliceAt 25 sealed_p1 (some (.int .i64 8)) (some t_8) none) w fun t_34 w =>
      bindS (vN (Instr.loadAt 23 key_0)) fun m_36 => ldv prog (Instr.loadAt 23 key_0) w fun t_35 w =>
      Calls prog 18 #[t_35, once_24, t_34] w (Ret fun t_37 w =>
      K (.tuple #[t_37, once_24, (.int .i64 0)]) w)) [(.int .u64 0), (.int .i64 0)] w))
theorem B8_eq (key_p0 sealed_p1 : Value) (w : World) (K : Value → World → Prop) : denFn prog Tryd.f8 T8 [key_p0, sealed_p1] w K = B8 key_p0 sealed_p1 w K := by kernel_rfl
theorem c8 {key_p0 sealed_p1 : Value} {w : World} {K : Value → World → Prop} (h : B8 key_p0 sealed_p1 w K) : Calls prog 8 #[key_p0, sealed_p1] w (Ret K) :=
  denFn_calls Tryd.func8 T8_ok (Eq.mpr (B8_eq key_p0 sealed_p1 w K) h)

-- 14 holdfast/hash.rounds
def T14 : Ann := (.seq .none (.seq .none .none))
theorem T14_ok : chkFn prog Tryd.f14 T14 = true := by kernel_rfl
def B14 (w : World) (K : Value → World → Prop) : Prop :=
  pvv prog (Instr.build 66 #[(0, (.int .u32 1116352408)), (1, (.int .u32 1899447441)), (2, (.int .u32 3049323471)), (3, (.int .u32 3921009573)), (4, (.int .u32 961987163)), (5, (.int .u32 1508970993)), (6, (.int .u32 2453635748)), (7, (.int .u32 2870763221)), (8, (.int .u32 3624381080)), (9, (.int .u32 310598401)), (10, (.int .u32 607225278)), (11, (.int .u32 1426881987)), (12, (.int .u32 1925078388)), (13, (.int .u32 2162078206)), (14, (.int .u32 2614888103)), (15, (.int .u32 3248222580)), (16, (.int .u32 3835390401)), (17, (.int .u32 4022224774)), (18, (.int .u32 264347078)), (19, (.int .u32 604807628)), (20, (.int .u32 770255983)), (21, (.int .u32 1249150122)), (22, (.int .u32 1555081692)), (23, (.int .u32 1996064986)), (24, (.int .u32 2554220882)), (25, (.int .u32 2821834349)), (26, (.int .u32 2952996808)), (27, (.int .u32 3210313671)), (28, (.int .u32 3336571891)), (29, (.int .u32 3584528711)), (30, (.int .u32 113926993)), (31, (.int .u32 338241895)), (32, (.int .u32 666307205)), (33, (.int .u32 773529912)), (34, (.int .u32 1294757372)), (35, (.int .u32 1396182291)), (36, (.int .u32 1695183700)), (37, (.int .u32 1986661051)), (38, (.int .u32 2177026350)), (39, (.int .u32 2456956037)), (40, (.int .u32 2730485921)), (41, (.int .u32 2820302411)), (42, (.int .u32 3259730800)), (43, (.int .u32 3345764771)), (44, (.int .u32 3516065817)), (45, (.int .u32 3600352804)), (46, (.int .u32 4094571909)), (47, (.int .u32 275423344)), (48, (.int .u32 430227734)), (49, (.int .u32 506948616)), (50, (.int .u32 659060556)), (51, (.int .u32 883997877)), (52, (.int .u32 958139571)), (53, (.int .u32 1322822218)), (54, (.int .u32 1537002063)), (55, (.int .u32 1747873779)), (56, (.int .u32 1955562222)), (57, (.int .u32 2024104815)), (58, (.int .u32 2227730452)), (59, (.int .u32 2361852424)), (60, (.int .u32 2428436474)), (61, (.int .u32 2756734187)), (62, (.int .u32 3204031479)), (63, (.int .u32 3329325298))]) w fun t_0 w =>
  efv prog (Instr.box 66 t_0) w fun t_1 w =>
  K t_1 w
theorem B14_eq (w : World) (K : Value → World → Prop) : denFn prog Tryd.f14 T14 [] w K = B14  w K := by kernel_rfl
theorem c14 {w : World} {K : Value → World → Prop} (h : B14  w K) : Calls prog 14 #[] w (Ret K) :=
  denFn_calls Tryd.func14 T14_ok (Eq.mpr (B14_eq  w K) h)

-- 19 holdfast/seal.tagOf
def T19 : Ann := (.seq .none (.seq (.draw [.op 0 .pure, .op 2 .pure, .par [⟨1, .eff, (some 7), []⟩, ⟨5, .eff, (some 5), []⟩, ⟨3, .eff, (some 9), [(0, some 7)]⟩, ⟨4, .eff, (some 10), [(2, some 9)]⟩], .op 6 .eff]) (.seq .none .none)))
theorem T19_ok : chkFn prog Tryd.f19 T19 = true := by kernel_rfl
def B19 (key_p0 body_p1 : Value) (w : World) (K : Value → World → Prop) : Prop :=
  efv prog (Instr.box 23 key_p0) w fun key_0 w =>
  efv prog (Instr.alloc 60 true (.tuple #[])) w fun t_1 w =>
  dr w fun w =>
  pvv prog (Instr.sliceAt 23 key_0 none none none) w fun t_2 w =>
  par 4 w fun J_3 =>
    (∀ (σ : List (Option Value)) (w : World), J_3 σ w → un σ 0 (efv prog (Instr.buildSlice 25 1 #[(0, (.int .u8 116))]) w fun v_4 w => J_3 (σ.set 0 (some v_4)) w)) ∧
    (∀ (σ : List (Option Value)) (w : World), J_3 σ w → un σ 1 (efv prog (Instr.alloc 23 true (.tuple #[])) w fun v_5 w => J_3 (σ.set 1 (some v_5)) w)) ∧
    (∀ (σ : List (Option Value)) (w : World), J_3 σ w → un σ 2 (is σ 0 fun t_6 => ef prog (oBi .append #[25, 25] 25 #[false, false] #[t_6, body_p1]) w fun v_7 w => J_3 (σ.set 2 (some v_7)) w)) ∧
    (∀ (σ : List (Option Value)) (w : World), J_3 σ w → un σ 3 (is σ 2 fun t_8 => Calls prog 9 #[t_2, t_8] w (Ret fun v_9 w => J_3 (σ.set 3 (some v_9)) w))) ∧
    ∀ (σ : List (Option Value)) (w : World), J_3 σ w → is σ 0 fun t_10 => is σ 1 fun h_11 => is σ 2 fun t_12 => is σ 3 fun t_13 => 
    efu prog (Instr.storeAt 23 h_11 t_13) w fun u_14 w =>
    pvv prog (Instr.sliceAt 23 h_11 none (some (.int .i64 16)) none) w fun t_15 w =>
    efv prog (Instr.arrayAt 60 t_15) w fun t_16 w =>
    ldv prog (Instr.loadAt 60 t_16) w fun t_17 w =>
    efu prog (Instr.storeAt 60 t_1 t_17) w fun u_18 w =>
    ∃ r_19, (do loadVar 60 (← asAddr t_1)).run prog w = .ok r_19 w ∧ K r_19 w
theorem B19_eq (key_p0 body_p1 : Value) (w : World) (K : Value → World → Prop) : denFn prog Tryd.f19 T19 [key_p0, body_p1] w K = B19 key_p0 body_p1 w K := by kernel_rfl
theorem c19 {key_p0 body_p1 : Value} {w : World} {K : Value → World → Prop} (h : B19 key_p0 body_p1 w K) : Calls prog 19 #[key_p0, body_p1] w (Ret K) :=
  denFn_calls Tryd.func19 T19_ok (Eq.mpr (B19_eq key_p0 body_p1 w K) h)

-- 37 (*strings.Builder).grow
def T37 : Ann := (.seq (.draw [.op 0 .pure, .op 1 .pure, .op 2 .pure, .op 6 .pure, .op 9 .pure, .op 10 .pure, .op 11 .pure, .op 3 .load, .op 4 .pure, .op 5 .pure, .op 7 .pure, .op 12 .load, .op 13 .pure, .op 8 .eff, .op 14 .pure, .op 15 .pure]) (.seq .none .none))
theorem T37_ok : chkFn prog Tryd.f37 T37 = true := by kernel_rfl
def B37 (b_p0 n_p1 : Value) (w : World) (K : Value → World → Prop) : Prop :=
  dr w fun w =>
  pv prog (oNil b_p0) w fun t_0 w =>
  pvv prog (Instr.fieldAt 44 t_0 1) w fun t_1 w =>
  pv prog (oNil b_p0) w fun t_2 w =>
  pvv prog (Instr.fieldAt 44 t_2 1) w fun t_3 w =>
  bindS (vN (Instr.loadAt 25 t_1)) fun m_5 => ldv prog (Instr.loadAt 25 t_1) w fun t_4 w =>
  pv prog (oBi .cap #[25] 3 #[false] #[t_4]) w fun t_6 w =>
  pvv prog (binOp .mul 3 (.int .i64 2) t_6) w fun t_7 w =>
  pvv prog (binOp .add 3 t_7 n_p1) w fun t_8 w =>
  bindS (vN (Instr.loadAt 25 t_3)) fun m_10 => ldv prog (Instr.loadAt 25 t_3) w fun t_9 w =>
  pv prog (oBi .len #[25] 3 #[false] #[t_9]) w fun t_11 w =>
  ef prog (oCall (.func (.func 41) #[] #[]) #[t_8]) w fun t_12 w => stay prog none m_10 t_9 w <| stay prog none m_5 t_4 w <| 
  pvv prog (Instr.sliceAt 25 t_12 none (some t_11) none) w fun t_13 w =>
  pv prog (oNil b_p0) w fun t_14 w =>
  pvv prog (Instr.fieldAt 44 t_14 1) w fun t_15 w =>
  ldv prog (Instr.loadAt 25 t_15) w fun t_16 w =>
  ef prog (oBi .copy #[25, 25] 3 #[false, false] #[t_13, t_16]) w fun t_17 w =>
  pv prog (oNil b_p0) w fun t_18 w =>
  pvv prog (Instr.fieldAt 44 t_18 1) w fun t_19 w =>
  efu prog (Instr.storeAt 25 t_19 t_13) w fun u_20 w =>
  K (.tuple #[]) w
theorem B37_eq (b_p0 n_p1 : Value) (w : World) (K : Value → World → Prop) : denFn prog Tryd.f37 T37 [b_p0, n_p1] w K = B37 b_p0 n_p1 w K := by kernel_rfl
theorem c37 {b_p0 n_p1 : Value} {w : World} {K : Value → World → Prop} (h : B37 b_p0 n_p1 w K) : Calls prog 37 #[b_p0, n_p1] w (Ret K) :=
  denFn_calls Tryd.func37 T37_ok (Eq.mpr (B37_eq b_p0 n_p1 w K) h)

-- 40 slices.Grow[[]byte,byte]
def T40 : Ann := (.seq .none (.meet 224 [] (.seq .none (.seq .none .none)) (.meet 67108611 [0] (.seq .none (.seq .none (.seq .none .none))) (.seq .none .none))))
theorem T40_ok : chkFn prog Tryd.f40 T40 = true := by kernel_rfl
def B40 (s_p0 n_p1 : Value) (w : World) (K : Value → World → Prop) : Prop :=
  jn (fun σ w => fin σ <|
    jn (fun σ w => pop σ fun s_0 σ => fin σ <|
      K s_0 w) fun k_1 =>
    pv prog (oBi .cap #[25] 3 #[false] #[s_p0]) w fun t_2 w =>
    pv prog (oBi .len #[25] 3 #[false] #[s_p0]) w fun t_3 w =>
    pvv prog (binOp .sub 3 t_2 t_3) w fun t_4 w =>
    pvv prog (binOp .sub 3 n_p1 t_4) w fun t_5 w =>
    pvv prog (binOp .gtr 3 t_5 (.int .i64 0)) w fun t_6 w =>
    cd t_6 (
      pv prog (oBi .cap #[25] 3 #[false] #[s_p0]) w fun t_7 w =>
      pvv prog (Instr.sliceAt 25 s_p0 none (some t_7) none) w fun t_8 w =>
      ef prog (oBi .append #[25, 3] 25 #[false, false] #[t_8, t_5]) w fun t_9 w =>
      pv prog (oBi .len #[25] 3 #[false] #[s_p0]) w fun t_10 w =>
      pvv prog (Instr.sliceAt 25 t_9 none (some t_10) none) w fun t_11 w =>
      k_1 [t_11] w) <|
    k_1 [s_p0] w) fun k_12 =>
  pvv prog (binOp .lss 3 n_p1 (.int .i64 0)) w fun t_13 w =>
  cd t_13 (
    pvv prog (Instr.makeInterface 9 (.string ⟨#[99, 97, 110, 110, 111, 116, 32, 98, 101, 32, 110, 101, 103, 97, 116, 105, 118, 101]⟩)) w fun t_14 w =>
    efv prog (Instr.panic t_14) w fun u_15 w =>
    k_12 [] w) <|
  k_12 [] w
theorem B40_eq (s_p0 n_p1 : Value) (w : World) (K : Value → World → Prop) : denFn prog Tryd.f40 T40 [s_p0, n_p1] w K = B40 s_p0 n_p1 w K := by kernel_rfl
theorem c40 {s_p0 n_p1 : Value} {w : World} {K : Value → World → Prop} (h : B40 s_p0 n_p1 w K) : Calls prog 40 #[s_p0, n_p1] w (Ret K) :=
  denFn_calls Tryd.func40 T40_ok (Eq.mpr (B40_eq s_p0 n_p1 w K) h)

-- 22 (*strings.Builder).copyCheck
def T22 : Ann := (.seq .none (.seq .none (.seq .none (.seq .none .none))))
theorem T22_ok : chkFn prog Tryd.f22 T22 = true := by kernel_rfl
def B22 (b_p0 : Value) (w : World) (K : Value → World → Prop) : Prop :=
  pv prog (oNil b_p0) w fun t_0 w =>
  pvv prog (Instr.fieldAt 44 t_0 0) w fun t_1 w =>
  ldv prog (Instr.loadAt 42 t_1) w fun t_2 w =>
  pvv prog (oEq .eql 42 (.tmp 5) (.const (.pointer none)) t_2 (.pointer none)) w fun t_3 w =>
  cd t_3 (
    efv prog (convert 42 71 b_p0) w fun t_4 w =>
    ef prog (oCall (.func (.func 26) #[] #[]) #[t_4]) w fun t_5 w =>
    efv prog (convert 71 42 t_5) w fun t_6 w =>
    pv prog (oNil b_p0) w fun t_7 w =>
    pvv prog (Instr.fieldAt 44 t_7 0) w fun t_8 w =>
    efu prog (Instr.storeAt 42 t_8 t_6) w fun u_9 w =>
    K (.tuple #[]) w) <|
  pv prog (oNil b_p0) w fun t_10 w =>
  pvv prog (Instr.fieldAt 44 t_10 0) w fun t_11 w =>
  ldv prog (Instr.loadAt 42 t_11) w fun t_12 w =>
  pvv prog (oEq .neq 42 (.tmp 17) (.tmp 18) t_12 b_p0) w fun t_13 w =>
  cd t_13 (
    False) <|
  K (.tuple #[]) w
theorem B22_eq (b_p0 : Value) (w : World) (K : Value → World → Prop) : denFn prog Tryd.f22 T22 [b_p0] w K = B22 b_p0 w K := by kernel_rfl
theorem c22 {b_p0 : Value} {w : World} {K : Value → World → Prop} (h : B22 b_p0 w K) : Calls prog 22 #[b_p0] w (Ret K) :=
  denFn_calls Tryd.func22 T22_ok (Eq.mpr (B22_eq b_p0 w K) h)

-- 32 unicode/utf8.DecodeRuneInString
def T32 : Ann := (.seq .none (.seq (.seq .none (.seq (.seq .none .none) .none)) .none))
theorem T32_ok : chkFn prog Tryd.f32 T32 = true := by kernel_rfl
def B32 (s_p0 : Value) (w : World) (K : Value → World → Prop) : Prop :=
  pvv prog (oEq .neq 9 (.tmp 4) (.const (.string ⟨#[]⟩)) s_p0 (.string ⟨#[]⟩)) w fun t_0 w =>
  gate (some (t_0, true)) (fun K => K s_p0 w) w fun t_1 w =>
  gate (some (t_0, true)) (fun K => pvv prog (Instr.index 9 t_1 (.int .i64 0)) w K) w fun t_2 w =>
  gate (some (t_0, true)) (fun K => pvv prog (binOp .lss 5 t_2 (.int .u8 128)) w K) w fun t_3 w =>
  pv prog (oPick t_0 t_3 (.bool false)) w fun t_4 w =>
  cd t_4 (
    pvv prog (Instr.index 9 s_p0 (.int .i64 0)) w fun t_5 w =>
    pvv prog (convert 5 21 t_5) w fun t_6 w =>
    K (.tuple #[t_6, (.int .i64 1)]) w) <|
  Calls prog 39 #[s_p0] w (Ret fun t_7 w =>
  pvv prog (Instr.extract t_7 0) w fun t_8 w =>
  pvv prog (Instr.extract t_7 1) w fun t_9 w =>
  K (.tuple #[t_8, t_9]) w)
theorem B32_eq (s_p0 : Value) (w : World) (K : Value → World → Prop) : denFn prog Tryd.f32 T32 [s_p0] w K = B32 s_p0 w K := by kernel_rfl
theorem c32 {s_p0 : Value} {w : World} {K : Value → World → Prop} (h : B32 s_p0 w K) : Calls prog 32 #[s_p0] w (Ret K) :=
  denFn_calls Tryd.func32 T32_ok (Eq.mpr (B32_eq s_p0 w K) h)

-- 69 gosem.cut.vars
def T69 : Ann := .none
theorem T69_ok : chkFn prog Tryd.f69 T69 = true := by kernel_rfl
def B69 (w : World) (K : Value → World → Prop) : Prop :=
  pvv prog (Instr.build 91 #[(0, (.int .u8 128)), (1, (.int .u8 191))]) w fun t_0 w =>
  pvv prog (Instr.build 91 #[(0, (.int .u8 160)), (1, (.int .u8 191))]) w fun t_1 w =>
  pvv prog (Instr.build 91 #[(0, (.int .u8 128)), (1, (.int .u8 159))]) w fun t_2 w =>
  pvv prog (Instr.build 91 #[(0, (.int .u8 144)), (1, (.int .u8 191))]) w fun t_3 w =>
  pvv prog (Instr.build 91 #[(0, (.int .u8 128)), (1, (.int .u8 143))]) w fun t_4 w =>
  pvv prog (Instr.build 92 #[(0, t_0), (1, t_1), (2, t_2), (3, t_3), (4, t_4)]) w fun t_5 w =>
  efu prog (Instr.storeAt 92 (.pointer (some ⟨2, 0, none⟩)) t_5) w fun u_6 w =>
  K (.tuple #[]) w
theorem B69_eq (w : World) (K : Value → World → Prop) : denFn prog Tryd.f69 T69 [] w K = B69  w K := by kernel_rfl
theorem c69 {w : World} {K : Value → World → Prop} (h : B69  w K) : Calls prog 69 #[] w (Ret K) :=
  denFn_calls Tryd.func69 T69_ok (Eq.mpr (B69_eq  w K) h)

-- 23 math/bits.RotateLeft32
def T23 : Ann := (.seq .none (.seq .none (.seq .none .none)))
theorem T23_ok : chkFn prog Tryd.f23 T23 = true := by kernel_rfl
def B23 (x_p0 k_p1 : Value) (w : World) (K : Value → World → Prop) : Prop :=
  pvv prog (convert 3 48 k_p1) w fun t_0 w =>
  pvv prog (binOp .and 48 t_0 (.int .u64 31)) w fun t_1 w =>
  pvv prog (binOp .shl 50 x_p0 t_1) w fun t_2 w =>
  pvv prog (binOp .sub 48 (.int .u64 32) t_1) w fun t_3 w =>
  pvv prog (binOp .shr 50 x_p0 t_3) w fun t_4 w =>
  pvv prog (binOp .or 50 t_2 t_4) w fun t_5 w =>
  K t_5 w
theorem B23_eq (x_p0 k_p1 : Value) (w : World) (K : Value → World → Prop) : denFn prog Tryd.f23 T23 [x_p0, k_p1] w K = B23 x_p0 k_p1 w K := by kernel_rfl
theorem c23 {x_p0 k_p1 : Value} {w : World} {K : Value → World → Prop} (h : B23 x_p0 k_p1 w K) : Calls prog 23 #[x_p0, k_p1] w (Ret K) :=
  denFn_calls Tryd.func23 T23_ok (Eq.mpr (B23_eq x_p0 k_p1 w K) h)

-- 10 holdfast/holdfasttop.sameBytes
def T10 : Ann := (.seq .none (.seq .none .none))
theorem T10_ok : chkFn prog Tryd.f10 T10 = true := by kernel_rfl
def B10 (a_p0 b_p1 : Value) (w : World) (K : Value → World → Prop) : Prop :=
  efv prog (convert 25 9 a_p0) w fun t_0 w =>
  efv prog (convert 25 9 b_p1) w fun t_1 w =>
  pvv prog (oEq .eql 9 (.tmp 6) (.tmp 8) t_0 t_1) w fun t_2 w =>
  K t_2 w
theorem B10_eq (a_p0 b_p1 : Value) (w : World) (K : Value → World → Prop) : denFn prog Tryd.f10 T10 [a_p0, b_p1] w K = B10 a_p0 b_p1 w K := by kernel_rfl
theorem c10 {a_p0 b_p1 : Value} {w : World} {K : Value → World → Prop} (h : B10 a_p0 b_p1 w K) : Calls prog 10 #[a_p0, b_p1] w (Ret K) :=
  denFn_calls Tryd.func10 T10_ok (Eq.mpr (B10_eq a_p0 b_p1 w K) h)

-- 42 internal/stringslite.IndexByte
def T42 : Ann := (.seq .none (.seq .none .none))
theorem T42_ok : chkFn prog Tryd.f42 T42 = true := by kernel_rfl
def B42 (s_p0 c_p1 : Value) (w : World) (K : Value → World → Prop) : Prop :=
  ef prog (oCall (.func (.func 46) #[] #[]) #[s_p0, c_p1]) w fun t_0 w =>
  K t_0 w
theorem B42_eq (s_p0 c_p1 : Value) (w : World) (K : Value → World → Prop) : denFn prog Tryd.f42 T42 [s_p0, c_p1] w K = B42 s_p0 c_p1 w K := by kernel_rfl
theorem c42 {s_p0 c_p1 : Value} {w : World} {K : Value → World → Prop} (h : B42 s_p0 c_p1 w K) : Calls prog 42 #[s_p0, c_p1] w (Ret K) :=
  denFn_calls Tryd.func42 T42_ok (Eq.mpr (B42_eq s_p0 c_p1 w K) h)


end Go.Proofs.YtfmoikocokekhaaDoor
