/-
  PagerPins: the walk.
-/
import Derived.Test.YtcjklbhobmkalaaGreatPgrM
set_option linter.all false
set_option maxRecDepth 100000
namespace Go.Proofs.YtcjklbhobmkalaaGreat.Pins
open Go Hold Go.ChangeShapes Go.WideShapes Go.ChangeAt Go.RowKit
variable {E : World0} {w : World} {H R : HP} {K : Value → World → Prop}
theorem mod11 (x : UInt8) : (IntKind.i64.wrap (x.toNat : Int)).tmod 11 = ((x.toNat % 11 : Nat) : Int) := by
  have := x.toNat_lt
  rw [i64_of (n := (x.toNat : Int)) (by omega) (by omega), Int.tmod_eq_emod_of_nonneg (by omega)]; omega
theorem Pins_spec (h : sat E w H) {pv_ : Value} (ps : Bs) (hp : Rds H pv_ ps.length (ps.map bv)) (mp : ps.length ≤ 140737488351232) {rv_ : Value} (rs : Bs) (hr : Rds H rv_ rs.length (rs.map bv)) (mr : rs.length ≤ 140737488351232)
    (k : ∀ w', sat E w' H → K (.bool true) w') : Calls prog 6 #[pv_, rv_] w (Ret K) := by
  obtain ⟨ap, cp, rfl, hcp, hp, _⟩ := hp.shape h
  obtain ⟨ar, cr, rfl, hcr, hr, _⟩ := hr.shape h
  refine c6 ?_
  unfold B6
  refine open_spec (size := 10) (most := 4) h (by omega) (by omega) (by omega) (by omega) fun A q w h => ?_
  have f0 : FarP (newP (newL (10 + 12) 10) 4) [] 10 4 0 := FarP.start (by omega) (by omega) (by omega) (by omega)
  have hpg := f0.pages
  try simp only [↓o_nil, ↓o_field, ↓o_add, ↓o_sub, ↓o_mul, ↓o_lss, ↓o_leq, ↓o_gtr, ↓o_geq, ↓o_not, ↓o_pick, ↓o_eqInt, ↓o_neInt, ↓o_eqBool, ↓o_neBool, ↓o_eqPtr, ↓o_nePtr, ↓o_eqPtr', ↓o_eqSl, ↓o_neSl, ↓o_eqStr, ↓o_neStr, ↓o_len, ↓o_lenS, ↓o_min, ↓o_max, ↓o_extract, ↓o_convInt, ↓cd_true, ↓cd_false, ↓gate_tt, ↓gate_ff, ↓gate_tf, ↓gate_ft, ↓gate_undef, ↓o_bind, ↓stay_v, ↓pop_cons, ↓fin_nil, Option.isNone_none, Option.isNone_some, Bool.not_true, Bool.not_false, Nat.zero_add, decide_true, decide_false, if_true, if_false, Bool.false_eq_true, ↓reduceIte]
  refine live_spec h fun w h => ?_
  try simp only [↓o_nil, ↓o_field, ↓o_add, ↓o_sub, ↓o_mul, ↓o_lss, ↓o_leq, ↓o_gtr, ↓o_geq, ↓o_not, ↓o_pick, ↓o_eqInt, ↓o_neInt, ↓o_eqBool, ↓o_neBool, ↓o_eqPtr, ↓o_nePtr, ↓o_eqPtr', ↓o_eqSl, ↓o_neSl, ↓o_eqStr, ↓o_neStr, ↓o_len, ↓o_lenS, ↓o_min, ↓o_max, ↓o_extract, ↓o_convInt, ↓cd_true, ↓cd_false, ↓gate_tt, ↓gate_ff, ↓gate_tf, ↓gate_ft, ↓gate_undef, ↓o_bind, ↓stay_v, ↓pop_cons, ↓fin_nil, Option.isNone_none, Option.isNone_some, Bool.not_true, Bool.not_false, Nat.zero_add, decide_true, decide_false, if_true, if_false, Bool.false_eq_true, ↓reduceIte]
  refine lp_nat (fun q σ w => ∃ (i : Nat) (v : Value) (l : List Int), σ = [v, .int .i64 i] ∧ q = 3 - i ∧ i ≤ 3 ∧ l.length = i ∧ (∀ n ∈ l, 0 ≤ n ∧ n < 11) ∧ sat E w (osl 3 1 v l.length (l.map iv) * (pgr A (newP (newL (10 + 12) 10) 4) * H))) 3 ⟨0, .slice none 0 0, [], rfl, rfl, by omega, rfl, by simp, osl_nil h 3 1⟩ ?_
  clear h
  rintro q σ w again ⟨i, v, l, rfl, rfl, hi, hil, hln, h⟩ hag
  try simp only [↓o_nil, ↓o_field, ↓o_add, ↓o_sub, ↓o_mul, ↓o_lss, ↓o_leq, ↓o_gtr, ↓o_geq, ↓o_not, ↓o_pick, ↓o_eqInt, ↓o_neInt, ↓o_eqBool, ↓o_neBool, ↓o_eqPtr, ↓o_nePtr, ↓o_eqPtr', ↓o_eqSl, ↓o_neSl, ↓o_eqStr, ↓o_neStr, ↓o_len, ↓o_lenS, ↓o_min, ↓o_max, ↓o_extract, ↓o_convInt, ↓cd_true, ↓cd_false, ↓gate_tt, ↓gate_ff, ↓gate_tf, ↓gate_ft, ↓gate_undef, ↓o_bind, ↓stay_v, ↓pop_cons, ↓fin_nil, Option.isNone_none, Option.isNone_some, Bool.not_true, Bool.not_false, Nat.zero_add, decide_true, decide_false, if_true, if_false, Bool.false_eq_true, ↓reduceIte]
  have hend : ∀ w, sat E w (osl 3 1 v l.length (l.map iv) * (pgr A (newP (newL (10 + 12) 10) 4) * H)) → (
    Calls prog 25 #[(.pointer (some ⟨A.q, 0, none⟩)), v] w (Ret fun t_24 w =>
    pvv prog (oEq .neq 32 (.tmp 47) (.const (.int .i64 0)) t_24 (.int .i64 0)) w fun t_25 w =>
    cd t_25 (
      K (.bool false) w) <|
    lp (fun σ w again_27 => pop σ fun i_26 σ => fin σ <|
      pv prog (oBi .len #[30] 3 #[false] #[(.slice ar rs.length cr)]) w fun t_28 w =>
      pvv prog (binOp .lss 3 i_26 t_28) w fun t_29 w =>
      gate (some (t_29, true)) (fun K => K i_26 w) w fun t_30 w =>
      gate (some (t_29, true)) (fun K => pvv prog (binOp .lss 3 t_30 (.int .i64 60)) w K) w fun t_31 w =>
      pv prog (oPick t_29 t_31 (.bool false)) w fun t_32 w =>
      cd t_32 (
        pvv prog (Instr.indexAt 30 (.slice ar rs.length cr) i_26) w fun t_33 w =>
        ldv prog (Instr.loadAt 5 t_33) w fun t_34 w =>
        pvv prog (convert 5 3 t_34) w fun t_35 w =>
        pvv prog (binOp .rem 3 t_35 (.int .i64 11)) w fun t_36 w =>
        Calls prog 14 #[(.pointer (some ⟨A.q, 0, none⟩)), t_36] w (Ret fun t_37 w =>
        Calls prog 21 #[(.pointer (some ⟨A.q, 0, none⟩))] w (Ret fun t_38 w =>
        lp (fun σ w again_40 => pop σ fun k_39 σ => fin σ <|
          pv prog (oBi .len #[22] 3 #[false] #[v]) w fun t_41 w =>
          pvv prog (binOp .lss 3 k_39 t_41) w fun t_42 w =>
          cd t_42 (
            lp (fun σ w again_45 => pop σ fun in_43 σ => pop σ fun j_44 σ => fin σ <|
              pv prog (oBi .len #[22] 3 #[false] #[t_38]) w fun t_46 w =>
              pvv prog (binOp .lss 3 j_44 t_46) w fun t_47 w =>
              cd t_47 (
                dr w fun w =>
                gate (some (in_43, false)) (fun K => K t_38 w) w fun t_48 w =>
                gate (some (in_43, false)) (fun K => K j_44 w) w fun t_49 w =>
                gate (some (in_43, false)) (fun K => pvv prog (Instr.indexAt 22 t_48 t_49) w K) w fun t_50 w =>
                gate (some (in_43, false)) (fun K => K v w) w fun t_51 w =>
                gate (some (in_43, false)) (fun K => K k_39 w) w fun t_52 w =>
                gate (some (in_43, false)) (fun K => pvv prog (Instr.indexAt 22 t_51 t_52) w K) w fun t_53 w =>
                bindS (vN (Instr.loadAt 3 t_50)) fun m_55 => gate (some (in_43, false)) (fun K => ldv prog (Instr.loadAt 3 t_50) w K) w fun t_54 w =>
                bindS (vN (Instr.loadAt 3 t_53)) fun m_57 => gate (some (in_43, false)) (fun K => ldv prog (Instr.loadAt 3 t_53) w K) w fun t_56 w =>
                gate (some (in_43, false)) (fun K => pvv prog (oEq .eql 3 (.tmp 86) (.tmp 90) t_54 t_56) w K) w fun t_58 w =>
                pv prog (oPick in_43 (.bool true) t_58) w fun t_59 w =>
                pvv prog (binOp .add 3 j_44 (.int .i64 1)) w fun t_60 w =>
                again_45 [t_59, t_60] w) <|
              pvv prog (Op.unary .not in_43) w fun t_61 w =>
              cd t_61 (
                K (.bool false) w) <|
              pvv prog (binOp .add 3 k_39 (.int .i64 1)) w fun t_62 w =>
              again_40 [t_62] w) [(.bool false), (.int .i64 0)] w) <|
          pvv prog (binOp .add 3 i_26 (.int .i64 1)) w fun t_63 w =>
          again_27 [t_63] w) [(.int .i64 0)] w))) <|
      K (.bool true) w) [(.int .i64 0)] w)) := by
    intro w h
    clear hag
    have h := h.perm (star_left_comm _ _ _)
    refine Pin_spec f0.ok h (l := l) Rds.own (fun n hn => by rw [hpg]; exact hln n hn) rfl rfl (by show l.length ≤ 4; omega) (by decide) (by decide) fun P w ok hS hD hM c1 c2 hin hrow h => ?_
    simp only [↓o_nil, ↓o_field, ↓o_add, ↓o_sub, ↓o_mul, ↓o_lss, ↓o_leq, ↓o_gtr, ↓o_geq, ↓o_not, ↓o_pick, ↓o_eqInt, ↓o_neInt, ↓o_eqBool, ↓o_neBool, ↓o_eqPtr, ↓o_nePtr, ↓o_eqPtr', ↓o_eqSl, ↓o_neSl, ↓o_eqStr, ↓o_neStr, ↓o_len, ↓o_lenS, ↓o_min, ↓o_max, ↓o_extract, ↓o_convInt, ↓cd_true, ↓cd_false, ↓gate_tt, ↓gate_ff, ↓gate_tf, ↓gate_ft, ↓gate_undef, ↓o_bind, ↓stay_v, ↓pop_cons, ↓fin_nil, Option.isNone_none, Option.isNone_some, Bool.not_true, Bool.not_false, Nat.zero_add, decide_true, decide_false, if_true, if_false, Bool.false_eq_true, ↓reduceIte]
    have c1' : P.hits ≤ 3 := Nat.le_trans c1 (by show 0 + l.length ≤ 3; omega)
    have c2' : P.misses ≤ 3 := Nat.le_trans c2 (by show 0 + l.length ≤ 3; omega)
    have hpg1 : P.S.pages = 11 := by rw [hS]; exact hpg
    refine lp_nat (fun q σ w => ∃ (j : Nat) (Q : Pg), σ = [.int .i64 j] ∧ q = 60 - j ∧ j ≤ 60 ∧ POk Q [] ∧ Q.S.pages = 11 ∧ Q.dirty = [] ∧ Q.most = 4 ∧ Q.hits ≤ 3 + j ∧ Q.misses ≤ 3 + j ∧ (∀ x ∈ l, x ∈ Q.pins) ∧ (∀ x ∈ Q.pins, x ∈ Q.row) ∧ sat E w (pgr A Q * (osl 3 1 v l.length (l.map iv) * H))) 60 ⟨0, P, rfl, rfl, by omega, ok, hpg1, hD, hM, by omega, by omega, hin, hrow, h⟩ ?_
    clear h
    rintro q σ w again ⟨j, Q, rfl, rfl, hj, okq, hpq, hqD, hqM, d1, d2, hin, hrow, h⟩ hag
    obtain ⟨av, cv, rfl, hcv, _, _⟩ := osl_shape h.drop
    try simp only [↓o_nil, ↓o_field, ↓o_add, ↓o_sub, ↓o_mul, ↓o_lss, ↓o_leq, ↓o_gtr, ↓o_geq, ↓o_not, ↓o_pick, ↓o_eqInt, ↓o_neInt, ↓o_eqBool, ↓o_neBool, ↓o_eqPtr, ↓o_nePtr, ↓o_eqPtr', ↓o_eqSl, ↓o_neSl, ↓o_eqStr, ↓o_neStr, ↓o_len, ↓o_lenS, ↓o_min, ↓o_max, ↓o_extract, ↓o_convInt, ↓cd_true, ↓cd_false, ↓gate_tt, ↓gate_ff, ↓gate_tf, ↓gate_ft, ↓gate_undef, ↓o_bind, ↓stay_v, ↓pop_cons, ↓fin_nil, Option.isNone_none, Option.isNone_some, Bool.not_true, Bool.not_false, Nat.zero_add, decide_true, decide_false, if_true, if_false, Bool.false_eq_true, ↓reduceIte]
    by_cases h1 : (j : Int) < (rs.length : Int)
    · by_cases h2 : (j : Int) < 60
      · simp only [h1, h2, ↓o_nil, ↓o_field, ↓o_add, ↓o_sub, ↓o_mul, ↓o_lss, ↓o_leq, ↓o_gtr, ↓o_geq, ↓o_not, ↓o_pick, ↓o_eqInt, ↓o_neInt, ↓o_eqBool, ↓o_neBool, ↓o_eqPtr, ↓o_nePtr, ↓o_eqPtr', ↓o_eqSl, ↓o_neSl, ↓o_eqStr, ↓o_neStr, ↓o_len, ↓o_lenS, ↓o_min, ↓o_max, ↓o_extract, ↓o_convInt, ↓cd_true, ↓cd_false, ↓gate_tt, ↓gate_ff, ↓gate_tf, ↓gate_ft, ↓gate_undef, ↓o_bind, ↓stay_v, ↓pop_cons, ↓fin_nil, Option.isNone_none, Option.isNone_some, Bool.not_true, Bool.not_false, Nat.zero_add, decide_true, decide_false, if_true, if_false, Bool.false_eq_true, ↓reduceIte]
        have hlt : j < rs.length := by omega
        have hrd : ∀ {Y Z : HP}, Rds (Y * (Z * H)) (.slice ar rs.length cr) rs.length (rs.map bv) := hr.right.right
        obtain ⟨b1, o1, rfl, hb1⟩ := win_cell (hrd.win h) (j := j) (by rw [List.length_map]; exact hlt)
        rw [o_index (by omega) (by omega)]
        simp only [Int.toNat_natCast, Nat.mul_one]
        refine ld_cell hb1 ?_
        rw [List.getElem_map]
        simp only [bv, ↓o_nil, ↓o_field, ↓o_add, ↓o_sub, ↓o_mul, ↓o_lss, ↓o_leq, ↓o_gtr, ↓o_geq, ↓o_not, ↓o_pick, ↓o_eqInt, ↓o_neInt, ↓o_eqBool, ↓o_neBool, ↓o_eqPtr, ↓o_nePtr, ↓o_eqPtr', ↓o_eqSl, ↓o_neSl, ↓o_eqStr, ↓o_neStr, ↓o_len, ↓o_lenS, ↓o_min, ↓o_max, ↓o_extract, ↓o_convInt, ↓cd_true, ↓cd_false, ↓gate_tt, ↓gate_ff, ↓gate_tf, ↓gate_ft, ↓gate_undef, ↓o_bind, ↓stay_v, ↓pop_cons, ↓fin_nil, Option.isNone_none, Option.isNone_some, Bool.not_true, Bool.not_false, Nat.zero_add, decide_true, decide_false, if_true, if_false, Bool.false_eq_true, ↓reduceIte]
        rw [o_rem (by decide), mod11]
        have hn : (rs[j]).toNat % 11 < 11 := Nat.mod_lt _ (by decide)
        generalize (rs[j]).toNat % 11 = n at hn
        have hrp : readP Q n = useP Q n := by
          have hl : lookE Q n = 0 := by unfold lookE; rw [if_neg (by omega)]
          unfold readP
          rw [if_pos hl, hqD]; rfl
        refine PRead_spec okq h (n := n) (by omega) (by omega) (by omega) fun v1 w ok2 h => ?_
        obtain ⟨r1, r2, r3, r4⟩ := readP_same (P := Q) (n := n)
        obtain ⟨e1, e2⟩ := counts_le (P := Q) (n := n)
        have hrow2 : ∀ x ∈ (readP Q n).pins, x ∈ (readP Q n).row := by rw [hrp]; exact useP_keeps fun x hx => .inr (hrow x hx)
        have hin2 : ∀ x ∈ l, x ∈ (readP Q n).pins := by rw [r3]; exact hin
        have hpq2 : (readP Q n).S.pages = 11 := by rw [r1]; exact hpq
        have hqD2 : (readP Q n).dirty = [] := by rw [r2]; exact hqD
        have hqM2 : (readP Q n).most = 4 := by rw [r4]; exact hqM
        generalize readP Q n = Q2 at h ok2 e1 e2 hrow2 hin2 hpq2 hqD2 hqM2
        have h := h.drop
        have hrl := ok2.rl
        refine Cached_spec (by omega) h fun cv2 w h => ?_
        obtain ⟨ac, cc, rfl, hcc, _, _⟩ := osl_shape h
        refine lp_nat (fun q σ w => ∃ kk : Nat, σ = [.int .i64 kk] ∧ q = l.length - kk ∧ kk ≤ l.length ∧ sat E w (osl 3 1 (.slice ac Q2.row.length cc) Q2.row.length (Q2.row.map iv) * (pgr A Q2 * (osl 3 1 (.slice av l.length cv) l.length (l.map iv) * H)))) l.length ⟨0, rfl, rfl, by omega, h⟩ ?_
        clear h
        rintro q σ w again2 ⟨kk, rfl, rfl, hkk, h⟩ hag2
        try simp only [↓o_nil, ↓o_field, ↓o_add, ↓o_sub, ↓o_mul, ↓o_lss, ↓o_leq, ↓o_gtr, ↓o_geq, ↓o_not, ↓o_pick, ↓o_eqInt, ↓o_neInt, ↓o_eqBool, ↓o_neBool, ↓o_eqPtr, ↓o_nePtr, ↓o_eqPtr', ↓o_eqSl, ↓o_neSl, ↓o_eqStr, ↓o_neStr, ↓o_len, ↓o_lenS, ↓o_min, ↓o_max, ↓o_extract, ↓o_convInt, ↓cd_true, ↓cd_false, ↓gate_tt, ↓gate_ff, ↓gate_tf, ↓gate_ft, ↓gate_undef, ↓o_bind, ↓stay_v, ↓pop_cons, ↓fin_nil, Option.isNone_none, Option.isNone_some, Bool.not_true, Bool.not_false, Nat.zero_add, decide_true, decide_false, if_true, if_false, Bool.false_eq_true, ↓reduceIte]
        refine cd_dec (fun hlt2 => ?_) (fun hge2 => ?_)
        · have hlt2 : kk < l.length := by omega
          refine lp_nat (fun q σ w => ∃ jj : Nat, σ = [.bool (decide (l[kk] ∈ Q2.row.take jj)), .int .i64 jj] ∧ q = Q2.row.length - jj ∧ jj ≤ Q2.row.length ∧ sat E w (osl 3 1 (.slice ac Q2.row.length cc) Q2.row.length (Q2.row.map iv) * (pgr A Q2 * (osl 3 1 (.slice av l.length cv) l.length (l.map iv) * H)))) Q2.row.length ⟨0, by simp, rfl, by omega, h⟩ ?_
          clear h
          rintro q σ w again3 ⟨jj, rfl, rfl, hjj, h⟩ hag3
          try simp only [↓o_nil, ↓o_field, ↓o_add, ↓o_sub, ↓o_mul, ↓o_lss, ↓o_leq, ↓o_gtr, ↓o_geq, ↓o_not, ↓o_pick, ↓o_eqInt, ↓o_neInt, ↓o_eqBool, ↓o_neBool, ↓o_eqPtr, ↓o_nePtr, ↓o_eqPtr', ↓o_eqSl, ↓o_neSl, ↓o_eqStr, ↓o_neStr, ↓o_len, ↓o_lenS, ↓o_min, ↓o_max, ↓o_extract, ↓o_convInt, ↓cd_true, ↓cd_false, ↓gate_tt, ↓gate_ff, ↓gate_tf, ↓gate_ft, ↓gate_undef, ↓o_bind, ↓stay_v, ↓pop_cons, ↓fin_nil, Option.isNone_none, Option.isNone_some, Bool.not_true, Bool.not_false, Nat.zero_add, decide_true, decide_false, if_true, if_false, Bool.false_eq_true, ↓reduceIte]
          refine cd_dec (fun hlt3 => ?_) (fun hge3 => ?_)
          · have hlt3 : jj < Q2.row.length := by omega
            have hnext : ∀ w, sat E w (osl 3 1 (.slice ac Q2.row.length cc) Q2.row.length (Q2.row.map iv) * (pgr A Q2 * (osl 3 1 (.slice av l.length cv) l.length (l.map iv) * H))) → again3 [.bool (decide (l[kk] ∈ Q2.row.take (jj + 1))), .int .i64 ((jj : Int) + 1)] w := fun w h =>
              hag3 (Q2.row.length - (jj + 1)) _ _ (by omega) ⟨jj + 1, rfl, rfl, by omega, h⟩
            have htk : Q2.row.take (jj + 1) = Q2.row.take jj ++ [Q2.row[jj]] := List.take_succ_eq_append_getElem hlt3
            refine dr_sl h fun w h _ => ?_
            by_cases hm : l[kk] ∈ Q2.row.take jj
            · have hm2 : l[kk] ∈ Q2.row.take (jj + 1) := by rw [htk]; exact List.mem_append_left _ hm
              simp only [hm, decide_true, ↓o_nil, ↓o_field, ↓o_add, ↓o_sub, ↓o_mul, ↓o_lss, ↓o_leq, ↓o_gtr, ↓o_geq, ↓o_not, ↓o_pick, ↓o_eqInt, ↓o_neInt, ↓o_eqBool, ↓o_neBool, ↓o_eqPtr, ↓o_nePtr, ↓o_eqPtr', ↓o_eqSl, ↓o_neSl, ↓o_eqStr, ↓o_neStr, ↓o_len, ↓o_lenS, ↓o_min, ↓o_max, ↓o_extract, ↓o_convInt, ↓cd_true, ↓cd_false, ↓gate_tt, ↓gate_ff, ↓gate_tf, ↓gate_ft, ↓gate_undef, ↓o_bind, ↓stay_v, ↓pop_cons, ↓fin_nil, Option.isNone_none, Option.isNone_some, Bool.not_true, Bool.not_false, Nat.zero_add, decide_true, decide_false, if_true, if_false, Bool.false_eq_true, ↓reduceIte]
              rw [i64_of (by omega) (by omega)]
              have := hnext w h
              rw [decide_eq_true hm2] at this
              exact this
            · simp only [hm, decide_false, ↓o_nil, ↓o_field, ↓o_add, ↓o_sub, ↓o_mul, ↓o_lss, ↓o_leq, ↓o_gtr, ↓o_geq, ↓o_not, ↓o_pick, ↓o_eqInt, ↓o_neInt, ↓o_eqBool, ↓o_neBool, ↓o_eqPtr, ↓o_nePtr, ↓o_eqPtr', ↓o_eqSl, ↓o_neSl, ↓o_eqStr, ↓o_neStr, ↓o_len, ↓o_lenS, ↓o_min, ↓o_max, ↓o_extract, ↓o_convInt, ↓cd_true, ↓cd_false, ↓gate_tt, ↓gate_ff, ↓gate_tf, ↓gate_ft, ↓gate_undef, ↓o_bind, ↓stay_v, ↓pop_cons, ↓fin_nil, Option.isNone_none, Option.isNone_some, Bool.not_true, Bool.not_false, Nat.zero_add, decide_true, decide_false, if_true, if_false, Bool.false_eq_true, ↓reduceIte]
              obtain ⟨b3, o3, rfl, hb3⟩ := win_cell ((Rds.osl).win h.drop') (j := jj) (by rw [List.length_map]; exact hlt3)
              rw [o_index (by omega) (by omega)]
              simp only [Int.toNat_natCast, Nat.mul_one, ↓o_nil, ↓o_field, ↓o_add, ↓o_sub, ↓o_mul, ↓o_lss, ↓o_leq, ↓o_gtr, ↓o_geq, ↓o_not, ↓o_pick, ↓o_eqInt, ↓o_neInt, ↓o_eqBool, ↓o_neBool, ↓o_eqPtr, ↓o_nePtr, ↓o_eqPtr', ↓o_eqSl, ↓o_neSl, ↓o_eqStr, ↓o_neStr, ↓o_len, ↓o_lenS, ↓o_min, ↓o_max, ↓o_extract, ↓o_convInt, ↓cd_true, ↓cd_false, ↓gate_tt, ↓gate_ff, ↓gate_tf, ↓gate_ft, ↓gate_undef, ↓o_bind, ↓stay_v, ↓pop_cons, ↓fin_nil, Option.isNone_none, Option.isNone_some, Bool.not_true, Bool.not_false, Nat.zero_add, decide_true, decide_false, if_true, if_false, Bool.false_eq_true, ↓reduceIte]
              obtain ⟨b4, o4, rfl, hb4⟩ := win_cell ((Rds.osl).win h.drop.drop.drop') (j := kk) (by rw [List.length_map]; exact hlt2)
              rw [o_index (by omega) (by omega)]
              simp only [Int.toNat_natCast, Nat.mul_one, ↓o_nil, ↓o_field, ↓o_add, ↓o_sub, ↓o_mul, ↓o_lss, ↓o_leq, ↓o_gtr, ↓o_geq, ↓o_not, ↓o_pick, ↓o_eqInt, ↓o_neInt, ↓o_eqBool, ↓o_neBool, ↓o_eqPtr, ↓o_nePtr, ↓o_eqPtr', ↓o_eqSl, ↓o_neSl, ↓o_eqStr, ↓o_neStr, ↓o_len, ↓o_lenS, ↓o_min, ↓o_max, ↓o_extract, ↓o_convInt, ↓cd_true, ↓cd_false, ↓gate_tt, ↓gate_ff, ↓gate_tf, ↓gate_ft, ↓gate_undef, ↓o_bind, ↓stay_v, ↓pop_cons, ↓fin_nil, Option.isNone_none, Option.isNone_some, Bool.not_true, Bool.not_false, Nat.zero_add, decide_true, decide_false, if_true, if_false, Bool.false_eq_true, ↓reduceIte]
              refine ld_cell hb3 (ld_cell hb4 ?_)
              rw [List.getElem_map, List.getElem_map]
              simp only [iv, ↓o_nil, ↓o_field, ↓o_add, ↓o_sub, ↓o_mul, ↓o_lss, ↓o_leq, ↓o_gtr, ↓o_geq, ↓o_not, ↓o_pick, ↓o_eqInt, ↓o_neInt, ↓o_eqBool, ↓o_neBool, ↓o_eqPtr, ↓o_nePtr, ↓o_eqPtr', ↓o_eqSl, ↓o_neSl, ↓o_eqStr, ↓o_neStr, ↓o_len, ↓o_lenS, ↓o_min, ↓o_max, ↓o_extract, ↓o_convInt, ↓cd_true, ↓cd_false, ↓gate_tt, ↓gate_ff, ↓gate_tf, ↓gate_ft, ↓gate_undef, ↓o_bind, ↓stay_v, ↓pop_cons, ↓fin_nil, Option.isNone_none, Option.isNone_some, Bool.not_true, Bool.not_false, Nat.zero_add, decide_true, decide_false, if_true, if_false, Bool.false_eq_true, ↓reduceIte]
              rw [i64_of (by omega) (by omega)]
              have := hnext w h
              have he : decide (l[kk] ∈ Q2.row.take (jj + 1)) = decide (Q2.row[jj] = l[kk]) := by
                rw [htk]
                congr 1
                apply propext
                rw [List.mem_append, List.mem_singleton]
                constructor
                · rintro (h | h)
                  · exact absurd h hm
                  · exact h.symm
                · exact fun h => .inr h.symm
              rw [he] at this
              exact this
          · have hjl : jj = Q2.row.length := by omega
            subst hjl
            rw [List.take_length]
            have hmem : l[kk] ∈ Q2.row := hrow2 _ (hin2 _ (List.getElem_mem hlt2))
            simp only [hmem, decide_true, ↓o_nil, ↓o_field, ↓o_add, ↓o_sub, ↓o_mul, ↓o_lss, ↓o_leq, ↓o_gtr, ↓o_geq, ↓o_not, ↓o_pick, ↓o_eqInt, ↓o_neInt, ↓o_eqBool, ↓o_neBool, ↓o_eqPtr, ↓o_nePtr, ↓o_eqPtr', ↓o_eqSl, ↓o_neSl, ↓o_eqStr, ↓o_neStr, ↓o_len, ↓o_lenS, ↓o_min, ↓o_max, ↓o_extract, ↓o_convInt, ↓cd_true, ↓cd_false, ↓gate_tt, ↓gate_ff, ↓gate_tf, ↓gate_ft, ↓gate_undef, ↓o_bind, ↓stay_v, ↓pop_cons, ↓fin_nil, Option.isNone_none, Option.isNone_some, Bool.not_true, Bool.not_false, Nat.zero_add, decide_true, decide_false, if_true, if_false, Bool.false_eq_true, ↓reduceIte]
            rw [i64_of (by omega) (by omega)]
            exact hag2 (l.length - (kk + 1)) _ _ (by omega) ⟨kk + 1, rfl, rfl, by omega, h⟩
        · rw [i64_of (by omega) (by omega)]
          exact hag (60 - (j + 1)) _ _ (by omega) ⟨j + 1, Q2, rfl, rfl, by omega, ok2, hpq2, hqD2, hqM2, by omega, by omega, hin2, hrow2, h.drop⟩
      · simp only [h1, h2, ↓o_nil, ↓o_field, ↓o_add, ↓o_sub, ↓o_mul, ↓o_lss, ↓o_leq, ↓o_gtr, ↓o_geq, ↓o_not, ↓o_pick, ↓o_eqInt, ↓o_neInt, ↓o_eqBool, ↓o_neBool, ↓o_eqPtr, ↓o_nePtr, ↓o_eqPtr', ↓o_eqSl, ↓o_neSl, ↓o_eqStr, ↓o_neStr, ↓o_len, ↓o_lenS, ↓o_min, ↓o_max, ↓o_extract, ↓o_convInt, ↓cd_true, ↓cd_false, ↓gate_tt, ↓gate_ff, ↓gate_tf, ↓gate_ft, ↓gate_undef, ↓o_bind, ↓stay_v, ↓pop_cons, ↓fin_nil, Option.isNone_none, Option.isNone_some, Bool.not_true, Bool.not_false, Nat.zero_add, decide_true, decide_false, if_true, if_false, Bool.false_eq_true, ↓reduceIte]
        exact k w h.drop.drop
    · simp only [h1, ↓o_nil, ↓o_field, ↓o_add, ↓o_sub, ↓o_mul, ↓o_lss, ↓o_leq, ↓o_gtr, ↓o_geq, ↓o_not, ↓o_pick, ↓o_eqInt, ↓o_neInt, ↓o_eqBool, ↓o_neBool, ↓o_eqPtr, ↓o_nePtr, ↓o_eqPtr', ↓o_eqSl, ↓o_neSl, ↓o_eqStr, ↓o_neStr, ↓o_len, ↓o_lenS, ↓o_min, ↓o_max, ↓o_extract, ↓o_convInt, ↓cd_true, ↓cd_false, ↓gate_tt, ↓gate_ff, ↓gate_tf, ↓gate_ft, ↓gate_undef, ↓o_bind, ↓stay_v, ↓pop_cons, ↓fin_nil, Option.isNone_none, Option.isNone_some, Bool.not_true, Bool.not_false, Nat.zero_add, decide_true, decide_false, if_true, if_false, Bool.false_eq_true, ↓reduceIte]
      exact k w h.drop.drop
  by_cases h1 : (i : Int) < (ps.length : Int)
  · by_cases h2 : (i : Int) < 3
    · simp only [h1, h2, ↓o_nil, ↓o_field, ↓o_add, ↓o_sub, ↓o_mul, ↓o_lss, ↓o_leq, ↓o_gtr, ↓o_geq, ↓o_not, ↓o_pick, ↓o_eqInt, ↓o_neInt, ↓o_eqBool, ↓o_neBool, ↓o_eqPtr, ↓o_nePtr, ↓o_eqPtr', ↓o_eqSl, ↓o_neSl, ↓o_eqStr, ↓o_neStr, ↓o_len, ↓o_lenS, ↓o_min, ↓o_max, ↓o_extract, ↓o_convInt, ↓cd_true, ↓cd_false, ↓gate_tt, ↓gate_ff, ↓gate_tf, ↓gate_ft, ↓gate_undef, ↓o_bind, ↓stay_v, ↓pop_cons, ↓fin_nil, Option.isNone_none, Option.isNone_some, Bool.not_true, Bool.not_false, Nat.zero_add, decide_true, decide_false, if_true, if_false, Bool.false_eq_true, ↓reduceIte]
      have hlt : i < ps.length := by omega
      have hrd : ∀ {Y Z : HP}, Rds (Y * (Z * H)) (.slice ap ps.length cp) ps.length (ps.map bv) := hp.right.right
      obtain ⟨b1, o1, rfl, hb1⟩ := win_cell (hrd.win h) (j := i) (by rw [List.length_map]; exact hlt)
      rw [o_index (by omega) (by omega)]
      simp only [Int.toNat_natCast, Nat.mul_one]
      refine ld_cell hb1 ?_
      rw [List.getElem_map]
      simp only [bv, ↓o_nil, ↓o_field, ↓o_add, ↓o_sub, ↓o_mul, ↓o_lss, ↓o_leq, ↓o_gtr, ↓o_geq, ↓o_not, ↓o_pick, ↓o_eqInt, ↓o_neInt, ↓o_eqBool, ↓o_neBool, ↓o_eqPtr, ↓o_nePtr, ↓o_eqPtr', ↓o_eqSl, ↓o_neSl, ↓o_eqStr, ↓o_neStr, ↓o_len, ↓o_lenS, ↓o_min, ↓o_max, ↓o_extract, ↓o_convInt, ↓cd_true, ↓cd_false, ↓gate_tt, ↓gate_ff, ↓gate_tf, ↓gate_ft, ↓gate_undef, ↓o_bind, ↓stay_v, ↓pop_cons, ↓fin_nil, Option.isNone_none, Option.isNone_some, Bool.not_true, Bool.not_false, Nat.zero_add, decide_true, decide_false, if_true, if_false, Bool.false_eq_true, ↓reduceIte]
      rw [o_rem (by decide), mod11]
      have hn : (ps[i]).toNat % 11 < 11 := Nat.mod_lt _ (by decide)
      generalize (ps[i]).toNat % 11 = n at hn
      refine push_sl (v := v) h rfl rfl (by omega) (by omega) fun v2 w h => ?_
      try simp only [↓o_nil, ↓o_field, ↓o_add, ↓o_sub, ↓o_mul, ↓o_lss, ↓o_leq, ↓o_gtr, ↓o_geq, ↓o_not, ↓o_pick, ↓o_eqInt, ↓o_neInt, ↓o_eqBool, ↓o_neBool, ↓o_eqPtr, ↓o_nePtr, ↓o_eqPtr', ↓o_eqSl, ↓o_neSl, ↓o_eqStr, ↓o_neStr, ↓o_len, ↓o_lenS, ↓o_min, ↓o_max, ↓o_extract, ↓o_convInt, ↓cd_true, ↓cd_false, ↓gate_tt, ↓gate_ff, ↓gate_tf, ↓gate_ft, ↓gate_undef, ↓o_bind, ↓stay_v, ↓pop_cons, ↓fin_nil, Option.isNone_none, Option.isNone_some, Bool.not_true, Bool.not_false, Nat.zero_add, decide_true, decide_false, if_true, if_false, Bool.false_eq_true, ↓reduceIte]
      rw [i64_of (by omega) (by omega)]
      refine hag (3 - (i + 1)) _ _ (by omega) ⟨i + 1, v2, l ++ [(n : Int)], rfl, rfl, by omega, by rw [List.length_append, hil]; rfl, fun x hx => ?_, ?_⟩
      · rcases List.mem_append.1 hx with hx | hx
        · exact hln x hx
        · simp only [List.mem_singleton] at hx; omega
      · rw [List.length_append, List.map_append]; exact h
    · have hend := hend w h
      simp only [↓o_nil, ↓o_field, ↓o_add, ↓o_sub, ↓o_mul, ↓o_lss, ↓o_leq, ↓o_gtr, ↓o_geq, ↓o_not, ↓o_pick, ↓o_eqInt, ↓o_neInt, ↓o_eqBool, ↓o_neBool, ↓o_eqPtr, ↓o_nePtr, ↓o_eqPtr', ↓o_eqSl, ↓o_neSl, ↓o_eqStr, ↓o_neStr, ↓o_len, ↓o_lenS, ↓o_min, ↓o_max, ↓o_extract, ↓o_convInt, ↓cd_true, ↓cd_false, ↓gate_tt, ↓gate_ff, ↓gate_tf, ↓gate_ft, ↓gate_undef, ↓o_bind, ↓stay_v, ↓pop_cons, ↓fin_nil, Option.isNone_none, Option.isNone_some, Bool.not_true, Bool.not_false, Nat.zero_add, decide_true, decide_false, if_true, if_false, Bool.false_eq_true, ↓reduceIte] at hend
      simp only [h1, h2, ↓o_nil, ↓o_field, ↓o_add, ↓o_sub, ↓o_mul, ↓o_lss, ↓o_leq, ↓o_gtr, ↓o_geq, ↓o_not, ↓o_pick, ↓o_eqInt, ↓o_neInt, ↓o_eqBool, ↓o_neBool, ↓o_eqPtr, ↓o_nePtr, ↓o_eqPtr', ↓o_eqSl, ↓o_neSl, ↓o_eqStr, ↓o_neStr, ↓o_len, ↓o_lenS, ↓o_min, ↓o_max, ↓o_extract, ↓o_convInt, ↓cd_true, ↓cd_false, ↓gate_tt, ↓gate_ff, ↓gate_tf, ↓gate_ft, ↓gate_undef, ↓o_bind, ↓stay_v, ↓pop_cons, ↓fin_nil, Option.isNone_none, Option.isNone_some, Bool.not_true, Bool.not_false, Nat.zero_add, decide_true, decide_false, if_true, if_false, Bool.false_eq_true, ↓reduceIte]
      exact hend
  · have hend := hend w h
    simp only [↓o_nil, ↓o_field, ↓o_add, ↓o_sub, ↓o_mul, ↓o_lss, ↓o_leq, ↓o_gtr, ↓o_geq, ↓o_not, ↓o_pick, ↓o_eqInt, ↓o_neInt, ↓o_eqBool, ↓o_neBool, ↓o_eqPtr, ↓o_nePtr, ↓o_eqPtr', ↓o_eqSl, ↓o_neSl, ↓o_eqStr, ↓o_neStr, ↓o_len, ↓o_lenS, ↓o_min, ↓o_max, ↓o_extract, ↓o_convInt, ↓cd_true, ↓cd_false, ↓gate_tt, ↓gate_ff, ↓gate_tf, ↓gate_ft, ↓gate_undef, ↓o_bind, ↓stay_v, ↓pop_cons, ↓fin_nil, Option.isNone_none, Option.isNone_some, Bool.not_true, Bool.not_false, Nat.zero_add, decide_true, decide_false, if_true, if_false, Bool.false_eq_true, ↓reduceIte] at hend
    simp only [h1, ↓o_nil, ↓o_field, ↓o_add, ↓o_sub, ↓o_mul, ↓o_lss, ↓o_leq, ↓o_gtr, ↓o_geq, ↓o_not, ↓o_pick, ↓o_eqInt, ↓o_neInt, ↓o_eqBool, ↓o_neBool, ↓o_eqPtr, ↓o_nePtr, ↓o_eqPtr', ↓o_eqSl, ↓o_neSl, ↓o_eqStr, ↓o_neStr, ↓o_len, ↓o_lenS, ↓o_min, ↓o_max, ↓o_extract, ↓o_convInt, ↓cd_true, ↓cd_false, ↓gate_tt, ↓gate_ff, ↓gate_tf, ↓gate_ft, ↓gate_undef, ↓o_bind, ↓stay_v, ↓pop_cons, ↓fin_nil, Option.isNone_none, Option.isNone_some, Bool.not_true, Bool.not_false, Nat.zero_add, decide_true, decide_false, if_true, if_false, Bool.false_eq_true, ↓reduceIte]
    exact hend
end Go.Proofs.YtcjklbhobmkalaaGreat.Pins
