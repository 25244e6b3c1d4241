/-
  PagerAborts: the walk.
-/
import Derived.Test.YtcjklbhobmkalaaGreatPgrL
set_option linter.all false
set_option maxRecDepth 100000
namespace Go.Proofs.YtcjklbhobmkalaaGreat.Aborts
open Go Hold Go.ChangeShapes Go.WideShapes Go.ChangeAt Go.RowKit
variable {E : World0} {w : World} {H R : HP} {K : Value → World → Prop}
theorem view_all {S : Lg} {n : Nat} (h : n < S.pages) : S.all[n]? = some (S.view n) := by
  rw [List.getElem?_eq_getElem (by rw [all_len]; exact h), all_at h]
theorem Aborts_spec (h : sat E w H) {lv : Value} (l : List Dd) (hl : Rds H lv l.length (l.flatMap dcells)) (hm : l.length ≤ 9223372036854775807) (hs : ∀ x ∈ l, OkD H x)
    (k : ∀ w', sat E w' H → K (.bool true) w') : Calls prog 4 #[lv] w (Ret K) := by
  obtain ⟨al, cl, rfl, hcl, hl, _⟩ := hl.shape h
  have hdl := dcells_length l
  refine c4 ?_
  unfold B4
  refine open_spec (size := 10) (most := 4) h (by omega) (by omega) (by omega) (by omega) fun A q w h => ?_
  have f0 : FarP (newP (newL (10 + 12) 10) 4) [] 10 4 0 := FarP.start (by omega) (by omega) (by omega) (by omega)
  try simp only [↓o_nil, ↓o_field, ↓o_add, ↓o_sub, ↓o_mul, ↓o_lss, ↓o_leq, ↓o_gtr, ↓o_geq, ↓o_not, ↓o_pick, ↓o_eqInt, ↓o_neInt, ↓o_eqBool, ↓o_neBool, ↓o_eqPtr, ↓o_nePtr, ↓o_eqPtr', ↓o_eqSl, ↓o_neSl, ↓o_eqStr, ↓o_neStr, ↓o_len, ↓o_lenS, ↓o_min, ↓o_max, ↓o_extract, ↓o_convInt, ↓cd_true, ↓cd_false, ↓gate_tt, ↓gate_ff, ↓gate_tf, ↓gate_ft, ↓gate_undef, ↓o_bind, ↓stay_v, ↓pop_cons, ↓fin_nil, Option.isNone_none, Option.isNone_some, Bool.not_true, Bool.not_false, Nat.zero_add, decide_true, decide_false, if_true, if_false, Bool.false_eq_true, ↓reduceIte]
  refine live_spec h fun w h => ?_
  try simp only [↓o_nil, ↓o_field, ↓o_add, ↓o_sub, ↓o_mul, ↓o_lss, ↓o_leq, ↓o_gtr, ↓o_geq, ↓o_not, ↓o_pick, ↓o_eqInt, ↓o_neInt, ↓o_eqBool, ↓o_neBool, ↓o_eqPtr, ↓o_nePtr, ↓o_eqPtr', ↓o_eqSl, ↓o_neSl, ↓o_eqStr, ↓o_neStr, ↓o_len, ↓o_lenS, ↓o_min, ↓o_max, ↓o_extract, ↓o_convInt, ↓cd_true, ↓cd_false, ↓gate_tt, ↓gate_ff, ↓gate_tf, ↓gate_ft, ↓gate_undef, ↓o_bind, ↓stay_v, ↓pop_cons, ↓fin_nil, Option.isNone_none, Option.isNone_some, Bool.not_true, Bool.not_false, Nat.zero_add, decide_true, decide_false, if_true, if_false, Bool.false_eq_true, ↓reduceIte]
  refine Log_spec h ?_
  refine PAll_spec f0.ok.i h (by rw [f0.pages]; omega) fun v vs w h => ?_
  refine lp_nat (fun q σ w => ∃ (i : Nat) (P : Pg) (gs : List (List Int)) (v : Value) (vs : List Value), σ = [v, .int .i64 i] ∧ q = 60 - i ∧ i ≤ 60 ∧ FarP P gs 10 4 i ∧ sat E w (pgr A P * (osl 30 1 v P.S.all.length vs * (pers (immAll vs P.S.all) * H)))) 60 ⟨0, _, [], v, vs, rfl, rfl, by omega, f0, h.perm (by ac_rfl)⟩ ?_
  clear h
  rintro q σ w again ⟨i, P, gs, v, vs, rfl, rfl, hi, f, h⟩ hag
  try simp only [↓o_nil, ↓o_field, ↓o_add, ↓o_sub, ↓o_mul, ↓o_lss, ↓o_leq, ↓o_gtr, ↓o_geq, ↓o_not, ↓o_pick, ↓o_eqInt, ↓o_neInt, ↓o_eqBool, ↓o_neBool, ↓o_eqPtr, ↓o_nePtr, ↓o_eqPtr', ↓o_eqSl, ↓o_neSl, ↓o_eqStr, ↓o_neStr, ↓o_len, ↓o_lenS, ↓o_min, ↓o_max, ↓o_extract, ↓o_convInt, ↓cd_true, ↓cd_false, ↓gate_tt, ↓gate_ff, ↓gate_tf, ↓gate_ft, ↓gate_undef, ↓o_bind, ↓stay_v, ↓pop_cons, ↓fin_nil, Option.isNone_none, Option.isNone_some, Bool.not_true, Bool.not_false, Nat.zero_add, decide_true, decide_false, if_true, if_false, Bool.false_eq_true, ↓reduceIte]
  have hW := f.w; have hg := f.g; have hh := f.h; have hms := f.ms
  have hpg := f.pages
  have hal := all_len P.S
  have hend : ∀ w, sat E w (pgr A P * (osl 30 1 v P.S.all.length vs * (pers (immAll vs P.S.all) * H))) → (
    Calls prog 19 #[(.pointer (some ⟨A.q, 0, none⟩))] w (Ret fun t_43 w =>
    pv prog (oBi .len #[22] 3 #[false] #[t_43]) w fun t_44 w =>
    Calls prog 20 #[(.pointer (some ⟨A.q, 0, none⟩))] w (Ret fun t_45 w =>
    pvv prog (oEq .neq 3 (.tmp 67) (.tmp 68) t_45 t_44) w fun t_46 w =>
    gate (some (t_46, false)) (fun K => K (.pointer (some ⟨A.q, 0, none⟩)) w) w fun t_47 w =>
    gate (some (t_46, false)) (fun K => Calls prog 19 #[t_47] w (Ret K)) w fun t_48 w =>
    gate (some (t_46, false)) (fun K => pv prog (oBi .len #[22] 3 #[false] #[t_48]) w K) w fun t_49 w =>
    gate (some (t_46, false)) (fun K => pvv prog (oEq .neq 3 (.tmp 73) (.const (.int .i64 0)) t_49 (.int .i64 0)) w K) w fun t_50 w =>
    pv prog (oPick t_46 (.bool true) t_50) w fun t_51 w =>
    cd t_51 (
      K (.bool false) w) <|
    lp (fun σ w again_53 => pop σ fun i_52 σ => fin σ <|
      pv prog (oBi .len #[40] 3 #[false] #[v]) w fun t_54 w =>
      pvv prog (binOp .lss 3 i_52 t_54) w fun t_55 w =>
      cd t_55 (
        Calls prog 14 #[(.pointer (some ⟨A.q, 0, none⟩)), i_52] w (Ret fun t_56 w =>
        pvv prog (Instr.extract t_56 0) w fun t_57 w =>
        pvv prog (Instr.extract t_56 1) w fun t_58 w =>
        pvv prog (oEq .neq 32 (.tmp 88) (.const (.int .i64 0)) t_58 (.int .i64 0)) w fun t_59 w =>
        gate (some (t_59, false)) (fun K => K t_57 w) w fun t_60 w =>
        gate (some (t_59, false)) (fun K => K v w) w fun t_61 w =>
        gate (some (t_59, false)) (fun K => K i_52 w) w fun t_62 w =>
        gate (some (t_59, false)) (fun K => pvv prog (Instr.indexAt 40 t_61 t_62) w K) w fun t_63 w =>
        gate (some (t_59, false)) (fun K => ldv prog (Instr.loadAt 30 t_63) w K) w fun t_64 w =>
        gate (some (t_59, false)) (fun K => Calls prog 15 #[t_60, t_64] w (Ret K)) w fun t_65 w =>
        gate (some (t_59, false)) (fun K => pvv prog (Op.unary .not t_65) w K) w fun t_66 w =>
        pv prog (oPick t_59 (.bool true) t_66) w fun t_67 w =>
        cd t_67 (
          K (.bool false) w) <|
        pvv prog (binOp .add 3 i_52 (.int .i64 1)) w fun t_68 w =>
        again_53 [t_68] w)) <|
      Calls prog 20 #[(.pointer (some ⟨A.q, 0, none⟩))] w (Ret fun t_69 w =>
      pvv prog (oEq .eql 3 (.tmp 100) (.const (.int .i64 0)) t_69 (.int .i64 0)) w fun t_70 w =>
      K t_70 w)) [(.int .i64 0)] w))) := by
    intro w h
    refine Dirty_spec f.ok h fun u w h => ?_
    obtain ⟨au, cu, rfl, _, _, _⟩ := osl_shape h
    try simp only [↓o_nil, ↓o_field, ↓o_add, ↓o_sub, ↓o_mul, ↓o_lss, ↓o_leq, ↓o_gtr, ↓o_geq, ↓o_not, ↓o_pick, ↓o_eqInt, ↓o_neInt, ↓o_eqBool, ↓o_neBool, ↓o_eqPtr, ↓o_nePtr, ↓o_eqPtr', ↓o_eqSl, ↓o_neSl, ↓o_eqStr, ↓o_neStr, ↓o_len, ↓o_lenS, ↓o_min, ↓o_max, ↓o_extract, ↓o_convInt, ↓cd_true, ↓cd_false, ↓gate_tt, ↓gate_ff, ↓gate_tf, ↓gate_ft, ↓gate_undef, ↓o_bind, ↓stay_v, ↓pop_cons, ↓fin_nil, Option.isNone_none, Option.isNone_some, Bool.not_true, Bool.not_false, Nat.zero_add, decide_true, decide_false, if_true, if_false, Bool.false_eq_true, ↓reduceIte]
    have h := h.drop
    refine Abort_spec h fun w h => ?_
    simp only [↓o_nil, ↓o_field, ↓o_add, ↓o_sub, ↓o_mul, ↓o_lss, ↓o_leq, ↓o_gtr, ↓o_geq, ↓o_not, ↓o_pick, ↓o_eqInt, ↓o_neInt, ↓o_eqBool, ↓o_neBool, ↓o_eqPtr, ↓o_nePtr, ↓o_eqPtr', ↓o_eqSl, ↓o_neSl, ↓o_eqStr, ↓o_neStr, ↓o_len, ↓o_lenS, ↓o_min, ↓o_max, ↓o_extract, ↓o_convInt, ↓cd_true, ↓cd_false, ↓gate_tt, ↓gate_ff, ↓gate_tf, ↓gate_ft, ↓gate_undef, ↓o_bind, ↓stay_v, ↓pop_cons, ↓fin_nil, Option.isNone_none, Option.isNone_some, Bool.not_true, Bool.not_false, Nat.zero_add, decide_true, decide_false, if_true, if_false, Bool.false_eq_true, ↓reduceIte, decide_true]
    have fa := f.abort
    refine Dirty_spec fa.ok h fun u2 w h => ?_
    obtain ⟨au2, cu2, rfl, _, _, _⟩ := osl_shape h
    have h := h.drop
    simp only [show (((abortP P).dirty.length : Nat) : Int) = 0 from rfl, decide_true, ↓o_nil, ↓o_field, ↓o_add, ↓o_sub, ↓o_mul, ↓o_lss, ↓o_leq, ↓o_gtr, ↓o_geq, ↓o_not, ↓o_pick, ↓o_eqInt, ↓o_neInt, ↓o_eqBool, ↓o_neBool, ↓o_eqPtr, ↓o_nePtr, ↓o_eqPtr', ↓o_eqSl, ↓o_neSl, ↓o_eqStr, ↓o_neStr, ↓o_len, ↓o_lenS, ↓o_min, ↓o_max, ↓o_extract, ↓o_convInt, ↓cd_true, ↓cd_false, ↓gate_tt, ↓gate_ff, ↓gate_tf, ↓gate_ft, ↓gate_undef, ↓o_bind, ↓stay_v, ↓pop_cons, ↓fin_nil, Option.isNone_none, Option.isNone_some, Bool.not_true, Bool.not_false, Nat.zero_add, decide_true, decide_false, if_true, if_false, Bool.false_eq_true, ↓reduceIte]
    refine lp_nat (fun q σ w => ∃ (n : Nat) (Q : Pg), σ = [.int .i64 n] ∧ q = 11 - n ∧ n ≤ 11 ∧ FarP Q gs 10 4 (i + 1 + n) ∧ Q.S = P.S ∧ Q.dirty = [] ∧ sat E w (pgr A Q * (osl 30 1 v P.S.all.length vs * (pers (immAll vs P.S.all) * H)))) 11 ⟨0, _, rfl, rfl, by omega, fa, rfl, rfl, h⟩ ?_
    clear h hag
    rintro q σ w again ⟨n, Q, rfl, rfl, hn, fq, hQS, hQd, h⟩ hag
    have hqh := fq.h; have hqm := fq.ms
    obtain ⟨av, cv, rfl, _, _, _⟩ := osl_shape h.drop
    try simp only [↓o_nil, ↓o_field, ↓o_add, ↓o_sub, ↓o_mul, ↓o_lss, ↓o_leq, ↓o_gtr, ↓o_geq, ↓o_not, ↓o_pick, ↓o_eqInt, ↓o_neInt, ↓o_eqBool, ↓o_neBool, ↓o_eqPtr, ↓o_nePtr, ↓o_eqPtr', ↓o_eqSl, ↓o_neSl, ↓o_eqStr, ↓o_neStr, ↓o_len, ↓o_lenS, ↓o_min, ↓o_max, ↓o_extract, ↓o_convInt, ↓cd_true, ↓cd_false, ↓gate_tt, ↓gate_ff, ↓gate_tf, ↓gate_ft, ↓gate_undef, ↓o_bind, ↓stay_v, ↓pop_cons, ↓fin_nil, Option.isNone_none, Option.isNone_some, Bool.not_true, Bool.not_false, Nat.zero_add, decide_true, decide_false, if_true, if_false, Bool.false_eq_true, ↓reduceIte]
    refine cd_dec (fun hlt => ?_) (fun hge => ?_)
    · have hlt : n < 11 := by omega
      have hqpg : Q.S.pages = 11 := by rw [hQS]; exact hpg
      refine PRead_spec fq.ok h (n := n) (by omega) (by omega) (by omega) fun rv w _ h => ?_
      have hpage : Q.page n = P.S.view n := by unfold Pg.page; rw [hQd, hQS]; rfl
      have hpl := fq.ok.page_len (n := n) (by omega)
      rw [hpage] at h hpl
      simp only [↓o_nil, ↓o_field, ↓o_add, ↓o_sub, ↓o_mul, ↓o_lss, ↓o_leq, ↓o_gtr, ↓o_geq, ↓o_not, ↓o_pick, ↓o_eqInt, ↓o_neInt, ↓o_eqBool, ↓o_neBool, ↓o_eqPtr, ↓o_nePtr, ↓o_eqPtr', ↓o_eqSl, ↓o_neSl, ↓o_eqStr, ↓o_neStr, ↓o_len, ↓o_lenS, ↓o_min, ↓o_max, ↓o_extract, ↓o_convInt, ↓cd_true, ↓cd_false, ↓gate_tt, ↓gate_ff, ↓gate_tf, ↓gate_ft, ↓gate_undef, ↓o_bind, ↓stay_v, ↓pop_cons, ↓fin_nil, Option.isNone_none, Option.isNone_some, Bool.not_true, Bool.not_false, Nat.zero_add, decide_true, decide_false, if_true, if_false, Bool.false_eq_true, ↓reduceIte]
      have hwas := rdd_of2 h vs P.S.all (lv := .slice av P.S.all.length cv)
      obtain ⟨us, hu1, hu2, hu3⟩ := hwas
      have hun : n < us.length := by omega
      obtain ⟨b1, o1, rfl, hb1⟩ := win_cell (hu1.win h) (j := n) hun
      rw [o_index (by omega) (by omega)]
      simp only [↓o_nil, ↓o_field, ↓o_add, ↓o_sub, ↓o_mul, ↓o_lss, ↓o_leq, ↓o_gtr, ↓o_geq, ↓o_not, ↓o_pick, ↓o_eqInt, ↓o_neInt, ↓o_eqBool, ↓o_neBool, ↓o_eqPtr, ↓o_nePtr, ↓o_eqPtr', ↓o_eqSl, ↓o_neSl, ↓o_eqStr, ↓o_neStr, ↓o_len, ↓o_lenS, ↓o_min, ↓o_max, ↓o_extract, ↓o_convInt, ↓cd_true, ↓cd_false, ↓gate_tt, ↓gate_ff, ↓gate_tf, ↓gate_ft, ↓gate_undef, ↓o_bind, ↓stay_v, ↓pop_cons, ↓fin_nil, Option.isNone_none, Option.isNone_some, Bool.not_true, Bool.not_false, Nat.zero_add, decide_true, decide_false, if_true, if_false, Bool.false_eq_true, ↓reduceIte, Int.toNat_natCast, Nat.mul_one]
      refine ld_cell hb1 ?_
      have hrd := hu3 n us[n] (P.S.view n) (List.getElem?_eq_getElem hun) (view_all (by omega))
      refine SameBytes_spec h (v := rv) (u := us[n]) (l := P.S.view n) (m := P.S.view n) (by rw [hpl]; exact Rds.own) hrd (by omega) fun w h => ?_
      simp only [decide_true, ↓o_nil, ↓o_field, ↓o_add, ↓o_sub, ↓o_mul, ↓o_lss, ↓o_leq, ↓o_gtr, ↓o_geq, ↓o_not, ↓o_pick, ↓o_eqInt, ↓o_neInt, ↓o_eqBool, ↓o_neBool, ↓o_eqPtr, ↓o_nePtr, ↓o_eqPtr', ↓o_eqSl, ↓o_neSl, ↓o_eqStr, ↓o_neStr, ↓o_len, ↓o_lenS, ↓o_min, ↓o_max, ↓o_extract, ↓o_convInt, ↓cd_true, ↓cd_false, ↓gate_tt, ↓gate_ff, ↓gate_tf, ↓gate_ft, ↓gate_undef, ↓o_bind, ↓stay_v, ↓pop_cons, ↓fin_nil, Option.isNone_none, Option.isNone_some, Bool.not_true, Bool.not_false, Nat.zero_add, decide_true, decide_false, if_true, if_false, Bool.false_eq_true, ↓reduceIte]
      rw [i64_of (by omega) (by omega)]
      obtain ⟨r1, r2, _, _⟩ := readP_same (P := Q) (n := n)
      exact hag (11 - (n + 1)) _ _ (by omega) ⟨n + 1, readP Q n, rfl, rfl, by omega, (fq.read n).more (by omega), by rw [r1]; exact hQS, by rw [r2]; exact hQd, h.drop⟩
    · refine Abort_spec h fun w h => ?_
      rw [hQd]
      simp only [List.length_nil, Int.natCast_zero, decide_true, ↓o_nil, ↓o_field, ↓o_add, ↓o_sub, ↓o_mul, ↓o_lss, ↓o_leq, ↓o_gtr, ↓o_geq, ↓o_not, ↓o_pick, ↓o_eqInt, ↓o_neInt, ↓o_eqBool, ↓o_neBool, ↓o_eqPtr, ↓o_nePtr, ↓o_eqPtr', ↓o_eqSl, ↓o_neSl, ↓o_eqStr, ↓o_neStr, ↓o_len, ↓o_lenS, ↓o_min, ↓o_max, ↓o_extract, ↓o_convInt, ↓cd_true, ↓cd_false, ↓gate_tt, ↓gate_ff, ↓gate_tf, ↓gate_ft, ↓gate_undef, ↓o_bind, ↓stay_v, ↓pop_cons, ↓fin_nil, Option.isNone_none, Option.isNone_some, Bool.not_true, Bool.not_false, Nat.zero_add, decide_true, decide_false, if_true, if_false, Bool.false_eq_true, ↓reduceIte]
      exact k w h.drop.drop.drop
  by_cases h1 : (i : Int) < (l.length : Int)
  · by_cases h2 : (i : Int) < 60
    · simp only [h1, h2, ↓o_nil, ↓o_field, ↓o_add, ↓o_sub, ↓o_mul, ↓o_lss, ↓o_leq, ↓o_gtr, ↓o_geq, ↓o_not, ↓o_pick, ↓o_eqInt, ↓o_neInt, ↓o_eqBool, ↓o_neBool, ↓o_eqPtr, ↓o_nePtr, ↓o_eqPtr', ↓o_eqSl, ↓o_neSl, ↓o_eqStr, ↓o_neStr, ↓o_len, ↓o_lenS, ↓o_min, ↓o_max, ↓o_extract, ↓o_convInt, ↓cd_true, ↓cd_false, ↓gate_tt, ↓gate_ff, ↓gate_tf, ↓gate_ft, ↓gate_undef, ↓o_bind, ↓stay_v, ↓pop_cons, ↓fin_nil, Option.isNone_none, Option.isNone_some, Bool.not_true, Bool.not_false, Nat.zero_add, decide_true, decide_false, if_true, if_false, Bool.false_eq_true, ↓reduceIte]
      have hlt : i < l.length := by omega
      refine jn_cut (fun σ w => ∃ (P' : Pg) (gs' : List (List Int)) (v' : Value) (vs' : List Value), σ = [v'] ∧ FarP P' gs' 10 4 (i + 1) ∧ sat E w (pgr A P' * (osl 30 1 v' P'.S.all.length vs' * (pers (immAll vs' P'.S.all) * H)))) ?_ ?_
      · intro kk hk
        have hrd : Rds (pgr A P * (osl 30 1 v P.S.all.length vs * (pers (immAll vs P.S.all) * H))) (.slice al l.length cl) l.length (l.flatMap dcells) := hl.right.right.right
        obtain ⟨b1, o1, rfl, _⟩ := win_cell (hrd.win h) (j := i * 4) (by omega)
        rw [o_index (by omega) (by omega)]
        simp only [Int.toNat_natCast, ↓o_nil, ↓o_field, ↓o_add, ↓o_sub, ↓o_mul, ↓o_lss, ↓o_leq, ↓o_gtr, ↓o_geq, ↓o_not, ↓o_pick, ↓o_eqInt, ↓o_neInt, ↓o_eqBool, ↓o_neBool, ↓o_eqPtr, ↓o_nePtr, ↓o_eqPtr', ↓o_eqSl, ↓o_neSl, ↓o_eqStr, ↓o_neStr, ↓o_len, ↓o_lenS, ↓o_min, ↓o_max, ↓o_extract, ↓o_convInt, ↓cd_true, ↓cd_false, ↓gate_tt, ↓gate_ff, ↓gate_tf, ↓gate_ft, ↓gate_undef, ↓o_bind, ↓stay_v, ↓pop_cons, ↓fin_nil, Option.isNone_none, Option.isNone_some, Bool.not_true, Bool.not_false, Nat.zero_add, decide_true, decide_false, if_true, if_false, Bool.false_eq_true, ↓reduceIte]
        refine ld_cell ((hrd.win h).cell b1 o1 rfl _ _ (dd_kind hlt)) ?_
        have hsame : FarP P gs 10 4 (i + 1) := f.more (by omega)
        by_cases e1 : l[i].kind = 1
        · simp only [e1, ↓o_nil, ↓o_field, ↓o_add, ↓o_sub, ↓o_mul, ↓o_lss, ↓o_leq, ↓o_gtr, ↓o_geq, ↓o_not, ↓o_pick, ↓o_eqInt, ↓o_neInt, ↓o_eqBool, ↓o_neBool, ↓o_eqPtr, ↓o_nePtr, ↓o_eqPtr', ↓o_eqSl, ↓o_neSl, ↓o_eqStr, ↓o_neStr, ↓o_len, ↓o_lenS, ↓o_min, ↓o_max, ↓o_extract, ↓o_convInt, ↓cd_true, ↓cd_false, ↓gate_tt, ↓gate_ff, ↓gate_tf, ↓gate_ft, ↓gate_undef, ↓o_bind, ↓stay_v, ↓pop_cons, ↓fin_nil, Option.isNone_none, Option.isNone_some, Bool.not_true, Bool.not_false, Nat.zero_add, decide_true, decide_false, if_true, if_false, Bool.false_eq_true, ↓reduceIte]
          have hrow := hs _ (List.getElem_mem hlt)
          have hw1 := wr_el (A := A) (P := P) f.ok h (R := osl 30 1 v P.S.all.length vs * (pers (immAll vs P.S.all) * H)) (al := some ⟨b1, o1, none⟩) (cl := cl) (l := l) hl.right.right (fun x hx => (hs x hx).right.right) hlt hm (J := fun w => kk [v] w)
          simp only [↓o_nil, ↓o_field, ↓o_add, ↓o_sub, ↓o_mul, ↓o_lss, ↓o_leq, ↓o_gtr, ↓o_geq, ↓o_not, ↓o_pick, ↓o_eqInt, ↓o_neInt, ↓o_eqBool, ↓o_neBool, ↓o_eqPtr, ↓o_nePtr, ↓o_eqPtr', ↓o_eqSl, ↓o_neSl, ↓o_eqStr, ↓o_neStr, ↓o_len, ↓o_lenS, ↓o_min, ↓o_max, ↓o_extract, ↓o_convInt, ↓cd_true, ↓cd_false, ↓gate_tt, ↓gate_ff, ↓gate_tf, ↓gate_ft, ↓gate_undef, ↓o_bind, ↓stay_v, ↓pop_cons, ↓fin_nil, Option.isNone_none, Option.isNone_some, Bool.not_true, Bool.not_false, Nat.zero_add, decide_true, decide_false, if_true, if_false, Bool.false_eq_true, ↓reduceIte] at hw1
          refine hw1 fun w h => ?_
          have e : (writeP P l[i].first l[i].row).S = P.S := writeP_S.1
          exact hk _ w ⟨_, gs, v, vs, rfl, f.write _ _, by rw [e]; exact h⟩
        · by_cases e2 : l[i].kind = 2
          · simp only [e1, e2, ↓o_nil, ↓o_field, ↓o_add, ↓o_sub, ↓o_mul, ↓o_lss, ↓o_leq, ↓o_gtr, ↓o_geq, ↓o_not, ↓o_pick, ↓o_eqInt, ↓o_neInt, ↓o_eqBool, ↓o_neBool, ↓o_eqPtr, ↓o_nePtr, ↓o_eqPtr', ↓o_eqSl, ↓o_neSl, ↓o_eqStr, ↓o_neStr, ↓o_len, ↓o_lenS, ↓o_min, ↓o_max, ↓o_extract, ↓o_convInt, ↓cd_true, ↓cd_false, ↓gate_tt, ↓gate_ff, ↓gate_tf, ↓gate_ft, ↓gate_undef, ↓o_bind, ↓stay_v, ↓pop_cons, ↓fin_nil, Option.isNone_none, Option.isNone_some, Bool.not_true, Bool.not_false, Nat.zero_add, decide_true, decide_false, if_true, if_false, Bool.false_eq_true, ↓reduceIte, show ¬ (2 : Int) = 1 by decide]
            refine PCommit_spec f.ok h (by omega) (by omega) fun w h => ?_
            obtain ⟨gs', f'⟩ := f.com
            by_cases he : comE P.S P.dirty = 0
            · simp only [he, ↓o_nil, ↓o_field, ↓o_add, ↓o_sub, ↓o_mul, ↓o_lss, ↓o_leq, ↓o_gtr, ↓o_geq, ↓o_not, ↓o_pick, ↓o_eqInt, ↓o_neInt, ↓o_eqBool, ↓o_neBool, ↓o_eqPtr, ↓o_nePtr, ↓o_eqPtr', ↓o_eqSl, ↓o_neSl, ↓o_eqStr, ↓o_neStr, ↓o_len, ↓o_lenS, ↓o_min, ↓o_max, ↓o_extract, ↓o_convInt, ↓cd_true, ↓cd_false, ↓gate_tt, ↓gate_ff, ↓gate_tf, ↓gate_ft, ↓gate_undef, ↓o_bind, ↓stay_v, ↓pop_cons, ↓fin_nil, Option.isNone_none, Option.isNone_some, Bool.not_true, Bool.not_false, Nat.zero_add, decide_true, decide_false, if_true, if_false, Bool.false_eq_true, ↓reduceIte]
              refine Log_spec h ?_
              refine PAll_spec f'.ok.i h (by rw [f'.pages]; omega) fun v2 vs2 w h => ?_
              have h := h.perm (show _ = osl 30 1 v P.S.all.length vs * (pers (immAll vs P.S.all) * (pgr A (comP P) * (osl 30 1 v2 (comP P).S.all.length vs2 * (pers (immAll vs2 (comP P).S.all) * H)))) by ac_rfl)
              exact hk _ w ⟨_, gs', v2, vs2, rfl, f', h.drop.drop⟩
            · simp only [he, ↓o_nil, ↓o_field, ↓o_add, ↓o_sub, ↓o_mul, ↓o_lss, ↓o_leq, ↓o_gtr, ↓o_geq, ↓o_not, ↓o_pick, ↓o_eqInt, ↓o_neInt, ↓o_eqBool, ↓o_neBool, ↓o_eqPtr, ↓o_nePtr, ↓o_eqPtr', ↓o_eqSl, ↓o_neSl, ↓o_eqStr, ↓o_neStr, ↓o_len, ↓o_lenS, ↓o_min, ↓o_max, ↓o_extract, ↓o_convInt, ↓cd_true, ↓cd_false, ↓gate_tt, ↓gate_ff, ↓gate_tf, ↓gate_ft, ↓gate_undef, ↓o_bind, ↓stay_v, ↓pop_cons, ↓fin_nil, Option.isNone_none, Option.isNone_some, Bool.not_true, Bool.not_false, Nat.zero_add, decide_true, decide_false, if_true, if_false, Bool.false_eq_true, ↓reduceIte]
              have e : (comP P).S.all = P.S.all := com_all f.ok.i he
              exact hk _ w ⟨_, gs', v, vs, rfl, f', by rw [e]; exact h⟩
          · simp only [e1, e2, ↓o_nil, ↓o_field, ↓o_add, ↓o_sub, ↓o_mul, ↓o_lss, ↓o_leq, ↓o_gtr, ↓o_geq, ↓o_not, ↓o_pick, ↓o_eqInt, ↓o_neInt, ↓o_eqBool, ↓o_neBool, ↓o_eqPtr, ↓o_nePtr, ↓o_eqPtr', ↓o_eqSl, ↓o_neSl, ↓o_eqStr, ↓o_neStr, ↓o_len, ↓o_lenS, ↓o_min, ↓o_max, ↓o_extract, ↓o_convInt, ↓cd_true, ↓cd_false, ↓gate_tt, ↓gate_ff, ↓gate_tf, ↓gate_ft, ↓gate_undef, ↓o_bind, ↓stay_v, ↓pop_cons, ↓fin_nil, Option.isNone_none, Option.isNone_some, Bool.not_true, Bool.not_false, Nat.zero_add, decide_true, decide_false, if_true, if_false, Bool.false_eq_true, ↓reduceIte]
            exact hk _ w ⟨_, gs, v, vs, rfl, hsame, h⟩
      · rintro σ w ⟨P', gs', v', vs', rfl, f', h⟩
        try simp only [↓o_nil, ↓o_field, ↓o_add, ↓o_sub, ↓o_mul, ↓o_lss, ↓o_leq, ↓o_gtr, ↓o_geq, ↓o_not, ↓o_pick, ↓o_eqInt, ↓o_neInt, ↓o_eqBool, ↓o_neBool, ↓o_eqPtr, ↓o_nePtr, ↓o_eqPtr', ↓o_eqSl, ↓o_neSl, ↓o_eqStr, ↓o_neStr, ↓o_len, ↓o_lenS, ↓o_min, ↓o_max, ↓o_extract, ↓o_convInt, ↓cd_true, ↓cd_false, ↓gate_tt, ↓gate_ff, ↓gate_tf, ↓gate_ft, ↓gate_undef, ↓o_bind, ↓stay_v, ↓pop_cons, ↓fin_nil, Option.isNone_none, Option.isNone_some, Bool.not_true, Bool.not_false, Nat.zero_add, decide_true, decide_false, if_true, if_false, Bool.false_eq_true, ↓reduceIte]
        rw [i64_of (by omega) (by omega)]
        exact hag (60 - (i + 1)) _ _ (by omega) ⟨i + 1, P', gs', v', vs', rfl, rfl, by omega, f', h⟩
    · simp only [h1, h2, ↓o_nil, ↓o_field, ↓o_add, ↓o_sub, ↓o_mul, ↓o_lss, ↓o_leq, ↓o_gtr, ↓o_geq, ↓o_not, ↓o_pick, ↓o_eqInt, ↓o_neInt, ↓o_eqBool, ↓o_neBool, ↓o_eqPtr, ↓o_nePtr, ↓o_eqPtr', ↓o_eqSl, ↓o_neSl, ↓o_eqStr, ↓o_neStr, ↓o_len, ↓o_lenS, ↓o_min, ↓o_max, ↓o_extract, ↓o_convInt, ↓cd_true, ↓cd_false, ↓gate_tt, ↓gate_ff, ↓gate_tf, ↓gate_ft, ↓gate_undef, ↓o_bind, ↓stay_v, ↓pop_cons, ↓fin_nil, Option.isNone_none, Option.isNone_some, Bool.not_true, Bool.not_false, Nat.zero_add, decide_true, decide_false, if_true, if_false, Bool.false_eq_true, ↓reduceIte]
      exact hend w h
  · simp only [h1, ↓o_nil, ↓o_field, ↓o_add, ↓o_sub, ↓o_mul, ↓o_lss, ↓o_leq, ↓o_gtr, ↓o_geq, ↓o_not, ↓o_pick, ↓o_eqInt, ↓o_neInt, ↓o_eqBool, ↓o_neBool, ↓o_eqPtr, ↓o_nePtr, ↓o_eqPtr', ↓o_eqSl, ↓o_neSl, ↓o_eqStr, ↓o_neStr, ↓o_len, ↓o_lenS, ↓o_min, ↓o_max, ↓o_extract, ↓o_convInt, ↓cd_true, ↓cd_false, ↓gate_tt, ↓gate_ff, ↓gate_tf, ↓gate_ft, ↓gate_undef, ↓o_bind, ↓stay_v, ↓pop_cons, ↓fin_nil, Option.isNone_none, Option.isNone_some, Bool.not_true, Bool.not_false, Nat.zero_add, decide_true, decide_false, if_true, if_false, Bool.false_eq_true, ↓reduceIte]
    exact hend w h
end Go.Proofs.YtcjklbhobmkalaaGreat.Aborts
