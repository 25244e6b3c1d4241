/-
  TopPages: the walk.
-/
import Derived.Test.YtcjklbhobmkalaaPagP
set_option linter.all false
set_option maxRecDepth 100000
namespace Go.Proofs.Ytcjklbhobmkalaa.Pages
open Go Hold Go.ChangeShapes Go.WideShapes Go.ChangeAt Go.RowKit
variable {E : World0} {w : World} {H R : HP} {K : Value → World → Prop}
theorem Pages_end {A : Ad} {P : Pg} {gs : List (List Int)} {want : Bs} {i wb : Nat} (kp : Kept P gs want i) (hi : i ≤ 12) (h : sat E w (pts wb (.cells (want.map bv).toArray 5 (0, 0)) * (pgr A P * H))) (k : ∀ w', sat E w' H → K (.bool true) w') : (
    lp (fun σ w again_90 => pop σ fun n_89 σ => fin σ <|
      pvv prog (binOp .lss 3 n_89 (.int .i64 39)) w fun t_91 w =>
      cd t_91 (
        Calls prog 14 #[(.pointer (some ⟨A.q, 0, none⟩)), n_89] w (Ret fun t_92 w =>
        pvv prog (Instr.extract t_92 0) w fun t_93 w =>
        pvv prog (Instr.extract t_92 1) w fun t_94 w =>
        dr w fun w =>
        pvv prog (oEq .neq 24 (.tmp 160) (.const (.int .i64 0)) t_94 (.int .i64 0)) w fun t_95 w =>
        gate (some (t_95, false)) (fun K => K t_93 w) w fun t_96 w =>
        gate (some (t_95, false)) (fun K => pv prog (oBi .len #[33] 3 #[false] #[t_96]) w K) w fun t_97 w =>
        gate (some (t_95, false)) (fun K => pvv prog (oEq .neq 3 (.tmp 164) (.const (.int .i64 256)) t_97 (.int .i64 256)) w K) w fun t_98 w =>
        pv prog (oPick t_95 (.bool true) t_98) w fun t_99 w =>
        gate (some (t_99, false)) (fun K => K t_93 w) w fun t_100 w =>
        gate (some (t_99, false)) (fun K => pvv prog (Instr.indexAt 33 t_100 (.int .i64 7)) w K) w fun t_101 w =>
        gate (some (t_99, false)) (fun K => K (.slice (some ⟨wb, 0, none⟩) 39 39) w) w fun t_102 w =>
        gate (some (t_99, false)) (fun K => K n_89 w) w fun t_103 w =>
        gate (some (t_99, false)) (fun K => pvv prog (Instr.indexAt 33 t_102 t_103) w K) w fun t_104 w =>
        bindS (vN (Instr.loadAt 5 t_101)) fun m_106 => gate (some (t_99, false)) (fun K => ldv prog (Instr.loadAt 5 t_101) w K) w fun t_105 w =>
        bindS (vN (Instr.loadAt 5 t_104)) fun m_108 => gate (some (t_99, false)) (fun K => ldv prog (Instr.loadAt 5 t_104) w K) w fun t_107 w =>
        gate (some (t_99, false)) (fun K => pvv prog (oEq .neq 5 (.tmp 170) (.tmp 174) t_105 t_107) w K) w fun t_109 w =>
        pv prog (oPick t_99 (.bool true) t_109) w fun t_110 w =>
        cd t_110 (
          K (.bool false) w) <|
        pvv prog (binOp .add 3 n_89 (.int .i64 1)) w fun t_111 w =>
        again_90 [t_111] w)) <|
      K (.bool true) w) [(.int .i64 0)] w) := by
  have hpg := kp.pages
  have hwl := kp.wl; have h0 := kp.h0; have m0 := kp.m0
  refine lp_nat (fun q σ w => ∃ (n : Nat) (Q : Pg), σ = [.int .i64 n] ∧ q = 39 - n ∧ n ≤ 39 ∧ POk Q gs ∧ Q.S = P.S ∧ Q.dirty = [] ∧ Q.hits ≤ n ∧ Q.misses ≤ n ∧ sat E w (pts wb (.cells (want.map bv).toArray 5 (0, 0)) * (pgr A Q * H))) 39 ⟨0, P, rfl, rfl, by omega, kp.ok, rfl, kp.d, by omega, by omega, h⟩ ?_
  clear h
  rintro q σ w again ⟨n, Q, rfl, rfl, hn, okq, hQS, hQd, hh, hms, h⟩ hag
  try simp only [↓o_nil, ↓o_field, ↓o_add, ↓o_sub, ↓o_mul, ↓o_lss, ↓o_leq, ↓o_gtr, ↓o_geq, ↓o_not, ↓o_pick, ↓o_eqInt, ↓o_neInt, ↓o_eqBool, ↓o_neBool, ↓o_eqPtr, ↓o_nePtr, ↓o_eqPtr', ↓o_eqSl, ↓o_neSl, ↓o_eqStr, ↓o_neStr, ↓o_len, ↓o_lenS, ↓o_min, ↓o_max, ↓o_extract, ↓o_convInt, ↓cd_true, ↓cd_false, ↓gate_tt, ↓gate_ff, ↓gate_tf, ↓gate_ft, ↓gate_undef, ↓o_bind, ↓stay_v, ↓pop_cons, ↓fin_nil, Option.isNone_none, Option.isNone_some, Bool.not_true, Bool.not_false, Nat.zero_add, decide_true, decide_false, if_true, if_false, Bool.false_eq_true, ↓reduceIte]
  refine cd_dec (fun hlt => ?_) (fun hge => k w h.drop.drop)
  have hlt : n < 39 := by omega
  refine PRead_spec okq (h.perm (star_left_comm _ _ _)) (n := n) (by rw [hQS]; omega) (by omega) (by omega) fun rv w ok2 h => ?_
  have hpage : Q.page n = P.S.view n := by unfold Pg.page; rw [hQd, hQS]; rfl
  obtain ⟨r1, r2, _, _⟩ := readP_same (P := Q) (n := n)
  obtain ⟨c1, c2⟩ := counts_le (P := Q) (n := n)
  have hvl := view_len kp.ok.i (n := n) (by omega)
  have hv7 := kp.v n hlt
  rw [hpage] at h
  try simp only [↓o_nil, ↓o_field, ↓o_add, ↓o_sub, ↓o_mul, ↓o_lss, ↓o_leq, ↓o_gtr, ↓o_geq, ↓o_not, ↓o_pick, ↓o_eqInt, ↓o_neInt, ↓o_eqBool, ↓o_neBool, ↓o_eqPtr, ↓o_nePtr, ↓o_eqPtr', ↓o_eqSl, ↓o_neSl, ↓o_eqStr, ↓o_neStr, ↓o_len, ↓o_lenS, ↓o_min, ↓o_max, ↓o_extract, ↓o_convInt, ↓cd_true, ↓cd_false, ↓gate_tt, ↓gate_ff, ↓gate_tf, ↓gate_ft, ↓gate_undef, ↓o_bind, ↓stay_v, ↓pop_cons, ↓fin_nil, Option.isNone_none, Option.isNone_some, Bool.not_true, Bool.not_false, Nat.zero_add, decide_true, decide_false, if_true, if_false, Bool.false_eq_true, ↓reduceIte]
  refine dr_sl h fun w h _ => ?_
  obtain ⟨ar, cr, rfl, hcr, _, _⟩ := osl_shape h
  simp only [↓o_nil, ↓o_field, ↓o_add, ↓o_sub, ↓o_mul, ↓o_lss, ↓o_leq, ↓o_gtr, ↓o_geq, ↓o_not, ↓o_pick, ↓o_eqInt, ↓o_neInt, ↓o_eqBool, ↓o_neBool, ↓o_eqPtr, ↓o_nePtr, ↓o_eqPtr', ↓o_eqSl, ↓o_neSl, ↓o_eqStr, ↓o_neStr, ↓o_len, ↓o_lenS, ↓o_min, ↓o_max, ↓o_extract, ↓o_convInt, ↓cd_true, ↓cd_false, ↓gate_tt, ↓gate_ff, ↓gate_tf, ↓gate_ft, ↓gate_undef, ↓o_bind, ↓stay_v, ↓pop_cons, ↓fin_nil, Option.isNone_none, Option.isNone_some, Bool.not_true, Bool.not_false, Nat.zero_add, decide_true, decide_false, if_true, if_false, Bool.false_eq_true, ↓reduceIte, show ((256 : Nat) : Int) = 256 from rfl, decide_true]
  obtain ⟨b5, o5, rfl, hb5⟩ := win_cell ((Rds.osl).win h.drop') (j := 7) (by rw [List.length_map]; omega)
  rw [o_index (by omega) (by omega)]
  simp only [↓o_nil, ↓o_field, ↓o_add, ↓o_sub, ↓o_mul, ↓o_lss, ↓o_leq, ↓o_gtr, ↓o_geq, ↓o_not, ↓o_pick, ↓o_eqInt, ↓o_neInt, ↓o_eqBool, ↓o_neBool, ↓o_eqPtr, ↓o_nePtr, ↓o_eqPtr', ↓o_eqSl, ↓o_neSl, ↓o_eqStr, ↓o_neStr, ↓o_len, ↓o_lenS, ↓o_min, ↓o_max, ↓o_extract, ↓o_convInt, ↓cd_true, ↓cd_false, ↓gate_tt, ↓gate_ff, ↓gate_tf, ↓gate_ft, ↓gate_undef, ↓o_bind, ↓stay_v, ↓pop_cons, ↓fin_nil, Option.isNone_none, Option.isNone_some, Bool.not_true, Bool.not_false, Nat.zero_add, decide_true, decide_false, if_true, if_false, Bool.false_eq_true, ↓reduceIte, show (7 : Int).toNat = 7 from rfl, Nat.mul_one]
  rw [o_index (by omega) (by omega)]
  simp only [↓o_nil, ↓o_field, ↓o_add, ↓o_sub, ↓o_mul, ↓o_lss, ↓o_leq, ↓o_gtr, ↓o_geq, ↓o_not, ↓o_pick, ↓o_eqInt, ↓o_neInt, ↓o_eqBool, ↓o_neBool, ↓o_eqPtr, ↓o_nePtr, ↓o_eqPtr', ↓o_eqSl, ↓o_neSl, ↓o_eqStr, ↓o_neStr, ↓o_len, ↓o_lenS, ↓o_min, ↓o_max, ↓o_extract, ↓o_convInt, ↓cd_true, ↓cd_false, ↓gate_tt, ↓gate_ff, ↓gate_tf, ↓gate_ft, ↓gate_undef, ↓o_bind, ↓stay_v, ↓pop_cons, ↓fin_nil, Option.isNone_none, Option.isNone_some, Bool.not_true, Bool.not_false, Nat.zero_add, decide_true, decide_false, if_true, if_false, Bool.false_eq_true, ↓reduceIte, Int.toNat_natCast, Nat.mul_one, Nat.zero_add]
  rw [List.getElem_map] at hb5
  have hw1 : want[n]? = some ((P.S.view n)[7]'(by omega)) := by rw [← hv7, List.getElem?_eq_getElem]
  refine ld_cell hb5 (ld_in (b := wb) (v := bv ((P.S.view n)[7]'(by omega))) h (by rw [List.getElem?_map, hw1]; rfl) ?_)
  simp only [bv, decide_true, ↓o_nil, ↓o_field, ↓o_add, ↓o_sub, ↓o_mul, ↓o_lss, ↓o_leq, ↓o_gtr, ↓o_geq, ↓o_not, ↓o_pick, ↓o_eqInt, ↓o_neInt, ↓o_eqBool, ↓o_neBool, ↓o_eqPtr, ↓o_nePtr, ↓o_eqPtr', ↓o_eqSl, ↓o_neSl, ↓o_eqStr, ↓o_neStr, ↓o_len, ↓o_lenS, ↓o_min, ↓o_max, ↓o_extract, ↓o_convInt, ↓cd_true, ↓cd_false, ↓gate_tt, ↓gate_ff, ↓gate_tf, ↓gate_ft, ↓gate_undef, ↓o_bind, ↓stay_v, ↓pop_cons, ↓fin_nil, Option.isNone_none, Option.isNone_some, Bool.not_true, Bool.not_false, Nat.zero_add, decide_true, decide_false, if_true, if_false, Bool.false_eq_true, ↓reduceIte]
  rw [i64_of (by omega) (by omega)]
  exact hag (39 - (n + 1)) _ _ (by omega) ⟨n + 1, _, rfl, rfl, by omega, ok2, by rw [r1]; exact hQS, by rw [r2]; exact hQd, by omega, by omega, (h.drop).perm (star_left_comm _ _ _)⟩
theorem Pages_last {A : Ad} {P Q : Pg} {gs gs0 : List (List Int)} {want w0 : Bs} {i kk wb : Nat} (kp : Kept P gs0 w0 i) (hi : i < 12) (inn : In P Q gs want kk) (hkk : kk ≤ 15) (h : sat E w (pts wb (.cells (want.map bv).toArray 5 (0, 0)) * (pgr A Q * H)))
    {again : List Value → World → Prop} (hag : ∀ A2 Q2 gs' w, Kept Q2 gs' want (i + 1) → sat E w (pts wb (.cells (want.map bv).toArray 5 (0, 0)) * (pgr A2 Q2 * H)) → again [.pointer (some ⟨A2.q, 0, none⟩), .int .i64 ((i : Int) + 1)] w) : (
        Calls prog 11 #[(.pointer (some ⟨A.q, 0, none⟩))] w (Ret fun t_52 w =>
        pv prog (oBi .len #[38] 3 #[false] #[t_52]) w fun t_53 w =>
        Calls prog 12 #[(.pointer (some ⟨A.q, 0, none⟩))] w (Ret fun t_54 w =>
        pvv prog (oEq .neq 24 (.tmp 103) (.const (.int .i64 0)) t_54 (.int .i64 0)) w fun t_55 w =>
        cd t_55 (
          K (.bool false) w) <|
        Calls prog 7 #[(.pointer (some ⟨A.q, 0, none⟩))] w (Ret fun t_56 w =>
        Calls prog 8 #[t_56] w (Ret fun t_57 w =>
        Calls prog 9 #[t_57] w (Ret fun t_58 w =>
        pvv prog (binOp .sub 3 t_58 (.int .i64 0)) w fun t_59 w =>
        pvv prog (binOp .gtr 3 t_53 (.int .i64 0)) w fun t_60 w =>
        gate (some (t_60, true)) (fun K => K t_59 w) w fun t_61 w =>
        gate (some (t_60, true)) (fun K => K t_53 w) w fun t_62 w =>
        gate (some (t_60, true)) (fun K => pvv prog (binOp .add 3 t_62 (.int .i64 2)) w K) w fun t_63 w =>
        gate (some (t_60, true)) (fun K => pvv prog (binOp .lss 3 t_61 t_63) w K) w fun t_64 w =>
        pv prog (oPick t_60 t_64 (.bool false)) w fun t_65 w =>
        gate (some (t_65, false)) (fun K => K t_53 w) w fun t_66 w =>
        gate (some (t_65, false)) (fun K => pvv prog (oEq .eql 3 (.tmp 120) (.const (.int .i64 0)) t_66 (.int .i64 0)) w K) w fun t_67 w =>
        gate (some (t_65, false)) (fun K => K t_67 w) w fun t_68 w =>
        gate (some (t_68, true)) (fun K => K t_59 w) w fun t_69 w =>
        gate (some (t_68, true)) (fun K => pvv prog (oEq .neq 3 (.tmp 123) (.const (.int .i64 0)) t_69 (.int .i64 0)) w K) w fun t_70 w =>
        gate (some (t_65, false)) (fun K => pv prog (oPick t_68 t_70 (.bool false)) w K) w fun t_71 w =>
        pv prog (oPick t_65 (.bool true) t_71) w fun t_72 w =>
        cd t_72 (
          K (.bool false) w) <|
        Calls prog 7 #[(.pointer (some ⟨A.q, 0, none⟩))] w (Ret fun t_73 w =>
        Calls prog 8 #[t_73] w (Ret fun t_74 w =>
        Calls prog 7 #[(.pointer (some ⟨A.q, 0, none⟩))] w (Ret fun t_75 w =>
        Calls prog 8 #[t_75] w (Ret fun t_76 w =>
        Calls prog 9 #[t_76] w (Ret fun t_77 w =>
        Calls prog 13 #[t_74, t_77] w (Ret fun t_78 w =>
        pvv prog (Instr.extract t_78 0) w fun t_79 w =>
        pvv prog (Instr.extract t_78 1) w fun t_80 w =>
        Calls prog 5 #[t_79, (.int .i64 20)] w (Ret fun t_81 w =>
        pvv prog (Instr.extract t_81 0) w fun t_82 w =>
        pvv prog (Instr.extract t_81 1) w fun t_83 w =>
        pvv prog (oEq .neq 24 (.tmp 143) (.const (.int .i64 0)) t_83 (.int .i64 0)) w fun t_84 w =>
        cd t_84 (
          K (.bool false) w) <|
        Calls prog 6 #[t_82, (.int .i64 2)] w (Ret fun t_85 w =>
        pvv prog (Instr.extract t_85 0) w fun t_86 w =>
        pvv prog (Instr.extract t_85 1) w fun t_87 w =>
        pvv prog (binOp .add 3 (.int .i64 i) (.int .i64 1)) w fun t_88 w =>
        again [t_86, t_88] w)))))))))))))) := by
  have hW := kp.w; have hgr := kp.g
  obtain ⟨c1, c2, c3, c4, c5, c6, c7, c8⟩ := inn.com kp hkk
  obtain ⟨gs', iT, kp'⟩ := inn.next kp hkk
  have hQW : Q.S.W.length = 0 := by rw [inn.s, hW]; rfl
  have hQg : Q.S.groups ≤ 12 := by rw [inn.s]; omega
  refine Dirty_spec inn.ok (h.perm (star_left_comm _ _ _)) fun u w h => ?_
  obtain ⟨au, cu, rfl, _, _, _⟩ := osl_shape h
  simp only [↓o_nil, ↓o_field, ↓o_add, ↓o_sub, ↓o_mul, ↓o_lss, ↓o_leq, ↓o_gtr, ↓o_geq, ↓o_not, ↓o_pick, ↓o_eqInt, ↓o_neInt, ↓o_eqBool, ↓o_neBool, ↓o_eqPtr, ↓o_nePtr, ↓o_eqPtr', ↓o_eqSl, ↓o_neSl, ↓o_eqStr, ↓o_neStr, ↓o_len, ↓o_lenS, ↓o_min, ↓o_max, ↓o_extract, ↓o_convInt, ↓cd_true, ↓cd_false, ↓gate_tt, ↓gate_ff, ↓gate_tf, ↓gate_ft, ↓gate_undef, ↓o_bind, ↓stay_v, ↓pop_cons, ↓fin_nil, Option.isNone_none, Option.isNone_some, Bool.not_true, Bool.not_false, Nat.zero_add, decide_true, decide_false, if_true, if_false, Bool.false_eq_true, ↓reduceIte]
  have h := h.drop
  refine PCommit_spec inn.ok h (by omega) (by omega) fun w h => ?_
  rw [c1]
  simp only [↓o_nil, ↓o_field, ↓o_add, ↓o_sub, ↓o_mul, ↓o_lss, ↓o_leq, ↓o_gtr, ↓o_geq, ↓o_not, ↓o_pick, ↓o_eqInt, ↓o_neInt, ↓o_eqBool, ↓o_neBool, ↓o_eqPtr, ↓o_nePtr, ↓o_eqPtr', ↓o_eqSl, ↓o_neSl, ↓o_eqStr, ↓o_neStr, ↓o_len, ↓o_lenS, ↓o_min, ↓o_max, ↓o_extract, ↓o_convInt, ↓cd_true, ↓cd_false, ↓gate_tt, ↓gate_ff, ↓gate_tf, ↓gate_ft, ↓gate_undef, ↓o_bind, ↓stay_v, ↓pop_cons, ↓fin_nil, Option.isNone_none, Option.isNone_some, Bool.not_true, Bool.not_false, Nat.zero_add, decide_true, decide_false, if_true, if_false, Bool.false_eq_true, ↓reduceIte]
  have hcS : (comP Q).S = comS Q.S Q.dirty := rfl
  refine Log_spec h ?_
  refine PDisk_spec h (by rw [hcS]; omega) (by rw [hcS]; omega) fun f w h => ?_
  refine Count_spec h ?_
  have h := h.drop
  have hdl := inn.dl
  rw [hcS]
  generalize hTT : comS Q.S Q.dirty = T at c2 c3 c4 c5 c6 c7 c8 iT kp' hcS ⊢
  simp only [↓o_nil, ↓o_field, ↓o_add, ↓o_sub, ↓o_mul, ↓o_lss, ↓o_leq, ↓o_gtr, ↓o_geq, ↓o_not, ↓o_pick, ↓o_eqInt, ↓o_neInt, ↓o_eqBool, ↓o_neBool, ↓o_eqPtr, ↓o_nePtr, ↓o_eqPtr', ↓o_eqSl, ↓o_neSl, ↓o_eqStr, ↓o_neStr, ↓o_len, ↓o_lenS, ↓o_min, ↓o_max, ↓o_extract, ↓o_convInt, ↓cd_true, ↓cd_false, ↓gate_tt, ↓gate_ff, ↓gate_tf, ↓gate_ft, ↓gate_undef, ↓o_bind, ↓stay_v, ↓pop_cons, ↓fin_nil, Option.isNone_none, Option.isNone_some, Bool.not_true, Bool.not_false, Nat.zero_add, decide_true, decide_false, if_true, if_false, Bool.false_eq_true, ↓reduceIte]
  rw [i64_of (n := (T.W.length : Int) - 0) (by omega) (by omega)]
  have htest : ∀ {A' : Prop}, (Q.dirty.length = 0 → A') → (Q.dirty.length ≠ 0 → A') → A' := fun a b => by
    by_cases e : Q.dirty.length = 0
    · exact a e
    · exact b e
  have hgo : (
        Calls prog 7 #[(.pointer (some ⟨A.q, 0, none⟩))] w (Ret fun t_73 w =>
        Calls prog 8 #[t_73] w (Ret fun t_74 w =>
        Calls prog 7 #[(.pointer (some ⟨A.q, 0, none⟩))] w (Ret fun t_75 w =>
        Calls prog 8 #[t_75] w (Ret fun t_76 w =>
        Calls prog 9 #[t_76] w (Ret fun t_77 w =>
        Calls prog 13 #[t_74, t_77] w (Ret fun t_78 w =>
        pvv prog (Instr.extract t_78 0) w fun t_79 w =>
        pvv prog (Instr.extract t_78 1) w fun t_80 w =>
        Calls prog 5 #[t_79, (.int .i64 20)] w (Ret fun t_81 w =>
        pvv prog (Instr.extract t_81 0) w fun t_82 w =>
        pvv prog (Instr.extract t_81 1) w fun t_83 w =>
        pvv prog (oEq .neq 24 (.tmp 143) (.const (.int .i64 0)) t_83 (.int .i64 0)) w fun t_84 w =>
        cd t_84 (
          K (.bool false) w) <|
        Calls prog 6 #[t_82, (.int .i64 2)] w (Ret fun t_85 w =>
        pvv prog (Instr.extract t_85 0) w fun t_86 w =>
        pvv prog (Instr.extract t_85 1) w fun t_87 w =>
        pvv prog (binOp .add 3 (.int .i64 i) (.int .i64 1)) w fun t_88 w =>
        again [t_86, t_88] w))))))))) := by
    refine Log_spec h ?_
    refine PDisk_spec h (by rw [hcS]; omega) (by rw [hcS]; omega) fun f1 w h => ?_
    have h := h.perm (star_left_comm _ _ _)
    refine Log_spec h ?_
    refine PDisk_spec h (by rw [hcS]; omega) (by rw [hcS]; omega) fun f2 w h => ?_
    rw [hcS] at h
    refine Count_spec h ?_
    have h := h.drop.perm (star_left_comm _ _ _)
    refine Cut_spec h iT.wf (by omega) (n := T.W.length) (Nat.le_refl _) fun d3 w h => ?_
    simp only [↓o_nil, ↓o_field, ↓o_add, ↓o_sub, ↓o_mul, ↓o_lss, ↓o_leq, ↓o_gtr, ↓o_geq, ↓o_not, ↓o_pick, ↓o_eqInt, ↓o_neInt, ↓o_eqBool, ↓o_neBool, ↓o_eqPtr, ↓o_nePtr, ↓o_eqPtr', ↓o_eqSl, ↓o_neSl, ↓o_eqStr, ↓o_neStr, ↓o_len, ↓o_lenS, ↓o_min, ↓o_max, ↓o_extract, ↓o_convInt, ↓cd_true, ↓cd_false, ↓gate_tt, ↓gate_ff, ↓gate_tf, ↓gate_ft, ↓gate_undef, ↓o_bind, ↓stay_v, ↓pop_cons, ↓fin_nil, Option.isNone_none, Option.isNone_some, Bool.not_true, Bool.not_false, Nat.zero_add, decide_true, decide_false, if_true, if_false, Bool.false_eq_true, ↓reduceIte]
    have i2 := kp'.ok.i
    have wf2 : Wf (ofL T T.L).L [] := i2.wf
    have h : sat E w (dsk d3 (ofL T T.L).L [] * (dsk f1 T.L T.W * (pgr A (comP Q) * (pts wb (.cells (want.map bv).toArray 5 (0, 0)) * H)))) := by
      rw [List.drop_length] at h
      exact h
    have hs20 : (ofL T T.L).size = 20 := c8
    rw [show (Value.int .i64 20) = Value.int .i64 (((ofL T T.L).size : Nat) : Int) by rw [hs20]; rfl]
    refine Open_spec (S := ofL T T.L) i2 rfl (by show T.groups < 2 ^ 62; omega) (dd := d3) (W := []) h wf2 fun p2 d2 b2 w h => ?_
    simp only [↓o_nil, ↓o_field, ↓o_add, ↓o_sub, ↓o_mul, ↓o_lss, ↓o_leq, ↓o_gtr, ↓o_geq, ↓o_not, ↓o_pick, ↓o_eqInt, ↓o_neInt, ↓o_eqBool, ↓o_neBool, ↓o_eqPtr, ↓o_nePtr, ↓o_eqPtr', ↓o_eqSl, ↓o_neSl, ↓o_eqStr, ↓o_neStr, ↓o_len, ↓o_lenS, ↓o_min, ↓o_max, ↓o_extract, ↓o_convInt, ↓cd_true, ↓cd_false, ↓gate_tt, ↓gate_ff, ↓gate_tf, ↓gate_ft, ↓gate_undef, ↓o_bind, ↓stay_v, ↓pop_cons, ↓fin_nil, Option.isNone_none, Option.isNone_some, Bool.not_true, Bool.not_false, Nat.zero_add, decide_true, decide_false, if_true, if_false, Bool.false_eq_true, ↓reduceIte]
    refine PNew_spec (most := 2) h (by omega) (by omega) fun A2 w hA2 h => ?_
    simp only [↓o_nil, ↓o_field, ↓o_add, ↓o_sub, ↓o_mul, ↓o_lss, ↓o_leq, ↓o_gtr, ↓o_geq, ↓o_not, ↓o_pick, ↓o_eqInt, ↓o_neInt, ↓o_eqBool, ↓o_neBool, ↓o_eqPtr, ↓o_nePtr, ↓o_eqPtr', ↓o_eqSl, ↓o_neSl, ↓o_eqStr, ↓o_neStr, ↓o_len, ↓o_lenS, ↓o_min, ↓o_max, ↓o_extract, ↓o_convInt, ↓cd_true, ↓cd_false, ↓gate_tt, ↓gate_ff, ↓gate_tf, ↓gate_ft, ↓gate_undef, ↓o_bind, ↓stay_v, ↓pop_cons, ↓fin_nil, Option.isNone_none, Option.isNone_some, Bool.not_true, Bool.not_false, Nat.zero_add, decide_true, decide_false, if_true, if_false, Bool.false_eq_true, ↓reduceIte]
    rw [i64_of (n := (i : Int) + 1) (by omega) (by omega)]
    have h := (h.perm (show _ = (dsk d3 (ofL T T.L).L [] * (dsk f1 T.L T.W * pgr A (comP Q))) * (pts wb (.cells (want.map bv).toArray 5 (0, 0)) * (pgr A2 (newP (ofL T T.L) 2) * H)) by ac_rfl)).drop
    exact hag A2 _ gs' w kp' h
  simp only [↓o_nil, ↓o_field, ↓o_add, ↓o_sub, ↓o_mul, ↓o_lss, ↓o_leq, ↓o_gtr, ↓o_geq, ↓o_not, ↓o_pick, ↓o_eqInt, ↓o_neInt, ↓o_eqBool, ↓o_neBool, ↓o_eqPtr, ↓o_nePtr, ↓o_eqPtr', ↓o_eqSl, ↓o_neSl, ↓o_eqStr, ↓o_neStr, ↓o_len, ↓o_lenS, ↓o_min, ↓o_max, ↓o_extract, ↓o_convInt, ↓cd_true, ↓cd_false, ↓gate_tt, ↓gate_ff, ↓gate_tf, ↓gate_ft, ↓gate_undef, ↓o_bind, ↓stay_v, ↓pop_cons, ↓fin_nil, Option.isNone_none, Option.isNone_some, Bool.not_true, Bool.not_false, Nat.zero_add, decide_true, decide_false, if_true, if_false, Bool.false_eq_true, ↓reduceIte] at hgo
  refine htest (fun e => ?_) (fun e => ?_)
  · have e1 : ((T.W.length : Nat) : Int) - 0 = 0 := by have := c2 e; omega
    simp only [e, Int.natCast_zero, show ¬ (0 : Int) < 0 by omega, e1, decide_true, ↓o_nil, ↓o_field, ↓o_add, ↓o_sub, ↓o_mul, ↓o_lss, ↓o_leq, ↓o_gtr, ↓o_geq, ↓o_not, ↓o_pick, ↓o_eqInt, ↓o_neInt, ↓o_eqBool, ↓o_neBool, ↓o_eqPtr, ↓o_nePtr, ↓o_eqPtr', ↓o_eqSl, ↓o_neSl, ↓o_eqStr, ↓o_neStr, ↓o_len, ↓o_lenS, ↓o_min, ↓o_max, ↓o_extract, ↓o_convInt, ↓cd_true, ↓cd_false, ↓gate_tt, ↓gate_ff, ↓gate_tf, ↓gate_ft, ↓gate_undef, ↓o_bind, ↓stay_v, ↓pop_cons, ↓fin_nil, Option.isNone_none, Option.isNone_some, Bool.not_true, Bool.not_false, Nat.zero_add, decide_true, decide_false, if_true, if_false, Bool.false_eq_true, ↓reduceIte]
    exact hgo
  · have e1 : (0 : Int) < (Q.dirty.length : Int) := by omega
    have e2 : ¬ ((T.W.length : Nat) : Int) - 0 < (Q.dirty.length : Int) + 2 := by rw [if_neg e] at c3; omega
    have e3 : ¬ (Q.dirty.length : Int) = 0 := by omega
    have e4 : IntKind.i64.wrap ((Q.dirty.length : Int) + 2) = (Q.dirty.length : Int) + 2 := i64_of (by omega) (by omega)
    simp only [e1, e4, e2, e3, ↓o_nil, ↓o_field, ↓o_add, ↓o_sub, ↓o_mul, ↓o_lss, ↓o_leq, ↓o_gtr, ↓o_geq, ↓o_not, ↓o_pick, ↓o_eqInt, ↓o_neInt, ↓o_eqBool, ↓o_neBool, ↓o_eqPtr, ↓o_nePtr, ↓o_eqPtr', ↓o_eqSl, ↓o_neSl, ↓o_eqStr, ↓o_neStr, ↓o_len, ↓o_lenS, ↓o_min, ↓o_max, ↓o_extract, ↓o_convInt, ↓cd_true, ↓cd_false, ↓gate_tt, ↓gate_ff, ↓gate_tf, ↓gate_ft, ↓gate_undef, ↓o_bind, ↓stay_v, ↓pop_cons, ↓fin_nil, Option.isNone_none, Option.isNone_some, Bool.not_true, Bool.not_false, Nat.zero_add, decide_true, decide_false, if_true, if_false, Bool.false_eq_true, ↓reduceIte]
    exact hgo
theorem Pages_spec (h : sat E w H) {lv : Value} (l : List (Value × Bs)) (hl : Rds H lv l.length (l.map (·.1))) (ml : l.length ≤ 9223372036854775807) (hs : ∀ q ∈ l, Row1 H q) (x : UInt8) (k : ∀ w', sat E w' H → K (.bool true) w') : Calls prog 3 #[lv, bv x] w (Ret K) := by
  obtain ⟨al, cl, rfl, hcl, hl, _⟩ := hl.shape h
  refine c3 ?_
  unfold B3
  refine New_spec h (n := 60) (by omega) (by omega) fun d0 w h => ?_
  simp only [↓o_nil, ↓o_field, ↓o_add, ↓o_sub, ↓o_mul, ↓o_lss, ↓o_leq, ↓o_gtr, ↓o_geq, ↓o_not, ↓o_pick, ↓o_eqInt, ↓o_neInt, ↓o_eqBool, ↓o_neBool, ↓o_eqPtr, ↓o_nePtr, ↓o_eqPtr', ↓o_eqSl, ↓o_neSl, ↓o_eqStr, ↓o_neStr, ↓o_len, ↓o_lenS, ↓o_min, ↓o_max, ↓o_extract, ↓o_convInt, ↓cd_true, ↓cd_false, ↓gate_tt, ↓gate_ff, ↓gate_tf, ↓gate_ft, ↓gate_undef, ↓o_bind, ↓stay_v, ↓pop_cons, ↓fin_nil, Option.isNone_none, Option.isNone_some, Bool.not_true, Bool.not_false, Nat.zero_add, decide_true, decide_false, if_true, if_false, Bool.false_eq_true, ↓reduceIte]
  rw [show (60 : Int).toNat = 60 from rfl] at h
  have i0 := newL_inv (n := 60) (size := 20) (by omega) (by omega) (by omega)
  refine Open_spec (S := newL 60 20) (gs := []) i0 rfl (by show (0 : Nat) < 2 ^ 62; decide) (dd := d0) (W := []) h (Z_wf (by omega) (by omega)) fun p d b w h => ?_
  try simp only [↓o_nil, ↓o_field, ↓o_add, ↓o_sub, ↓o_mul, ↓o_lss, ↓o_leq, ↓o_gtr, ↓o_geq, ↓o_not, ↓o_pick, ↓o_eqInt, ↓o_neInt, ↓o_eqBool, ↓o_neBool, ↓o_eqPtr, ↓o_nePtr, ↓o_eqPtr', ↓o_eqSl, ↓o_neSl, ↓o_eqStr, ↓o_neStr, ↓o_len, ↓o_lenS, ↓o_min, ↓o_max, ↓o_extract, ↓o_convInt, ↓cd_true, ↓cd_false, ↓gate_tt, ↓gate_ff, ↓gate_tf, ↓gate_ft, ↓gate_undef, ↓o_bind, ↓stay_v, ↓pop_cons, ↓fin_nil, Option.isNone_none, Option.isNone_some, Bool.not_true, Bool.not_false, Nat.zero_add, decide_true, decide_false, if_true, if_false, Bool.false_eq_true, ↓reduceIte]
  refine PNew_spec (most := 2) h (by omega) (by omega) fun A w hA h => ?_
  try simp only [↓o_nil, ↓o_field, ↓o_add, ↓o_sub, ↓o_mul, ↓o_lss, ↓o_leq, ↓o_gtr, ↓o_geq, ↓o_not, ↓o_pick, ↓o_eqInt, ↓o_neInt, ↓o_eqBool, ↓o_neBool, ↓o_eqPtr, ↓o_nePtr, ↓o_eqPtr', ↓o_eqSl, ↓o_neSl, ↓o_eqStr, ↓o_neStr, ↓o_len, ↓o_lenS, ↓o_min, ↓o_max, ↓o_extract, ↓o_convInt, ↓cd_true, ↓cd_false, ↓gate_tt, ↓gate_ff, ↓gate_tf, ↓gate_ft, ↓gate_undef, ↓o_bind, ↓stay_v, ↓pop_cons, ↓fin_nil, Option.isNone_none, Option.isNone_some, Bool.not_true, Bool.not_false, Nat.zero_add, decide_true, decide_false, if_true, if_false, Bool.false_eq_true, ↓reduceIte]
  have h := (h.perm (star_left_comm _ _ _)).drop
  refine make_sl h rfl (by omega) (by omega) (by omega) (by omega) fun wb w h => ?_
  have e39 : (39 : Int).toNat = 39 := rfl
  rw [e39] at h ⊢
  have h : sat E w (pts wb (.cells ((List.replicate 39 (0 : UInt8)).map bv).toArray 5 (0, 0)) * (pgr A (newP (newL 60 20) 2) * H)) := by
    rw [List.map_replicate]; exact h
  clear hA
  refine lp_nat (fun q σ w => ∃ (i : Nat) (A : Ad) (P : Pg) (gs : List (List Int)) (want : Bs), σ = [.pointer (some ⟨A.q, 0, none⟩), .int .i64 i] ∧ q = 12 - i ∧ i ≤ 12 ∧ Kept P gs want i ∧ sat E w (pts wb (.cells (want.map bv).toArray 5 (0, 0)) * (pgr A P * H))) 12 ⟨0, A, _, [], _, rfl, rfl, by omega, Kept.start, h⟩ ?_
  clear h
  rintro q σ w again ⟨i, A, P, gs, want, rfl, rfl, hi, kp, h⟩ hag
  try simp only [↓o_nil, ↓o_field, ↓o_add, ↓o_sub, ↓o_mul, ↓o_lss, ↓o_leq, ↓o_gtr, ↓o_geq, ↓o_not, ↓o_pick, ↓o_eqInt, ↓o_neInt, ↓o_eqBool, ↓o_neBool, ↓o_eqPtr, ↓o_nePtr, ↓o_eqPtr', ↓o_eqSl, ↓o_neSl, ↓o_eqStr, ↓o_neStr, ↓o_len, ↓o_lenS, ↓o_min, ↓o_max, ↓o_extract, ↓o_convInt, ↓cd_true, ↓cd_false, ↓gate_tt, ↓gate_ff, ↓gate_tf, ↓gate_ft, ↓gate_undef, ↓o_bind, ↓stay_v, ↓pop_cons, ↓fin_nil, Option.isNone_none, Option.isNone_some, Bool.not_true, Bool.not_false, Nat.zero_add, decide_true, decide_false, if_true, if_false, Bool.false_eq_true, ↓reduceIte]
  have hend := Pages_end kp hi h k
  simp only [↓o_nil, ↓o_field, ↓o_add, ↓o_sub, ↓o_mul, ↓o_lss, ↓o_leq, ↓o_gtr, ↓o_geq, ↓o_not, ↓o_pick, ↓o_eqInt, ↓o_neInt, ↓o_eqBool, ↓o_neBool, ↓o_eqPtr, ↓o_nePtr, ↓o_eqPtr', ↓o_eqSl, ↓o_neSl, ↓o_eqStr, ↓o_neStr, ↓o_len, ↓o_lenS, ↓o_min, ↓o_max, ↓o_extract, ↓o_convInt, ↓cd_true, ↓cd_false, ↓gate_tt, ↓gate_ff, ↓gate_tf, ↓gate_ft, ↓gate_undef, ↓o_bind, ↓stay_v, ↓pop_cons, ↓fin_nil, Option.isNone_none, Option.isNone_some, Bool.not_true, Bool.not_false, Nat.zero_add, decide_true, decide_false, if_true, if_false, Bool.false_eq_true, ↓reduceIte] at hend
  have hW := kp.w; have hlen := kp.len; have hgr := kp.g; have hpg := kp.pages
  by_cases h1 : (i : Int) < (l.length : Int)
  · by_cases h2 : (i : Int) < 12
    · simp only [h1, h2, ↓o_nil, ↓o_field, ↓o_add, ↓o_sub, ↓o_mul, ↓o_lss, ↓o_leq, ↓o_gtr, ↓o_geq, ↓o_not, ↓o_pick, ↓o_eqInt, ↓o_neInt, ↓o_eqBool, ↓o_neBool, ↓o_eqPtr, ↓o_nePtr, ↓o_eqPtr', ↓o_eqSl, ↓o_neSl, ↓o_eqStr, ↓o_neStr, ↓o_len, ↓o_lenS, ↓o_min, ↓o_max, ↓o_extract, ↓o_convInt, ↓cd_true, ↓cd_false, ↓gate_tt, ↓gate_ff, ↓gate_tf, ↓gate_ft, ↓gate_undef, ↓o_bind, ↓stay_v, ↓pop_cons, ↓fin_nil, Option.isNone_none, Option.isNone_some, Bool.not_true, Bool.not_false, Nat.zero_add, decide_true, decide_false, if_true, if_false, Bool.false_eq_true, ↓reduceIte]
      have hlt : i < l.length := by omega
      have hrow := hs _ (List.getElem_mem hlt)
      have h := h.perm (star_left_comm _ _ _)
      refine Log_spec h ?_
      refine PDisk_spec h (by omega) (by rw [hW]; decide) fun f w h => ?_
      refine Count_spec h ?_
      have h := h.drop
      rw [hW]
      simp only [List.length_nil, Int.natCast_zero]
      generalize hrl : l[i].2 = row at hrow
      obtain ⟨av, cv, hrv, hcv, hrd1, _⟩ := hrow.rd.shape h.drop.drop
      rw [hrl] at hrv hrd1 hcv
      have hrm : row.length ≤ 9223372036854775807 := by have := hrow.len; rw [hrl] at this; exact this
      refine lp_nat (fun q σ w => ∃ (kk : Nat) (Q : Pg) (want : Bs), σ = [.int .i64 kk] ∧ q = 15 - kk ∧ kk ≤ 15 ∧ In P Q gs want kk ∧ sat E w (pts wb (.cells (want.map bv).toArray 5 (0, 0)) * (pgr A Q * H))) 15 ⟨0, P, want, rfl, rfl, by omega, kp.inn, h.perm (star_left_comm _ _ _)⟩ ?_
      clear h hend
      rintro q σ w again2 ⟨kk, Q, want, rfl, rfl, hkk, inn, h⟩ hag2
      have hld : ∀ {K' : Value → World → Prop}, K' (.slice av row.length cv) w → pvv prog (Instr.indexAt 22 (.slice al l.length cl) (.int .i64 i)) w fun t w => ldv prog (Instr.loadAt 33 t) w K' := fun hk' => by
        obtain ⟨b1, o1, rfl, hb1⟩ := win_cell (hl.win h.drop.drop) (j := i) (by rw [List.length_map]; exact hlt)
        rw [o_index (by omega) (by omega)]
        simp only [Int.toNat_natCast, Nat.mul_one]
        refine ld_cell hb1 ?_
        rw [List.getElem_map, hrv]
        exact hk'
      have hlast := fun w h => Pages_last (K := K) (A := A) (wb := wb) (H := H) kp (by omega) inn hkk (w := w) h (again := again) fun A2 Q2 gs' w kp' h => hag (12 - (i + 1)) _ _ (by omega) ⟨i + 1, A2, Q2, gs', want, rfl, rfl, by omega, kp', h⟩
      refine hld ?_
      simp only [↓o_nil, ↓o_field, ↓o_add, ↓o_sub, ↓o_mul, ↓o_lss, ↓o_leq, ↓o_gtr, ↓o_geq, ↓o_not, ↓o_pick, ↓o_eqInt, ↓o_neInt, ↓o_eqBool, ↓o_neBool, ↓o_eqPtr, ↓o_nePtr, ↓o_eqPtr', ↓o_eqSl, ↓o_neSl, ↓o_eqStr, ↓o_neStr, ↓o_len, ↓o_lenS, ↓o_min, ↓o_max, ↓o_extract, ↓o_convInt, ↓cd_true, ↓cd_false, ↓gate_tt, ↓gate_ff, ↓gate_tf, ↓gate_ft, ↓gate_undef, ↓o_bind, ↓stay_v, ↓pop_cons, ↓fin_nil, Option.isNone_none, Option.isNone_some, Bool.not_true, Bool.not_false, Nat.zero_add, decide_true, decide_false, if_true, if_false, Bool.false_eq_true, ↓reduceIte]
      by_cases h3 : (kk : Int) < (row.length : Int)
      · by_cases h4 : (kk : Int) < 15
        · simp only [h3, h4, ↓o_nil, ↓o_field, ↓o_add, ↓o_sub, ↓o_mul, ↓o_lss, ↓o_leq, ↓o_gtr, ↓o_geq, ↓o_not, ↓o_pick, ↓o_eqInt, ↓o_neInt, ↓o_eqBool, ↓o_neBool, ↓o_eqPtr, ↓o_nePtr, ↓o_eqPtr', ↓o_eqSl, ↓o_neSl, ↓o_eqStr, ↓o_neStr, ↓o_len, ↓o_lenS, ↓o_min, ↓o_max, ↓o_extract, ↓o_convInt, ↓cd_true, ↓cd_false, ↓gate_tt, ↓gate_ff, ↓gate_tf, ↓gate_ft, ↓gate_undef, ↓o_bind, ↓stay_v, ↓pop_cons, ↓fin_nil, Option.isNone_none, Option.isNone_some, Bool.not_true, Bool.not_false, Nat.zero_add, decide_true, decide_false, if_true, if_false, Bool.false_eq_true, ↓reduceIte]
          have hlt3 : kk < row.length := by omega
          refine hld ?_
          obtain ⟨b6, o6, rfl, hb6⟩ := win_cell (hrd1.win h.drop.drop) (j := kk) (by rw [List.length_map]; exact hlt3)
          rw [o_index (by omega) (by omega)]
          simp only [Int.toNat_natCast, Nat.mul_one]
          refine ld_cell hb6 ?_
          rw [List.getElem_map]
          have hx8 := (row[kk]).toNat_lt
          simp only [bv, ↓o_nil, ↓o_field, ↓o_add, ↓o_sub, ↓o_mul, ↓o_lss, ↓o_leq, ↓o_gtr, ↓o_geq, ↓o_not, ↓o_pick, ↓o_eqInt, ↓o_neInt, ↓o_eqBool, ↓o_neBool, ↓o_eqPtr, ↓o_nePtr, ↓o_eqPtr', ↓o_eqSl, ↓o_neSl, ↓o_eqStr, ↓o_neStr, ↓o_len, ↓o_lenS, ↓o_min, ↓o_max, ↓o_extract, ↓o_convInt, ↓cd_true, ↓cd_false, ↓gate_tt, ↓gate_ff, ↓gate_tf, ↓gate_ft, ↓gate_undef, ↓o_bind, ↓stay_v, ↓pop_cons, ↓fin_nil, Option.isNone_none, Option.isNone_some, Bool.not_true, Bool.not_false, Nat.zero_add, decide_true, decide_false, if_true, if_false, Bool.false_eq_true, ↓reduceIte]
          rw [i64_of (n := ((row[kk]).toNat : Int)) (by omega) (by omega), o_rem (by decide)]
          have hmod : (((row[kk]).toNat : Nat) : Int).tmod 39 = (((row[kk]).toNat % 39 : Nat) : Int) := by rw [Int.tmod_eq_emod_of_nonneg (by omega)]; omega
          rw [hmod]
          have hn : (row[kk]).toNat % 39 < 39 := Nat.mod_lt _ (by decide)
          generalize (row[kk]).toNat % 39 = n at hn ⊢
          refine make_sl h rfl (by omega) (by omega) (by omega) (by omega) fun bb w h => ?_
          have e3 : (256 : Int).toNat = 256 := rfl
          rw [e3] at h ⊢
          rw [zeros_map] at h
          try simp only [↓o_nil, ↓o_field, ↓o_add, ↓o_sub, ↓o_mul, ↓o_lss, ↓o_leq, ↓o_gtr, ↓o_geq, ↓o_not, ↓o_pick, ↓o_eqInt, ↓o_neInt, ↓o_eqBool, ↓o_neBool, ↓o_eqPtr, ↓o_nePtr, ↓o_eqPtr', ↓o_eqSl, ↓o_neSl, ↓o_eqStr, ↓o_neStr, ↓o_len, ↓o_lenS, ↓o_min, ↓o_max, ↓o_extract, ↓o_convInt, ↓cd_true, ↓cd_false, ↓gate_tt, ↓gate_ff, ↓gate_tf, ↓gate_ft, ↓gate_undef, ↓o_bind, ↓stay_v, ↓pop_cons, ↓fin_nil, Option.isNone_none, Option.isNone_some, Bool.not_true, Bool.not_false, Nat.zero_add, decide_true, decide_false, if_true, if_false, Bool.false_eq_true, ↓reduceIte]
          obtain ⟨y, hy⟩ := any_u8 ((x.toNat : Int) + IntKind.u8.wrap (kk : Int))
          rw [hy, o_index (by omega) (by omega)]
          simp only [show (7 : Int).toNat = 7 from rfl, Nat.mul_one, Nat.zero_add]
          refine store_sl (b := bb) h rfl (by simp [zeros]) fun w h => ?_
          rw [← List.map_set] at h
          have hpl : (zeros.set 7 y).length = 256 := by simp [zeros]
          have hp7 : (zeros.set 7 y)[7]? = some y := by simp [zeros]
          obtain ⟨s1, inn'⟩ := inn.write kp (by omega) hn hpl hp7
          have h := osl_of (n := 256) (sz := 1) h (by rw [List.length_map, hpl]) (by omega)
          have h : sat E w (pgr A Q * (osl 5 1 (.slice (some ⟨bb, 0, none⟩) 256 256) 256 ((zeros.set 7 y).map bv) * (pts wb (.cells (want.map bv).toArray 5 (0, 0)) * H))) := h.perm (by ac_rfl)
          refine PWrite_spec inn.ok h (b := zeros.set 7 y) (by rw [hpl]; exact Rds.own) (by omega) fun w h => ?_
          have hw : writeP Q n (zeros.set 7 y) = writeT Q n (zeros.set 7 y) := by unfold writeP; rw [if_pos s1]
          rw [s1]
          rw [hw] at h
          simp only [↓o_nil, ↓o_field, ↓o_add, ↓o_sub, ↓o_mul, ↓o_lss, ↓o_leq, ↓o_gtr, ↓o_geq, ↓o_not, ↓o_pick, ↓o_eqInt, ↓o_neInt, ↓o_eqBool, ↓o_neBool, ↓o_eqPtr, ↓o_nePtr, ↓o_eqPtr', ↓o_eqSl, ↓o_neSl, ↓o_eqStr, ↓o_neStr, ↓o_len, ↓o_lenS, ↓o_min, ↓o_max, ↓o_extract, ↓o_convInt, ↓cd_true, ↓cd_false, ↓gate_tt, ↓gate_ff, ↓gate_tf, ↓gate_ft, ↓gate_undef, ↓o_bind, ↓stay_v, ↓pop_cons, ↓fin_nil, Option.isNone_none, Option.isNone_some, Bool.not_true, Bool.not_false, Nat.zero_add, decide_true, decide_false, if_true, if_false, Bool.false_eq_true, ↓reduceIte, decide_true, Bool.not_true]
          have h := h.perm (show _ = osl 5 1 (.slice (some ⟨bb, 0, none⟩) 256 256) 256 ((zeros.set 7 y).map bv) * (pts wb (.cells (want.map bv).toArray 5 (0, 0)) * (pgr A (writeT Q n (zeros.set 7 y)) * H)) by ac_rfl)
          obtain ⟨b7, o7, hb7e, hb7⟩ := win_cell ((Rds.osl).win h.drop') (j := 7) (by rw [List.length_map, hpl]; decide)
          cases hb7e
          rw [o_index (by omega) (by omega)]
          simp only [show (7 : Int).toNat = 7 from rfl, Nat.mul_one, Nat.zero_add] at hb7 ⊢
          refine ld_cell hb7 ?_
          rw [List.getElem_map, show (zeros.set 7 y)[7]'(by rw [hpl]; decide) = y by simp]
          have h := h.drop
          rw [o_index (by omega) (by omega)]
          simp only [Int.toNat_natCast, Nat.mul_one, Nat.zero_add]
          refine store_sl (b := wb) h rfl (by rw [List.length_map, inn.wl]; omega) fun w h => ?_
          rw [← List.map_set] at h
          try simp only [↓o_nil, ↓o_field, ↓o_add, ↓o_sub, ↓o_mul, ↓o_lss, ↓o_leq, ↓o_gtr, ↓o_geq, ↓o_not, ↓o_pick, ↓o_eqInt, ↓o_neInt, ↓o_eqBool, ↓o_neBool, ↓o_eqPtr, ↓o_nePtr, ↓o_eqPtr', ↓o_eqSl, ↓o_neSl, ↓o_eqStr, ↓o_neStr, ↓o_len, ↓o_lenS, ↓o_min, ↓o_max, ↓o_extract, ↓o_convInt, ↓cd_true, ↓cd_false, ↓gate_tt, ↓gate_ff, ↓gate_tf, ↓gate_ft, ↓gate_undef, ↓o_bind, ↓stay_v, ↓pop_cons, ↓fin_nil, Option.isNone_none, Option.isNone_some, Bool.not_true, Bool.not_false, Nat.zero_add, decide_true, decide_false, if_true, if_false, Bool.false_eq_true, ↓reduceIte]
          rw [i64_of (by omega) (by omega)]
          exact hag2 (15 - (kk + 1)) _ _ (by omega) ⟨kk + 1, _, want.set n y, rfl, rfl, by omega, inn', h⟩
        · have hlast := hlast w h
          simp only [↓o_nil, ↓o_field, ↓o_add, ↓o_sub, ↓o_mul, ↓o_lss, ↓o_leq, ↓o_gtr, ↓o_geq, ↓o_not, ↓o_pick, ↓o_eqInt, ↓o_neInt, ↓o_eqBool, ↓o_neBool, ↓o_eqPtr, ↓o_nePtr, ↓o_eqPtr', ↓o_eqSl, ↓o_neSl, ↓o_eqStr, ↓o_neStr, ↓o_len, ↓o_lenS, ↓o_min, ↓o_max, ↓o_extract, ↓o_convInt, ↓cd_true, ↓cd_false, ↓gate_tt, ↓gate_ff, ↓gate_tf, ↓gate_ft, ↓gate_undef, ↓o_bind, ↓stay_v, ↓pop_cons, ↓fin_nil, Option.isNone_none, Option.isNone_some, Bool.not_true, Bool.not_false, Nat.zero_add, decide_true, decide_false, if_true, if_false, Bool.false_eq_true, ↓reduceIte] at hlast
          simp only [h3, h4, ↓o_nil, ↓o_field, ↓o_add, ↓o_sub, ↓o_mul, ↓o_lss, ↓o_leq, ↓o_gtr, ↓o_geq, ↓o_not, ↓o_pick, ↓o_eqInt, ↓o_neInt, ↓o_eqBool, ↓o_neBool, ↓o_eqPtr, ↓o_nePtr, ↓o_eqPtr', ↓o_eqSl, ↓o_neSl, ↓o_eqStr, ↓o_neStr, ↓o_len, ↓o_lenS, ↓o_min, ↓o_max, ↓o_extract, ↓o_convInt, ↓cd_true, ↓cd_false, ↓gate_tt, ↓gate_ff, ↓gate_tf, ↓gate_ft, ↓gate_undef, ↓o_bind, ↓stay_v, ↓pop_cons, ↓fin_nil, Option.isNone_none, Option.isNone_some, Bool.not_true, Bool.not_false, Nat.zero_add, decide_true, decide_false, if_true, if_false, Bool.false_eq_true, ↓reduceIte]
          exact hlast
      · have hlast := hlast w h
        simp only [↓o_nil, ↓o_field, ↓o_add, ↓o_sub, ↓o_mul, ↓o_lss, ↓o_leq, ↓o_gtr, ↓o_geq, ↓o_not, ↓o_pick, ↓o_eqInt, ↓o_neInt, ↓o_eqBool, ↓o_neBool, ↓o_eqPtr, ↓o_nePtr, ↓o_eqPtr', ↓o_eqSl, ↓o_neSl, ↓o_eqStr, ↓o_neStr, ↓o_len, ↓o_lenS, ↓o_min, ↓o_max, ↓o_extract, ↓o_convInt, ↓cd_true, ↓cd_false, ↓gate_tt, ↓gate_ff, ↓gate_tf, ↓gate_ft, ↓gate_undef, ↓o_bind, ↓stay_v, ↓pop_cons, ↓fin_nil, Option.isNone_none, Option.isNone_some, Bool.not_true, Bool.not_false, Nat.zero_add, decide_true, decide_false, if_true, if_false, Bool.false_eq_true, ↓reduceIte] at hlast
        simp only [h3, ↓o_nil, ↓o_field, ↓o_add, ↓o_sub, ↓o_mul, ↓o_lss, ↓o_leq, ↓o_gtr, ↓o_geq, ↓o_not, ↓o_pick, ↓o_eqInt, ↓o_neInt, ↓o_eqBool, ↓o_neBool, ↓o_eqPtr, ↓o_nePtr, ↓o_eqPtr', ↓o_eqSl, ↓o_neSl, ↓o_eqStr, ↓o_neStr, ↓o_len, ↓o_lenS, ↓o_min, ↓o_max, ↓o_extract, ↓o_convInt, ↓cd_true, ↓cd_false, ↓gate_tt, ↓gate_ff, ↓gate_tf, ↓gate_ft, ↓gate_undef, ↓o_bind, ↓stay_v, ↓pop_cons, ↓fin_nil, Option.isNone_none, Option.isNone_some, Bool.not_true, Bool.not_false, Nat.zero_add, decide_true, decide_false, if_true, if_false, Bool.false_eq_true, ↓reduceIte]
        exact hlast
    · simp only [h1, h2, ↓o_nil, ↓o_field, ↓o_add, ↓o_sub, ↓o_mul, ↓o_lss, ↓o_leq, ↓o_gtr, ↓o_geq, ↓o_not, ↓o_pick, ↓o_eqInt, ↓o_neInt, ↓o_eqBool, ↓o_neBool, ↓o_eqPtr, ↓o_nePtr, ↓o_eqPtr', ↓o_eqSl, ↓o_neSl, ↓o_eqStr, ↓o_neStr, ↓o_len, ↓o_lenS, ↓o_min, ↓o_max, ↓o_extract, ↓o_convInt, ↓cd_true, ↓cd_false, ↓gate_tt, ↓gate_ff, ↓gate_tf, ↓gate_ft, ↓gate_undef, ↓o_bind, ↓stay_v, ↓pop_cons, ↓fin_nil, Option.isNone_none, Option.isNone_some, Bool.not_true, Bool.not_false, Nat.zero_add, decide_true, decide_false, if_true, if_false, Bool.false_eq_true, ↓reduceIte]
      exact hend
  · simp only [h1, ↓o_nil, ↓o_field, ↓o_add, ↓o_sub, ↓o_mul, ↓o_lss, ↓o_leq, ↓o_gtr, ↓o_geq, ↓o_not, ↓o_pick, ↓o_eqInt, ↓o_neInt, ↓o_eqBool, ↓o_neBool, ↓o_eqPtr, ↓o_nePtr, ↓o_eqPtr', ↓o_eqSl, ↓o_neSl, ↓o_eqStr, ↓o_neStr, ↓o_len, ↓o_lenS, ↓o_min, ↓o_max, ↓o_extract, ↓o_convInt, ↓cd_true, ↓cd_false, ↓gate_tt, ↓gate_ff, ↓gate_tf, ↓gate_ft, ↓gate_undef, ↓o_bind, ↓stay_v, ↓pop_cons, ↓fin_nil, Option.isNone_none, Option.isNone_some, Bool.not_true, Bool.not_false, Nat.zero_add, decide_true, decide_false, if_true, if_false, Bool.false_eq_true, ↓reduceIte]
    exact hend
end Go.Proofs.Ytcjklbhobmkalaa.Pages
