/-
  WalEmptied: the walk.
-/
import Derived.Test.YtgkeplodfkmnlaaGreatRlwE
set_option linter.all false
set_option maxRecDepth 100000
namespace Go.Proofs.YtgkeplodfkmnlaaGreat.Emptied
open Go Hold Go.ChangeShapes Go.WideShapes Go.ChangeAt Go.RowKit
variable {E : World0} {w : World} {H R : HP} {K : Value → World → Prop}
theorem Emptied_spec (h : sat E w H) (sz : UInt8) {lv : Value} (l : List Dd) (hl : Rds H lv l.length (l.flatMap dcells)) (hm : l.length ≤ 9223372036854775807) (hs : ∀ x ∈ l, OkD H x)
    (k : ∀ w', sat E w' H → K (.bool true) w') : Calls prog 3 #[bv sz, lv] w (Ret K) := by
  obtain ⟨al, cl, rfl, hcl, hl, _⟩ := hl.shape h
  have hdl := dcells_length l
  refine c3 ?_
  unfold B3
  have hN : sz.toNat % 20 + 2 ≤ 21 := by omega
  simp only [bv, ↓o_nil, ↓o_field, ↓o_add, ↓o_sub, ↓o_mul, ↓o_lss, ↓o_leq, ↓o_gtr, ↓o_geq, ↓o_not, ↓o_pick, ↓o_eqInt, ↓o_neInt, ↓o_eqBool, ↓o_neBool, ↓o_eqPtr, ↓o_nePtr, ↓o_eqPtr', ↓o_eqSl, ↓o_neSl, ↓o_eqStr, ↓o_neStr, ↓o_len, ↓o_lenS, ↓o_min, ↓o_max, ↓o_extract, ↓o_convInt, ↓cd_true, ↓cd_false, ↓gate_tt, ↓gate_ff, ↓gate_tf, ↓gate_ft, ↓gate_undef, ↓o_bind, ↓stay_v, ↓pop_cons, ↓fin_nil, Option.isNone_none, Option.isNone_some, Bool.not_true, Bool.not_false, Nat.zero_add, decide_true, decide_false, if_true, if_false, Bool.false_eq_true, ↓reduceIte]
  rw [o_rem (by decide)]
  try simp only [↓o_nil, ↓o_field, ↓o_add, ↓o_sub, ↓o_mul, ↓o_lss, ↓o_leq, ↓o_gtr, ↓o_geq, ↓o_not, ↓o_pick, ↓o_eqInt, ↓o_neInt, ↓o_eqBool, ↓o_neBool, ↓o_eqPtr, ↓o_nePtr, ↓o_eqPtr', ↓o_eqSl, ↓o_neSl, ↓o_eqStr, ↓o_neStr, ↓o_len, ↓o_lenS, ↓o_min, ↓o_max, ↓o_extract, ↓o_convInt, ↓cd_true, ↓cd_false, ↓gate_tt, ↓gate_ff, ↓gate_tf, ↓gate_ft, ↓gate_undef, ↓o_bind, ↓stay_v, ↓pop_cons, ↓fin_nil, Option.isNone_none, Option.isNone_some, Bool.not_true, Bool.not_false, Nat.zero_add, decide_true, decide_false, if_true, if_false, Bool.false_eq_true, ↓reduceIte]
  rw [mod_size]
  have hN2 : 2 ≤ sz.toNat % 20 + 2 := by omega
  generalize sz.toNat % 20 + 2 = N at hN hN2 ⊢
  rw [i64_of (by omega) (by omega), show (N : Int) + 10 = ((N + 10 : Nat) : Int) by omega]
  refine open_spec h hN2 (by omega) (by omega) fun p d b m r w h => ?_
  try simp only [↓o_nil, ↓o_field, ↓o_add, ↓o_sub, ↓o_mul, ↓o_lss, ↓o_leq, ↓o_gtr, ↓o_geq, ↓o_not, ↓o_pick, ↓o_eqInt, ↓o_neInt, ↓o_eqBool, ↓o_neBool, ↓o_eqPtr, ↓o_nePtr, ↓o_eqPtr', ↓o_eqSl, ↓o_neSl, ↓o_eqStr, ↓o_neStr, ↓o_len, ↓o_lenS, ↓o_min, ↓o_max, ↓o_extract, ↓o_convInt, ↓cd_true, ↓cd_false, ↓gate_tt, ↓gate_ff, ↓gate_tf, ↓gate_ft, ↓gate_undef, ↓o_bind, ↓stay_v, ↓pop_cons, ↓fin_nil, Option.isNone_none, Option.isNone_some, Bool.not_true, Bool.not_false, Nat.zero_add, decide_true, decide_false, if_true, if_false, Bool.false_eq_true, ↓reduceIte]
  refine live_spec h fun w h => ?_
  try simp only [↓o_nil, ↓o_field, ↓o_add, ↓o_sub, ↓o_mul, ↓o_lss, ↓o_leq, ↓o_gtr, ↓o_geq, ↓o_not, ↓o_pick, ↓o_eqInt, ↓o_neInt, ↓o_eqBool, ↓o_neBool, ↓o_eqPtr, ↓o_nePtr, ↓o_eqPtr', ↓o_eqSl, ↓o_neSl, ↓o_eqStr, ↓o_neStr, ↓o_len, ↓o_lenS, ↓o_min, ↓o_max, ↓o_extract, ↓o_convInt, ↓cd_true, ↓cd_false, ↓gate_tt, ↓gate_ff, ↓gate_tf, ↓gate_ft, ↓gate_undef, ↓o_bind, ↓stay_v, ↓pop_cons, ↓fin_nil, Option.isNone_none, Option.isNone_some, Bool.not_true, Bool.not_false, Nat.zero_add, decide_true, decide_false, if_true, if_false, Bool.false_eq_true, ↓reduceIte]
  have B0 : Both (newL (N + 10) N) [] (List.replicate (N + 10) zeros) [] 0 0 N 0 := ⟨Far.start hN2 hN, ⟨Z_wf (by omega) (by omega), hN2, by simp, Nat.zero_le _⟩, by simp, rfl, by simp, Nat.le_refl _⟩
  refine lp_nat (fun q σ w => ∃ (i : Nat) (S : Lg) (gs : List (List Int)) (V : List (Int × Bs)) (hd fu : Nat), σ = [.int .i64 i] ∧ q = 20 - i ∧ i ≤ 20 ∧ Both S gs (List.replicate (N + 10) zeros) V hd fu N i ∧ sat E w (lgI p d b S (rlI m r (List.replicate (N + 10) zeros) V N hd fu H))) 20 ⟨0, _, [], [], 0, 0, rfl, rfl, by omega, B0, h⟩ ?_
  clear h
  rintro q σ w again ⟨i, S, gs, V, hd, fu, rfl, rfl, hi, B, h⟩ hag
  try simp only [↓o_nil, ↓o_field, ↓o_add, ↓o_sub, ↓o_mul, ↓o_lss, ↓o_leq, ↓o_gtr, ↓o_geq, ↓o_not, ↓o_pick, ↓o_eqInt, ↓o_neInt, ↓o_eqBool, ↓o_neBool, ↓o_eqPtr, ↓o_nePtr, ↓o_eqPtr', ↓o_eqSl, ↓o_neSl, ↓o_eqStr, ↓o_neStr, ↓o_len, ↓o_lenS, ↓o_min, ↓o_max, ↓o_extract, ↓o_convInt, ↓cd_true, ↓cd_false, ↓gate_tt, ↓gate_ff, ↓gate_tf, ↓gate_ft, ↓gate_undef, ↓o_bind, ↓stay_v, ↓pop_cons, ↓fin_nil, Option.isNone_none, Option.isNone_some, Bool.not_true, Bool.not_false, Nat.zero_add, decide_true, decide_false, if_true, if_false, Bool.false_eq_true, ↓reduceIte]
  have hfl := B.f.len; have hfw := B.f.w; have hfg := B.f.g; have hfew := B.f.i.few; have hsz := B.f.size
  have hpg : S.pages = 9 := by unfold Lg.pages; omega
  have hend : (
    Calls prog 10 #[(.pointer (some ⟨p, 0, none⟩))] w (Ret fun t_24 w =>
    Calls prog 11 #[(.pointer (some ⟨p, 0, none⟩))] w (Ret fun t_25 w =>
    pvv prog (oEq .eql 34 (.tmp 51) (.const (.int .i64 0)) t_25 (.int .i64 0)) w fun t_26 w =>
    gate (some (t_26, true)) (fun K => K (.pointer (some ⟨p, 0, none⟩)) w) w fun t_27 w =>
    gate (some (t_26, true)) (fun K => Calls prog 12 #[t_27] w (Ret K)) w fun t_28 w =>
    gate (some (t_26, true)) (fun K => pvv prog (oEq .eql 3 (.tmp 55) (.const (.int .i64 0)) t_28 (.int .i64 0)) w K) w fun t_29 w =>
    pv prog (oPick t_26 t_29 (.bool false)) w fun t_30 w =>
    gate (some (t_30, true)) (fun K => K (.pointer (some ⟨p, 0, none⟩)) w) w fun t_31 w =>
    gate (some (t_30, true)) (fun K => Calls prog 13 #[t_31] w (Ret K)) w fun t_32 w =>
    gate (some (t_30, true)) (fun K => K (.int .i64 N) w) w fun t_33 w =>
    gate (some (t_30, true)) (fun K => pvv prog (oEq .eql 3 (.tmp 60) (.tmp 61) t_32 t_33) w K) w fun t_34 w =>
    pv prog (oPick t_30 t_34 (.bool false)) w fun t_35 w =>
    gate (some (t_35, true)) (fun K => K (.pointer (some ⟨p, 0, none⟩)) w) w fun t_36 w =>
    gate (some (t_35, true)) (fun K => Calls prog 14 #[t_36] w (Ret K)) w fun t_37 w =>
    gate (some (t_35, true)) (fun K => pv prog (oBi .len #[29] 3 #[false] #[t_37]) w K) w fun t_38 w =>
    gate (some (t_35, true)) (fun K => pvv prog (oEq .eql 3 (.tmp 67) (.const (.int .i64 0)) t_38 (.int .i64 0)) w K) w fun t_39 w =>
    pv prog (oPick t_35 t_39 (.bool false)) w fun t_40 w =>
    gate (some (t_40, true)) (fun K => K (.pointer (some ⟨p, 0, none⟩)) w) w fun t_41 w =>
    gate (some (t_40, true)) (fun K => Calls prog 10 #[t_41] w (Ret K)) w fun t_42 w =>
    gate (some (t_40, true)) (fun K => K t_24 w) w fun t_43 w =>
    gate (some (t_40, true)) (fun K => Calls prog 15 #[t_42, t_43] w (Ret K)) w fun t_44 w =>
    pv prog (oPick t_40 t_44 (.bool false)) w fun t_45 w =>
    gate (some (t_45, true)) (fun K => K (.pointer (some ⟨p, 0, none⟩)) w) w fun t_46 w =>
    gate (some (t_45, true)) (fun K => Calls prog 11 #[t_46] w (Ret K)) w fun t_47 w =>
    gate (some (t_45, true)) (fun K => pvv prog (oEq .eql 34 (.tmp 78) (.const (.int .i64 0)) t_47 (.int .i64 0)) w K) w fun t_48 w =>
    pv prog (oPick t_45 t_48 (.bool false)) w fun t_49 w =>
    K t_49 w))) := by
    obtain ⟨gs1, f1⟩ := B.f.check
    have hfl1 := f1.len; have hfw1 := f1.w; have hsz1 := f1.size
    have hpg1 : (checkS S).pages = 9 := by unfold Lg.pages; omega
    refine All_spec B.f.i h (by omega) fun v vs w h => ?_
    have h : sat E w (lgI p d b S (osl 60 1 v S.all.length vs * (pers (immAll vs S.all) * rlI m r (List.replicate (N + 10) zeros) V N hd fu H))) := by
      unfold lgI at h ⊢
      exact h.perm (by ac_rfl)
    refine Check_spec B.f.i h (by omega) fun w h => ?_
    try simp only [↓o_nil, ↓o_field, ↓o_add, ↓o_sub, ↓o_mul, ↓o_lss, ↓o_leq, ↓o_gtr, ↓o_geq, ↓o_not, ↓o_pick, ↓o_eqInt, ↓o_neInt, ↓o_eqBool, ↓o_neBool, ↓o_eqPtr, ↓o_nePtr, ↓o_eqPtr', ↓o_eqSl, ↓o_neSl, ↓o_eqStr, ↓o_neStr, ↓o_len, ↓o_lenS, ↓o_min, ↓o_max, ↓o_extract, ↓o_convInt, ↓cd_true, ↓cd_false, ↓gate_tt, ↓gate_ff, ↓gate_tf, ↓gate_ft, ↓gate_undef, ↓o_bind, ↓stay_v, ↓pop_cons, ↓fin_nil, Option.isNone_none, Option.isNone_some, Bool.not_true, Bool.not_false, Nat.zero_add, decide_true, decide_false, if_true, if_false, Bool.false_eq_true, ↓reduceIte]
    refine Used_spec h ?_
    rw [check_used]
    simp only [Int.natCast_zero, ↓o_nil, ↓o_field, ↓o_add, ↓o_sub, ↓o_mul, ↓o_lss, ↓o_leq, ↓o_gtr, ↓o_geq, ↓o_not, ↓o_pick, ↓o_eqInt, ↓o_neInt, ↓o_eqBool, ↓o_neBool, ↓o_eqPtr, ↓o_nePtr, ↓o_eqPtr', ↓o_eqSl, ↓o_neSl, ↓o_eqStr, ↓o_neStr, ↓o_len, ↓o_lenS, ↓o_min, ↓o_max, ↓o_extract, ↓o_convInt, ↓cd_true, ↓cd_false, ↓gate_tt, ↓gate_ff, ↓gate_tf, ↓gate_ft, ↓gate_undef, ↓o_bind, ↓stay_v, ↓pop_cons, ↓fin_nil, Option.isNone_none, Option.isNone_some, Bool.not_true, Bool.not_false, Nat.zero_add, decide_true, decide_false, if_true, if_false, Bool.false_eq_true, ↓reduceIte]
    refine Free_spec h (by omega) (by rw [check_used]; omega) fun w h => ?_
    rw [check_used, hsz1, Nat.sub_zero]
    simp only [decide_true, ↓o_nil, ↓o_field, ↓o_add, ↓o_sub, ↓o_mul, ↓o_lss, ↓o_leq, ↓o_gtr, ↓o_geq, ↓o_not, ↓o_pick, ↓o_eqInt, ↓o_neInt, ↓o_eqBool, ↓o_neBool, ↓o_eqPtr, ↓o_nePtr, ↓o_eqPtr', ↓o_eqSl, ↓o_neSl, ↓o_eqStr, ↓o_neStr, ↓o_len, ↓o_lenS, ↓o_min, ↓o_max, ↓o_extract, ↓o_convInt, ↓cd_true, ↓cd_false, ↓gate_tt, ↓gate_ff, ↓gate_tf, ↓gate_ft, ↓gate_undef, ↓o_bind, ↓stay_v, ↓pop_cons, ↓fin_nil, Option.isNone_none, Option.isNone_some, Bool.not_true, Bool.not_false, Nat.zero_add, decide_true, decide_false, if_true, if_false, Bool.false_eq_true, ↓reduceIte]
    refine Touched_spec h (by rw [check_a B.f.i]; decide) fun u w h => ?_
    have ht : (touched (checkS S)).length = 0 := by unfold touched; rw [sortI_length, check_a B.f.i]; rfl
    rw [ht] at h
    obtain ⟨au, cu, rfl, _, _, _⟩ := osl_shape h
    have h := h.drop
    simp only [Int.natCast_zero, ↓o_nil, ↓o_field, ↓o_add, ↓o_sub, ↓o_mul, ↓o_lss, ↓o_leq, ↓o_gtr, ↓o_geq, ↓o_not, ↓o_pick, ↓o_eqInt, ↓o_neInt, ↓o_eqBool, ↓o_neBool, ↓o_eqPtr, ↓o_nePtr, ↓o_eqPtr', ↓o_eqSl, ↓o_neSl, ↓o_eqStr, ↓o_neStr, ↓o_len, ↓o_lenS, ↓o_min, ↓o_max, ↓o_extract, ↓o_convInt, ↓cd_true, ↓cd_false, ↓gate_tt, ↓gate_ff, ↓gate_tf, ↓gate_ft, ↓gate_undef, ↓o_bind, ↓stay_v, ↓pop_cons, ↓fin_nil, Option.isNone_none, Option.isNone_some, Bool.not_true, Bool.not_false, Nat.zero_add, decide_true, decide_false, if_true, if_false, Bool.false_eq_true, ↓reduceIte]
    refine All_spec f1.i h (by omega) fun v2 vs2 w h => ?_
    rw [check_all B.f.i] at h
    have h : sat E w (osl 60 1 v2 S.all.length vs2 * (osl 60 1 v S.all.length vs * (pers (immAll vs2 S.all) * (pers (immAll vs S.all) * (lgI p d b (checkS S) (rlI m r (List.replicate (N + 10) zeros) V N hd fu H)))))) := by
      unfold lgI at h ⊢
      exact h.perm (by ac_rfl)
    have hall : S.all.length = S.pages := by simp [Lg.all]
    have h256 : ∀ x ∈ S.all, x.length ≤ 140737488355328 := fun x hx => by
      obtain ⟨n, hn, rfl⟩ := List.mem_map.1 hx
      have hn := List.mem_range.1 hn
      have := B.f.i.wf.l _ (List.getElem_mem (B.f.i.place_lt hn))
      unfold Lg.view
      rw [getD_of (B.f.i.place_lt hn)]; omega
    refine SameAll_spec h (rdd_of2 h vs2 S.all) (rdd_of2 h vs S.all) (by omega) h256 fun w h => ?_
    simp only [decide_true, ↓o_nil, ↓o_field, ↓o_add, ↓o_sub, ↓o_mul, ↓o_lss, ↓o_leq, ↓o_gtr, ↓o_geq, ↓o_not, ↓o_pick, ↓o_eqInt, ↓o_neInt, ↓o_eqBool, ↓o_neBool, ↓o_eqPtr, ↓o_nePtr, ↓o_eqPtr', ↓o_eqSl, ↓o_neSl, ↓o_eqStr, ↓o_neStr, ↓o_len, ↓o_lenS, ↓o_min, ↓o_max, ↓o_extract, ↓o_convInt, ↓cd_true, ↓cd_false, ↓gate_tt, ↓gate_ff, ↓gate_tf, ↓gate_ft, ↓gate_undef, ↓o_bind, ↓stay_v, ↓pop_cons, ↓fin_nil, Option.isNone_none, Option.isNone_some, Bool.not_true, Bool.not_false, Nat.zero_add, decide_true, decide_false, if_true, if_false, Bool.false_eq_true, ↓reduceIte]
    refine Check_spec f1.i h.drop.drop.drop.drop (by omega) fun w h => ?_
    simp only [↓o_nil, ↓o_field, ↓o_add, ↓o_sub, ↓o_mul, ↓o_lss, ↓o_leq, ↓o_gtr, ↓o_geq, ↓o_not, ↓o_pick, ↓o_eqInt, ↓o_neInt, ↓o_eqBool, ↓o_neBool, ↓o_eqPtr, ↓o_nePtr, ↓o_eqPtr', ↓o_eqSl, ↓o_neSl, ↓o_eqStr, ↓o_neStr, ↓o_len, ↓o_lenS, ↓o_min, ↓o_max, ↓o_extract, ↓o_convInt, ↓cd_true, ↓cd_false, ↓gate_tt, ↓gate_ff, ↓gate_tf, ↓gate_ft, ↓gate_undef, ↓o_bind, ↓stay_v, ↓pop_cons, ↓fin_nil, Option.isNone_none, Option.isNone_some, Bool.not_true, Bool.not_false, Nat.zero_add, decide_true, decide_false, if_true, if_false, Bool.false_eq_true, ↓reduceIte]
    unfold lgI rlI at h
    exact k w h.drop.drop.drop.drop.drop
  by_cases h1 : (i : Int) < (l.length : Int)
  · by_cases h2 : (i : Int) < 20
    · simp only [h1, h2, ↓o_nil, ↓o_field, ↓o_add, ↓o_sub, ↓o_mul, ↓o_lss, ↓o_leq, ↓o_gtr, ↓o_geq, ↓o_not, ↓o_pick, ↓o_eqInt, ↓o_neInt, ↓o_eqBool, ↓o_neBool, ↓o_eqPtr, ↓o_nePtr, ↓o_eqPtr', ↓o_eqSl, ↓o_neSl, ↓o_eqStr, ↓o_neStr, ↓o_len, ↓o_lenS, ↓o_min, ↓o_max, ↓o_extract, ↓o_convInt, ↓cd_true, ↓cd_false, ↓gate_tt, ↓gate_ff, ↓gate_tf, ↓gate_ft, ↓gate_undef, ↓o_bind, ↓stay_v, ↓pop_cons, ↓fin_nil, Option.isNone_none, Option.isNone_some, Bool.not_true, Bool.not_false, Nat.zero_add, decide_true, decide_false, if_true, if_false, Bool.false_eq_true, ↓reduceIte]
      have hlt : i < l.length := by omega
      have hx := hs _ (List.getElem_mem hlt)
      have hrd : Rds (lgI p d b S (rlI m r (List.replicate (N + 10) zeros) V N hd fu H)) (.slice al l.length cl) l.length (l.flatMap dcells) := by unfold lgI rlI; exact hl.right.right.right.right.right
      obtain ⟨b1, o1, rfl, _⟩ := win_cell (hrd.win h) (j := i * 4) (by omega)
      rw [o_index (by omega) (by omega)]
      simp only [Int.toNat_natCast, ↓o_nil, ↓o_field, ↓o_add, ↓o_sub, ↓o_mul, ↓o_lss, ↓o_leq, ↓o_gtr, ↓o_geq, ↓o_not, ↓o_pick, ↓o_eqInt, ↓o_neInt, ↓o_eqBool, ↓o_neBool, ↓o_eqPtr, ↓o_nePtr, ↓o_eqPtr', ↓o_eqSl, ↓o_neSl, ↓o_eqStr, ↓o_neStr, ↓o_len, ↓o_lenS, ↓o_min, ↓o_max, ↓o_extract, ↓o_convInt, ↓cd_true, ↓cd_false, ↓gate_tt, ↓gate_ff, ↓gate_tf, ↓gate_ft, ↓gate_undef, ↓o_bind, ↓stay_v, ↓pop_cons, ↓fin_nil, Option.isNone_none, Option.isNone_some, Bool.not_true, Bool.not_false, Nat.zero_add, decide_true, decide_false, if_true, if_false, Bool.false_eq_true, ↓reduceIte]
      refine ld_el h hrd (i * 4) rfl (dcells l[i]) rfl (dd_at hlt) ?_
      refine Do_spec B (by omega) h l[i] hx fun gs' V' hd' fu' w B' h => ?_
      try simp only [↓o_nil, ↓o_field, ↓o_add, ↓o_sub, ↓o_mul, ↓o_lss, ↓o_leq, ↓o_gtr, ↓o_geq, ↓o_not, ↓o_pick, ↓o_eqInt, ↓o_neInt, ↓o_eqBool, ↓o_neBool, ↓o_eqPtr, ↓o_nePtr, ↓o_eqPtr', ↓o_eqSl, ↓o_neSl, ↓o_eqStr, ↓o_neStr, ↓o_len, ↓o_lenS, ↓o_min, ↓o_max, ↓o_extract, ↓o_convInt, ↓cd_true, ↓cd_false, ↓gate_tt, ↓gate_ff, ↓gate_tf, ↓gate_ft, ↓gate_undef, ↓o_bind, ↓stay_v, ↓pop_cons, ↓fin_nil, Option.isNone_none, Option.isNone_some, Bool.not_true, Bool.not_false, Nat.zero_add, decide_true, decide_false, if_true, if_false, Bool.false_eq_true, ↓reduceIte]
      rw [i64_of (by omega) (by omega)]
      exact hag (20 - (i + 1)) _ _ (by omega) ⟨i + 1, _, gs', V', hd', fu', rfl, rfl, by omega, B', h⟩
    · simp only [h1, h2, ↓o_nil, ↓o_field, ↓o_add, ↓o_sub, ↓o_mul, ↓o_lss, ↓o_leq, ↓o_gtr, ↓o_geq, ↓o_not, ↓o_pick, ↓o_eqInt, ↓o_neInt, ↓o_eqBool, ↓o_neBool, ↓o_eqPtr, ↓o_nePtr, ↓o_eqPtr', ↓o_eqSl, ↓o_neSl, ↓o_eqStr, ↓o_neStr, ↓o_len, ↓o_lenS, ↓o_min, ↓o_max, ↓o_extract, ↓o_convInt, ↓cd_true, ↓cd_false, ↓gate_tt, ↓gate_ff, ↓gate_tf, ↓gate_ft, ↓gate_undef, ↓o_bind, ↓stay_v, ↓pop_cons, ↓fin_nil, Option.isNone_none, Option.isNone_some, Bool.not_true, Bool.not_false, Nat.zero_add, decide_true, decide_false, if_true, if_false, Bool.false_eq_true, ↓reduceIte]
      exact hend
  · simp only [h1, ↓o_nil, ↓o_field, ↓o_add, ↓o_sub, ↓o_mul, ↓o_lss, ↓o_leq, ↓o_gtr, ↓o_geq, ↓o_not, ↓o_pick, ↓o_eqInt, ↓o_neInt, ↓o_eqBool, ↓o_neBool, ↓o_eqPtr, ↓o_nePtr, ↓o_eqPtr', ↓o_eqSl, ↓o_neSl, ↓o_eqStr, ↓o_neStr, ↓o_len, ↓o_lenS, ↓o_min, ↓o_max, ↓o_extract, ↓o_convInt, ↓cd_true, ↓cd_false, ↓gate_tt, ↓gate_ff, ↓gate_tf, ↓gate_ft, ↓gate_undef, ↓o_bind, ↓stay_v, ↓pop_cons, ↓fin_nil, Option.isNone_none, Option.isNone_some, Bool.not_true, Bool.not_false, Nat.zero_add, decide_true, decide_false, if_true, if_false, Bool.false_eq_true, ↓reduceIte]
    exact hend
end Go.Proofs.YtgkeplodfkmnlaaGreat.Emptied
