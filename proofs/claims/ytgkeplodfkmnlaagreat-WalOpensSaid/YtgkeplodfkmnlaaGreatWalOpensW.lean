/-
  WalOpens: the walk.
-/
import Derived.Test.YtgkeplodfkmnlaaGreatRlwE
set_option linter.all false
set_option maxRecDepth 100000
namespace Go.Proofs.YtgkeplodfkmnlaaGreat.Opens
open Go Hold Go.ChangeShapes Go.WideShapes Go.ChangeAt Go.RowKit
variable {E : World0} {w : World} {H R : HP} {K : Value → World → Prop}
theorem Opens_spec (h : sat E w H) (sz : UInt8) {lv : Value} (l : List Dd) (hl : Rds H lv l.length (l.flatMap dcells)) (hm : l.length ≤ 9223372036854775807) (hs : ∀ x ∈ l, OkD H x)
    (k : ∀ w', sat E w' H → K (.bool true) w') : Calls prog 4 #[bv sz, lv] w (Ret K) := by
  obtain ⟨al, cl, rfl, hcl, hl, _⟩ := hl.shape h
  have hdl := dcells_length l
  refine c4 ?_
  unfold B4
  have hN : sz.toNat % 20 + 2 ≤ 21 := by omega
  simp only [bv, ↓o_nil, ↓o_field, ↓o_add, ↓o_sub, ↓o_mul, ↓o_lss, ↓o_leq, ↓o_gtr, ↓o_geq, ↓o_not, ↓o_pick, ↓o_eqInt, ↓o_neInt, ↓o_eqBool, ↓o_neBool, ↓o_eqPtr, ↓o_nePtr, ↓o_eqPtr', ↓o_eqSl, ↓o_neSl, ↓o_eqStr, ↓o_neStr, ↓o_len, ↓o_lenS, ↓o_min, ↓o_max, ↓o_extract, ↓o_convInt, ↓cd_true, ↓cd_false, ↓gate_tt, ↓gate_ff, ↓gate_tf, ↓gate_ft, ↓gate_undef, ↓o_bind, ↓stay_v, ↓pop_cons, ↓fin_nil, Option.isNone_none, Option.isNone_some, Bool.not_true, Bool.not_false, Nat.zero_add, decide_true, decide_false, if_true, if_false, Bool.false_eq_true, ↓reduceIte]
  rw [o_rem (by decide)]
  try simp only [↓o_nil, ↓o_field, ↓o_add, ↓o_sub, ↓o_mul, ↓o_lss, ↓o_leq, ↓o_gtr, ↓o_geq, ↓o_not, ↓o_pick, ↓o_eqInt, ↓o_neInt, ↓o_eqBool, ↓o_neBool, ↓o_eqPtr, ↓o_nePtr, ↓o_eqPtr', ↓o_eqSl, ↓o_neSl, ↓o_eqStr, ↓o_neStr, ↓o_len, ↓o_lenS, ↓o_min, ↓o_max, ↓o_extract, ↓o_convInt, ↓cd_true, ↓cd_false, ↓gate_tt, ↓gate_ff, ↓gate_tf, ↓gate_ft, ↓gate_undef, ↓o_bind, ↓stay_v, ↓pop_cons, ↓fin_nil, Option.isNone_none, Option.isNone_some, Bool.not_true, Bool.not_false, Nat.zero_add, decide_true, decide_false, if_true, if_false, Bool.false_eq_true, ↓reduceIte]
  rw [mod_size]
  have hN2 : 2 ≤ sz.toNat % 20 + 2 := by omega
  generalize sz.toNat % 20 + 2 = N at hN hN2 ⊢
  rw [i64_of (by omega) (by omega), show (N : Int) + 10 = ((N + 10 : Nat) : Int) by omega]
  refine open_spec h hN2 (by omega) (by omega) fun p d b m r w h => ?_
  try simp only [↓o_nil, ↓o_field, ↓o_add, ↓o_sub, ↓o_mul, ↓o_lss, ↓o_leq, ↓o_gtr, ↓o_geq, ↓o_not, ↓o_pick, ↓o_eqInt, ↓o_neInt, ↓o_eqBool, ↓o_neBool, ↓o_eqPtr, ↓o_nePtr, ↓o_eqPtr', ↓o_eqSl, ↓o_neSl, ↓o_eqStr, ↓o_neStr, ↓o_len, ↓o_lenS, ↓o_min, ↓o_max, ↓o_extract, ↓o_convInt, ↓cd_true, ↓cd_false, ↓gate_tt, ↓gate_ff, ↓gate_tf, ↓gate_ft, ↓gate_undef, ↓o_bind, ↓stay_v, ↓pop_cons, ↓fin_nil, Option.isNone_none, Option.isNone_some, Bool.not_true, Bool.not_false, Nat.zero_add, decide_true, decide_false, if_true, if_false, Bool.false_eq_true, ↓reduceIte]
  refine live_spec h fun w h => ?_
  try simp only [↓o_nil, ↓o_field, ↓o_add, ↓o_sub, ↓o_mul, ↓o_lss, ↓o_leq, ↓o_gtr, ↓o_geq, ↓o_not, ↓o_pick, ↓o_eqInt, ↓o_neInt, ↓o_eqBool, ↓o_neBool, ↓o_eqPtr, ↓o_nePtr, ↓o_eqPtr', ↓o_eqSl, ↓o_neSl, ↓o_eqStr, ↓o_neStr, ↓o_len, ↓o_lenS, ↓o_min, ↓o_max, ↓o_extract, ↓o_convInt, ↓cd_true, ↓cd_false, ↓gate_tt, ↓gate_ff, ↓gate_tf, ↓gate_ft, ↓gate_undef, ↓o_bind, ↓stay_v, ↓pop_cons, ↓fin_nil, Option.isNone_none, Option.isNone_some, Bool.not_true, Bool.not_false, Nat.zero_add, decide_true, decide_false, if_true, if_false, Bool.false_eq_true, ↓reduceIte]
  have B0 : Both (newL (N + 10) N) [] (List.replicate (N + 10) zeros) [] 0 0 N 0 := ⟨Far.start hN2 hN, ⟨Z_wf (by omega) (by omega), hN2, by simp, Nat.zero_le _⟩, by simp, rfl, by simp, Nat.le_refl _⟩
  refine lp_nat (fun q σ w => ∃ (i : Nat) (S : Lg) (gs : List (List Int)) (V : List (Int × Bs)) (hd fu : Nat), σ = [.int .i64 i] ∧ q = 20 - i ∧ i ≤ 20 ∧ Both S gs (List.replicate (N + 10) zeros) V hd fu N i ∧ sat E w (lgI p d b S (rlI m r (List.replicate (N + 10) zeros) V N hd fu H))) 20 ⟨0, _, [], [], 0, 0, rfl, rfl, by omega, B0, h⟩ ?_
  clear h
  rintro q σ w again ⟨i, S, gs, V, hd, fu, rfl, rfl, hi, B, h⟩ hag
  try simp only [↓o_nil, ↓o_field, ↓o_add, ↓o_sub, ↓o_mul, ↓o_lss, ↓o_leq, ↓o_gtr, ↓o_geq, ↓o_not, ↓o_pick, ↓o_eqInt, ↓o_neInt, ↓o_eqBool, ↓o_neBool, ↓o_eqPtr, ↓o_nePtr, ↓o_eqPtr', ↓o_eqSl, ↓o_neSl, ↓o_eqStr, ↓o_neStr, ↓o_len, ↓o_lenS, ↓o_min, ↓o_max, ↓o_extract, ↓o_convInt, ↓cd_true, ↓cd_false, ↓gate_tt, ↓gate_ff, ↓gate_tf, ↓gate_ft, ↓gate_undef, ↓o_bind, ↓stay_v, ↓pop_cons, ↓fin_nil, Option.isNone_none, Option.isNone_some, Bool.not_true, Bool.not_false, Nat.zero_add, decide_true, decide_false, if_true, if_false, Bool.false_eq_true, ↓reduceIte]
  have hfl := B.f.len; have hfw := B.f.w; have hfg := B.f.g; have hfew := B.f.i.few; have hsz := B.f.size
  have hpg : S.pages = 9 := by unfold Lg.pages; omega
  have hend : (
    Calls prog 17 #[(.pointer (some ⟨p, 0, none⟩))] w (Ret fun t_25 w =>
    Calls prog 16 #[t_25, (.int .i64 N)] w (Ret fun t_26 w =>
    pvv prog (Instr.extract t_26 0) w fun t_27 w =>
    pvv prog (Instr.extract t_26 1) w fun t_28 w =>
    pvv prog (oEq .eql 34 (.tmp 55) (.const (.int .i64 0)) t_28 (.int .i64 0)) w fun t_29 w =>
    gate (some (t_29, true)) (fun K => K (.pointer (some ⟨p, 0, none⟩)) w) w fun t_30 w =>
    gate (some (t_29, true)) (fun K => Calls prog 10 #[t_30] w (Ret K)) w fun t_31 w =>
    gate (some (t_29, true)) (fun K => K t_27 w) w fun t_32 w =>
    gate (some (t_29, true)) (fun K => Calls prog 10 #[t_32] w (Ret K)) w fun t_33 w =>
    gate (some (t_29, true)) (fun K => Calls prog 15 #[t_31, t_33] w (Ret K)) w fun t_34 w =>
    pv prog (oPick t_29 t_34 (.bool false)) w fun t_35 w =>
    gate (some (t_35, true)) (fun K => K t_27 w) w fun t_36 w =>
    gate (some (t_35, true)) (fun K => Calls prog 12 #[t_36] w (Ret K)) w fun t_37 w =>
    gate (some (t_35, true)) (fun K => K (.pointer (some ⟨p, 0, none⟩)) w) w fun t_38 w =>
    gate (some (t_35, true)) (fun K => Calls prog 12 #[t_38] w (Ret K)) w fun t_39 w =>
    gate (some (t_35, true)) (fun K => pvv prog (oEq .eql 3 (.tmp 66) (.tmp 68) t_37 t_39) w K) w fun t_40 w =>
    pv prog (oPick t_35 t_40 (.bool false)) w fun t_41 w =>
    gate (some (t_41, true)) (fun K => K t_27 w) w fun t_42 w =>
    gate (some (t_41, true)) (fun K => Calls prog 18 #[t_42] w (Ret K)) w fun t_43 w =>
    gate (some (t_41, true)) (fun K => K (.pointer (some ⟨p, 0, none⟩)) w) w fun t_44 w =>
    gate (some (t_41, true)) (fun K => Calls prog 18 #[t_44] w (Ret K)) w fun t_45 w =>
    gate (some (t_41, true)) (fun K => pvv prog (oEq .eql 3 (.tmp 73) (.tmp 75) t_43 t_45) w K) w fun t_46 w =>
    pv prog (oPick t_41 t_46 (.bool false)) w fun t_47 w =>
    gate (some (t_47, true)) (fun K => K t_27 w) w fun t_48 w =>
    gate (some (t_47, true)) (fun K => Calls prog 14 #[t_48] w (Ret K)) w fun t_49 w =>
    gate (some (t_47, true)) (fun K => K (.pointer (some ⟨p, 0, none⟩)) w) w fun t_50 w =>
    gate (some (t_47, true)) (fun K => Calls prog 14 #[t_50] w (Ret K)) w fun t_51 w =>
    gate (some (t_47, true)) (fun K => Calls prog 19 #[t_49, t_51] w (Ret K)) w fun t_52 w =>
    pv prog (oPick t_47 t_52 (.bool false)) w fun t_53 w =>
    gate (some (t_53, true)) (fun K => K t_27 w) w fun t_54 w =>
    gate (some (t_53, true)) (fun K => Calls prog 17 #[t_54] w (Ret K)) w fun t_55 w =>
    gate (some (t_53, true)) (fun K => Calls prog 20 #[t_55] w (Ret K)) w fun t_56 w =>
    gate (some (t_53, true)) (fun K => pvv prog (oEq .eql 3 (.tmp 88) (.const (.int .i64 0)) t_56 (.int .i64 0)) w K) w fun t_57 w =>
    pv prog (oPick t_53 t_57 (.bool false)) w fun t_58 w =>
    K t_58 w))) := by
    have hal := B.f.i.alike
    have i2 := hal.inv B.f.i
    refine Disk_spec h (by omega) (by omega) fun f w h => ?_
    have hsz' : (ofL S S.L).size = N := hsz
    rw [← hsz']
    refine Open_spec (S := ofL S S.L) i2 rfl (by show S.groups < 2 ^ 62; omega) (dd := f) (W := S.W) h B.f.i.wf fun p2 d2 b2 w h => ?_
    try simp only [↓o_nil, ↓o_field, ↓o_add, ↓o_sub, ↓o_mul, ↓o_lss, ↓o_leq, ↓o_gtr, ↓o_geq, ↓o_not, ↓o_pick, ↓o_eqInt, ↓o_neInt, ↓o_eqBool, ↓o_neBool, ↓o_eqPtr, ↓o_nePtr, ↓o_eqPtr', ↓o_eqSl, ↓o_neSl, ↓o_eqStr, ↓o_neStr, ↓o_len, ↓o_lenS, ↓o_min, ↓o_max, ↓o_extract, ↓o_convInt, ↓cd_true, ↓cd_false, ↓gate_tt, ↓gate_ff, ↓gate_tf, ↓gate_ft, ↓gate_undef, ↓o_bind, ↓stay_v, ↓pop_cons, ↓fin_nil, Option.isNone_none, Option.isNone_some, Bool.not_true, Bool.not_false, Nat.zero_add, decide_true, decide_false, if_true, if_false, Bool.false_eq_true, ↓reduceIte]
    have h : sat E w (lgI p d b S (lgI p2 d2 b2 (ofL S S.L) (dsk f S.L S.W * rlI m r (List.replicate (N + 10) zeros) V N hd fu H))) := by
      unfold lgI at h ⊢
      exact h.perm (by ac_rfl)
    refine All_spec B.f.i h (by omega) fun v vs w h => ?_
    have h : sat E w (lgI p2 d2 b2 (ofL S S.L) (osl 60 1 v S.all.length vs * (pers (immAll vs S.all) * (dsk f S.L S.W * lgI p d b S (rlI m r (List.replicate (N + 10) zeros) V N hd fu H))))) := by
      unfold lgI at h ⊢
      exact h.perm (by ac_rfl)
    refine All_spec i2 h (by show S.pages ≤ 100; omega) fun v2 vs2 w h => ?_
    rw [hal.all] at h
    have h : sat E w (osl 60 1 v S.all.length vs * (osl 60 1 v2 S.all.length vs2 * (pers (immAll vs S.all) * (pers (immAll vs2 S.all) * (dsk f S.L S.W * (lgI p2 d2 b2 (ofL S S.L) (lgI p d b S (rlI m r (List.replicate (N + 10) zeros) V N hd fu H)))))))) := by
      unfold lgI at h ⊢
      exact h.perm (by ac_rfl)
    have hall : S.all.length = S.pages := by simp [Lg.all]
    have h256 : ∀ x ∈ S.all, x.length ≤ 140737488355328 := fun x hx => by
      obtain ⟨n, hn, rfl⟩ := List.mem_map.1 hx
      have hn := List.mem_range.1 hn
      have := B.f.i.wf.l _ (List.getElem_mem (B.f.i.place_lt hn))
      unfold Lg.view
      rw [getD_of (B.f.i.place_lt hn)]; omega
    refine SameAll_spec h (rdd_of2 h vs S.all) (rdd_of2 h vs2 S.all) (by omega) h256 fun w h => ?_
    simp only [decide_true, ↓o_nil, ↓o_field, ↓o_add, ↓o_sub, ↓o_mul, ↓o_lss, ↓o_leq, ↓o_gtr, ↓o_geq, ↓o_not, ↓o_pick, ↓o_eqInt, ↓o_neInt, ↓o_eqBool, ↓o_neBool, ↓o_eqPtr, ↓o_nePtr, ↓o_eqPtr', ↓o_eqSl, ↓o_neSl, ↓o_eqStr, ↓o_neStr, ↓o_len, ↓o_lenS, ↓o_min, ↓o_max, ↓o_extract, ↓o_convInt, ↓cd_true, ↓cd_false, ↓gate_tt, ↓gate_ff, ↓gate_tf, ↓gate_ft, ↓gate_undef, ↓o_bind, ↓stay_v, ↓pop_cons, ↓fin_nil, Option.isNone_none, Option.isNone_some, Bool.not_true, Bool.not_false, Nat.zero_add, decide_true, decide_false, if_true, if_false, Bool.false_eq_true, ↓reduceIte]
    have h := h.drop.drop.drop.drop.drop
    have hsw : ∀ {w : World}, sat E w (lgI p2 d2 b2 (ofL S S.L) (lgI p d b S (rlI m r (List.replicate (N + 10) zeros) V N hd fu H))) → sat E w (lgI p d b S (lgI p2 d2 b2 (ofL S S.L) (rlI m r (List.replicate (N + 10) zeros) V N hd fu H))) := fun h => by
      unfold lgI at h ⊢
      exact h.perm (by ac_rfl)
    refine Used_spec h ?_
    refine Used_spec (hsw h) ?_
    simp only [show (ofL S S.L).used = S.used from rfl, decide_true, ↓o_nil, ↓o_field, ↓o_add, ↓o_sub, ↓o_mul, ↓o_lss, ↓o_leq, ↓o_gtr, ↓o_geq, ↓o_not, ↓o_pick, ↓o_eqInt, ↓o_neInt, ↓o_eqBool, ↓o_neBool, ↓o_eqPtr, ↓o_nePtr, ↓o_eqPtr', ↓o_eqSl, ↓o_neSl, ↓o_eqStr, ↓o_neStr, ↓o_len, ↓o_lenS, ↓o_min, ↓o_max, ↓o_extract, ↓o_convInt, ↓cd_true, ↓cd_false, ↓gate_tt, ↓gate_ff, ↓gate_tf, ↓gate_ft, ↓gate_undef, ↓o_bind, ↓stay_v, ↓pop_cons, ↓fin_nil, Option.isNone_none, Option.isNone_some, Bool.not_true, Bool.not_false, Nat.zero_add, decide_true, decide_false, if_true, if_false, Bool.false_eq_true, ↓reduceIte]
    refine Groups_spec h ?_
    refine Groups_spec (hsw h) ?_
    simp only [show (ofL S S.L).groups = S.groups from rfl, decide_true, ↓o_nil, ↓o_field, ↓o_add, ↓o_sub, ↓o_mul, ↓o_lss, ↓o_leq, ↓o_gtr, ↓o_geq, ↓o_not, ↓o_pick, ↓o_eqInt, ↓o_neInt, ↓o_eqBool, ↓o_neBool, ↓o_eqPtr, ↓o_nePtr, ↓o_eqPtr', ↓o_eqSl, ↓o_neSl, ↓o_eqStr, ↓o_neStr, ↓o_len, ↓o_lenS, ↓o_min, ↓o_max, ↓o_extract, ↓o_convInt, ↓cd_true, ↓cd_false, ↓gate_tt, ↓gate_ff, ↓gate_tf, ↓gate_ft, ↓gate_undef, ↓o_bind, ↓stay_v, ↓pop_cons, ↓fin_nil, Option.isNone_none, Option.isNone_some, Bool.not_true, Bool.not_false, Nat.zero_add, decide_true, decide_false, if_true, if_false, Bool.false_eq_true, ↓reduceIte]
    refine Touched_spec h (by show S.a.length ≤ 1000000; omega) fun u w h => ?_
    have h : sat E w (lgI p d b S (osl 3 1 u (touched S).length ((touched S).map iv) * lgI p2 d2 b2 (ofL S S.L) (rlI m r (List.replicate (N + 10) zeros) V N hd fu H))) := by
      have h : sat E w (osl 3 1 u (touched S).length ((touched S).map iv) * lgI p2 d2 b2 (ofL S S.L) (lgI p d b S (rlI m r (List.replicate (N + 10) zeros) V N hd fu H))) := h
      unfold lgI at h ⊢
      exact h.perm (by ac_rfl)
    refine Touched_spec h (by omega) fun u2 w h => ?_
    have h : sat E w (osl 3 1 u (touched S).length ((touched S).map iv) * (osl 3 1 u2 (touched S).length ((touched S).map iv) * lgI p2 d2 b2 (ofL S S.L) (lgI p d b S (rlI m r (List.replicate (N + 10) zeros) V N hd fu H)))) := by
      unfold lgI at h ⊢
      exact h.perm (by ac_rfl)
    have htl : (touched S).length = S.a.length := by unfold touched; rw [sortI_length, List.length_map]
    refine SameInts_spec h (l := touched S) (m := touched S) Rds.own Rds.own (by omega) fun w h => ?_
    simp only [decide_true, ↓o_nil, ↓o_field, ↓o_add, ↓o_sub, ↓o_mul, ↓o_lss, ↓o_leq, ↓o_gtr, ↓o_geq, ↓o_not, ↓o_pick, ↓o_eqInt, ↓o_neInt, ↓o_eqBool, ↓o_neBool, ↓o_eqPtr, ↓o_nePtr, ↓o_eqPtr', ↓o_eqSl, ↓o_neSl, ↓o_eqStr, ↓o_neStr, ↓o_len, ↓o_lenS, ↓o_min, ↓o_max, ↓o_extract, ↓o_convInt, ↓cd_true, ↓cd_false, ↓gate_tt, ↓gate_ff, ↓gate_tf, ↓gate_ft, ↓gate_undef, ↓o_bind, ↓stay_v, ↓pop_cons, ↓fin_nil, Option.isNone_none, Option.isNone_some, Bool.not_true, Bool.not_false, Nat.zero_add, decide_true, decide_false, if_true, if_false, Bool.false_eq_true, ↓reduceIte]
    refine Disk_spec h.drop.drop (by show S.L.length ≤ 1024; omega) (by show ([] : List (Int × Bs)).length ≤ 1000000; decide) fun f2 w h => ?_
    refine Count_spec h ?_
    simp only [show (((ofL S S.L).W.length : Nat) : Int) = 0 from rfl, decide_true, ↓o_nil, ↓o_field, ↓o_add, ↓o_sub, ↓o_mul, ↓o_lss, ↓o_leq, ↓o_gtr, ↓o_geq, ↓o_not, ↓o_pick, ↓o_eqInt, ↓o_neInt, ↓o_eqBool, ↓o_neBool, ↓o_eqPtr, ↓o_nePtr, ↓o_eqPtr', ↓o_eqSl, ↓o_neSl, ↓o_eqStr, ↓o_neStr, ↓o_len, ↓o_lenS, ↓o_min, ↓o_max, ↓o_extract, ↓o_convInt, ↓cd_true, ↓cd_false, ↓gate_tt, ↓gate_ff, ↓gate_tf, ↓gate_ft, ↓gate_undef, ↓o_bind, ↓stay_v, ↓pop_cons, ↓fin_nil, Option.isNone_none, Option.isNone_some, Bool.not_true, Bool.not_false, Nat.zero_add, decide_true, decide_false, if_true, if_false, Bool.false_eq_true, ↓reduceIte]
    have h := h.drop
    unfold lgI rlI at h
    exact k w h.drop.drop.drop.drop.drop.drop.drop.drop
  by_cases h1 : (i : Int) < (l.length : Int)
  · by_cases h2 : (i : Int) < 20
    · simp only [h1, h2, ↓o_nil, ↓o_field, ↓o_add, ↓o_sub, ↓o_mul, ↓o_lss, ↓o_leq, ↓o_gtr, ↓o_geq, ↓o_not, ↓o_pick, ↓o_eqInt, ↓o_neInt, ↓o_eqBool, ↓o_neBool, ↓o_eqPtr, ↓o_nePtr, ↓o_eqPtr', ↓o_eqSl, ↓o_neSl, ↓o_eqStr, ↓o_neStr, ↓o_len, ↓o_lenS, ↓o_min, ↓o_max, ↓o_extract, ↓o_convInt, ↓cd_true, ↓cd_false, ↓gate_tt, ↓gate_ff, ↓gate_tf, ↓gate_ft, ↓gate_undef, ↓o_bind, ↓stay_v, ↓pop_cons, ↓fin_nil, Option.isNone_none, Option.isNone_some, Bool.not_true, Bool.not_false, Nat.zero_add, decide_true, decide_false, if_true, if_false, Bool.false_eq_true, ↓reduceIte]
      have hlt : i < l.length := by omega
      have hx := hs _ (List.getElem_mem hlt)
      have hrd : Rds (lgI p d b S (rlI m r (List.replicate (N + 10) zeros) V N hd fu H)) (.slice al l.length cl) l.length (l.flatMap dcells) := by unfold lgI rlI; exact hl.right.right.right.right.right
      obtain ⟨b1, o1, rfl, _⟩ := win_cell (hrd.win h) (j := i * 4) (by omega)
      rw [o_index (by omega) (by omega)]
      simp only [Int.toNat_natCast, ↓o_nil, ↓o_field, ↓o_add, ↓o_sub, ↓o_mul, ↓o_lss, ↓o_leq, ↓o_gtr, ↓o_geq, ↓o_not, ↓o_pick, ↓o_eqInt, ↓o_neInt, ↓o_eqBool, ↓o_neBool, ↓o_eqPtr, ↓o_nePtr, ↓o_eqPtr', ↓o_eqSl, ↓o_neSl, ↓o_eqStr, ↓o_neStr, ↓o_len, ↓o_lenS, ↓o_min, ↓o_max, ↓o_extract, ↓o_convInt, ↓cd_true, ↓cd_false, ↓gate_tt, ↓gate_ff, ↓gate_tf, ↓gate_ft, ↓gate_undef, ↓o_bind, ↓stay_v, ↓pop_cons, ↓fin_nil, Option.isNone_none, Option.isNone_some, Bool.not_true, Bool.not_false, Nat.zero_add, decide_true, decide_false, if_true, if_false, Bool.false_eq_true, ↓reduceIte]
      refine ld_el h hrd (i * 4) rfl (dcells l[i]) rfl (dd_at hlt) ?_
      refine Do_spec B (by omega) h l[i] hx fun gs' V' hd' fu' w B' h => ?_
      try simp only [↓o_nil, ↓o_field, ↓o_add, ↓o_sub, ↓o_mul, ↓o_lss, ↓o_leq, ↓o_gtr, ↓o_geq, ↓o_not, ↓o_pick, ↓o_eqInt, ↓o_neInt, ↓o_eqBool, ↓o_neBool, ↓o_eqPtr, ↓o_nePtr, ↓o_eqPtr', ↓o_eqSl, ↓o_neSl, ↓o_eqStr, ↓o_neStr, ↓o_len, ↓o_lenS, ↓o_min, ↓o_max, ↓o_extract, ↓o_convInt, ↓cd_true, ↓cd_false, ↓gate_tt, ↓gate_ff, ↓gate_tf, ↓gate_ft, ↓gate_undef, ↓o_bind, ↓stay_v, ↓pop_cons, ↓fin_nil, Option.isNone_none, Option.isNone_some, Bool.not_true, Bool.not_false, Nat.zero_add, decide_true, decide_false, if_true, if_false, Bool.false_eq_true, ↓reduceIte]
      rw [i64_of (by omega) (by omega)]
      exact hag (20 - (i + 1)) _ _ (by omega) ⟨i + 1, _, gs', V', hd', fu', rfl, rfl, by omega, B', h⟩
    · simp only [h1, h2, ↓o_nil, ↓o_field, ↓o_add, ↓o_sub, ↓o_mul, ↓o_lss, ↓o_leq, ↓o_gtr, ↓o_geq, ↓o_not, ↓o_pick, ↓o_eqInt, ↓o_neInt, ↓o_eqBool, ↓o_neBool, ↓o_eqPtr, ↓o_nePtr, ↓o_eqPtr', ↓o_eqSl, ↓o_neSl, ↓o_eqStr, ↓o_neStr, ↓o_len, ↓o_lenS, ↓o_min, ↓o_max, ↓o_extract, ↓o_convInt, ↓cd_true, ↓cd_false, ↓gate_tt, ↓gate_ff, ↓gate_tf, ↓gate_ft, ↓gate_undef, ↓o_bind, ↓stay_v, ↓pop_cons, ↓fin_nil, Option.isNone_none, Option.isNone_some, Bool.not_true, Bool.not_false, Nat.zero_add, decide_true, decide_false, if_true, if_false, Bool.false_eq_true, ↓reduceIte]
      exact hend
  · simp only [h1, ↓o_nil, ↓o_field, ↓o_add, ↓o_sub, ↓o_mul, ↓o_lss, ↓o_leq, ↓o_gtr, ↓o_geq, ↓o_not, ↓o_pick, ↓o_eqInt, ↓o_neInt, ↓o_eqBool, ↓o_neBool, ↓o_eqPtr, ↓o_nePtr, ↓o_eqPtr', ↓o_eqSl, ↓o_neSl, ↓o_eqStr, ↓o_neStr, ↓o_len, ↓o_lenS, ↓o_min, ↓o_max, ↓o_extract, ↓o_convInt, ↓cd_true, ↓cd_false, ↓gate_tt, ↓gate_ff, ↓gate_tf, ↓gate_ft, ↓gate_undef, ↓o_bind, ↓stay_v, ↓pop_cons, ↓fin_nil, Option.isNone_none, Option.isNone_some, Bool.not_true, Bool.not_false, Nat.zero_add, decide_true, decide_false, if_true, if_false, Bool.false_eq_true, ↓reduceIte]
    exact hend
end Go.Proofs.YtgkeplodfkmnlaaGreat.Opens
