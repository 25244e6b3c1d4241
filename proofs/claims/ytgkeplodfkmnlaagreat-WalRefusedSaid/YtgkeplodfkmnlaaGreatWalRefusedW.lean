/-
  WalRefused: the walk.
-/
import Derived.Test.YtgkeplodfkmnlaaGreatRlwF
set_option linter.all false
set_option maxRecDepth 100000
namespace Go.Proofs.YtgkeplodfkmnlaaGreat.Refused
open Go Hold Go.ChangeShapes Go.WideShapes Go.ChangeAt Go.RowKit
variable {E : World0} {w : World} {H R : HP} {K : Value → World → Prop}
theorem Refused_spec {H0 : HP} (h : sat E w H0) (sz : UInt8) {lv : Value} (l : List Dd) (hl : Rds H0 lv l.length (l.flatMap dcells)) (hm : l.length ≤ 9223372036854775807) (hs : ∀ x ∈ l, OkD H0 x) (x : Dd) (okx : OkD H0 x)
    (k : ∀ w', sat E w' H0 → K (.bool true) w') : Calls prog 6 #[bv sz, lv, .agg (dcells x).toArray] w (Ret K) := by
  obtain ⟨al, cl, rfl, hcl, hl, _⟩ := hl.shape h
  have hdl := dcells_length l
  refine c6 ?_
  unfold B6
  refine box_sl h fun xb w h => ?_
  have h : sat E w (pts xb (.cells (dcells x).toArray 31 (0, 0)) * H0) := h
  have hN : sz.toNat % 20 + 2 ≤ 21 := by omega
  simp only [bv, ↓o_nil, ↓o_field, ↓o_add, ↓o_sub, ↓o_mul, ↓o_lss, ↓o_leq, ↓o_gtr, ↓o_geq, ↓o_not, ↓o_pick, ↓o_eqInt, ↓o_neInt, ↓o_eqBool, ↓o_neBool, ↓o_eqPtr, ↓o_nePtr, ↓o_eqPtr', ↓o_eqSl, ↓o_neSl, ↓o_eqStr, ↓o_neStr, ↓o_len, ↓o_lenS, ↓o_min, ↓o_max, ↓o_extract, ↓o_convInt, ↓cd_true, ↓cd_false, ↓gate_tt, ↓gate_ff, ↓gate_tf, ↓gate_ft, ↓gate_undef, ↓o_bind, ↓stay_v, ↓pop_cons, ↓fin_nil, Option.isNone_none, Option.isNone_some, Bool.not_true, Bool.not_false, Nat.zero_add, decide_true, decide_false, if_true, if_false, Bool.false_eq_true, ↓reduceIte]
  rw [o_rem (by decide)]
  try simp only [↓o_nil, ↓o_field, ↓o_add, ↓o_sub, ↓o_mul, ↓o_lss, ↓o_leq, ↓o_gtr, ↓o_geq, ↓o_not, ↓o_pick, ↓o_eqInt, ↓o_neInt, ↓o_eqBool, ↓o_neBool, ↓o_eqPtr, ↓o_nePtr, ↓o_eqPtr', ↓o_eqSl, ↓o_neSl, ↓o_eqStr, ↓o_neStr, ↓o_len, ↓o_lenS, ↓o_min, ↓o_max, ↓o_extract, ↓o_convInt, ↓cd_true, ↓cd_false, ↓gate_tt, ↓gate_ff, ↓gate_tf, ↓gate_ft, ↓gate_undef, ↓o_bind, ↓stay_v, ↓pop_cons, ↓fin_nil, Option.isNone_none, Option.isNone_some, Bool.not_true, Bool.not_false, Nat.zero_add, decide_true, decide_false, if_true, if_false, Bool.false_eq_true, ↓reduceIte]
  rw [mod_size]
  have hN2 : 2 ≤ sz.toNat % 20 + 2 := by omega
  generalize sz.toNat % 20 + 2 = N at hN hN2 ⊢
  rw [i64_of (by omega) (by omega), show (N : Int) + 10 = ((N + 10 : Nat) : Int) by omega]
  refine open_spec h hN2 (by omega) (by omega) fun p d b m r w h => ?_
  try simp only [↓o_nil, ↓o_field, ↓o_add, ↓o_sub, ↓o_mul, ↓o_lss, ↓o_leq, ↓o_gtr, ↓o_geq, ↓o_not, ↓o_pick, ↓o_eqInt, ↓o_neInt, ↓o_eqBool, ↓o_neBool, ↓o_eqPtr, ↓o_nePtr, ↓o_eqPtr', ↓o_eqSl, ↓o_neSl, ↓o_eqStr, ↓o_neStr, ↓o_len, ↓o_lenS, ↓o_min, ↓o_max, ↓o_extract, ↓o_convInt, ↓cd_true, ↓cd_false, ↓gate_tt, ↓gate_ff, ↓gate_tf, ↓gate_ft, ↓gate_undef, ↓o_bind, ↓stay_v, ↓pop_cons, ↓fin_nil, Option.isNone_none, Option.isNone_some, Bool.not_true, Bool.not_false, Nat.zero_add, decide_true, decide_false, if_true, if_false, Bool.false_eq_true, ↓reduceIte]
  refine live_spec h fun w h => ?_
  try simp only [↓o_nil, ↓o_field, ↓o_add, ↓o_sub, ↓o_mul, ↓o_lss, ↓o_leq, ↓o_gtr, ↓o_geq, ↓o_not, ↓o_pick, ↓o_eqInt, ↓o_neInt, ↓o_eqBool, ↓o_neBool, ↓o_eqPtr, ↓o_nePtr, ↓o_eqPtr', ↓o_eqSl, ↓o_neSl, ↓o_eqStr, ↓o_neStr, ↓o_len, ↓o_lenS, ↓o_min, ↓o_max, ↓o_extract, ↓o_convInt, ↓cd_true, ↓cd_false, ↓gate_tt, ↓gate_ff, ↓gate_tf, ↓gate_ft, ↓gate_undef, ↓o_bind, ↓stay_v, ↓pop_cons, ↓fin_nil, Option.isNone_none, Option.isNone_some, Bool.not_true, Bool.not_false, Nat.zero_add, decide_true, decide_false, if_true, if_false, Bool.false_eq_true, ↓reduceIte]
  have B0 : Both (newL (N + 10) N) [] (List.replicate (N + 10) zeros) [] 0 0 N 0 := ⟨Far.start hN2 hN, ⟨Z_wf (by omega) (by omega), hN2, by simp, Nat.zero_le _⟩, by simp, rfl, by simp, Nat.le_refl _⟩
  refine lp_nat (fun q σ w => ∃ (i : Nat) (S : Lg) (gs : List (List Int)) (V : List (Int × Bs)) (hd fu : Nat), σ = [.int .i64 i] ∧ q = 20 - i ∧ i ≤ 20 ∧ Both S gs (List.replicate (N + 10) zeros) V hd fu N i ∧ sat E w (lgI p d b S (rlI m r (List.replicate (N + 10) zeros) V N hd fu (pts xb (.cells (dcells x).toArray 31 (0, 0)) * H0)))) 20 ⟨0, _, [], [], 0, 0, rfl, rfl, by omega, B0, h⟩ ?_
  clear h
  rintro q σ w again ⟨i, S, gs, V, hd, fu, rfl, rfl, hi, B, h⟩ hag
  try simp only [↓o_nil, ↓o_field, ↓o_add, ↓o_sub, ↓o_mul, ↓o_lss, ↓o_leq, ↓o_gtr, ↓o_geq, ↓o_not, ↓o_pick, ↓o_eqInt, ↓o_neInt, ↓o_eqBool, ↓o_neBool, ↓o_eqPtr, ↓o_nePtr, ↓o_eqPtr', ↓o_eqSl, ↓o_neSl, ↓o_eqStr, ↓o_neStr, ↓o_len, ↓o_lenS, ↓o_min, ↓o_max, ↓o_extract, ↓o_convInt, ↓cd_true, ↓cd_false, ↓gate_tt, ↓gate_ff, ↓gate_tf, ↓gate_ft, ↓gate_undef, ↓o_bind, ↓stay_v, ↓pop_cons, ↓fin_nil, Option.isNone_none, Option.isNone_some, Bool.not_true, Bool.not_false, Nat.zero_add, decide_true, decide_false, if_true, if_false, Bool.false_eq_true, ↓reduceIte]
  have hfl := B.f.len; have hfw := B.f.w; have hfg := B.f.g; have hfew := B.f.i.few; have hsz := B.f.size
  have hpg : S.pages = 9 := by unfold Lg.pages; omega
  have hend : (
    Calls prog 17 #[(.pointer (some ⟨p, 0, none⟩))] w (Ret fun t_25 w =>
    Calls prog 12 #[(.pointer (some ⟨p, 0, none⟩))] w (Ret fun t_26 w =>
    Calls prog 18 #[(.pointer (some ⟨p, 0, none⟩))] w (Ret fun t_27 w =>
    ldv prog (Instr.loadAt 31 (.pointer (some ⟨xb, 0, none⟩))) w fun t_28 w =>
    Calls prog 22 #[t_28] w (Ret fun t_29 w =>
    Calls prog 23 #[(.pointer (some ⟨p, 0, none⟩)), t_29] w (Ret fun t_30 w =>
    pvv prog (oEq .eql 34 (.tmp 63) (.const (.int .i64 0)) t_30 (.int .i64 0)) w fun t_31 w =>
    gate (some (t_31, true)) (fun K => K t_29 w) w fun t_32 w =>
    gate (some (t_31, true)) (fun K => pv prog (oBi .len #[49] 3 #[false] #[t_32]) w K) w fun t_33 w =>
    gate (some (t_31, true)) (fun K => pvv prog (binOp .gtr 3 t_33 (.int .i64 0)) w K) w fun t_34 w =>
    pv prog (oPick t_31 t_34 (.bool false)) w fun t_35 w =>
    cd t_35 (
      Calls prog 18 #[(.pointer (some ⟨p, 0, none⟩))] w (Ret fun t_36 w =>
      pvv prog (binOp .add 3 t_27 (.int .i64 1)) w fun t_37 w =>
      pvv prog (oEq .eql 3 (.tmp 71) (.tmp 73) t_36 t_37) w fun t_38 w =>
      gate (some (t_38, true)) (fun K => K (.pointer (some ⟨p, 0, none⟩)) w) w fun t_39 w =>
      gate (some (t_38, true)) (fun K => Calls prog 12 #[t_39] w (Ret K)) w fun t_40 w =>
      gate (some (t_38, true)) (fun K => K t_26 w) w fun t_41 w =>
      gate (some (t_38, true)) (fun K => K t_29 w) w fun t_42 w =>
      gate (some (t_38, true)) (fun K => pv prog (oBi .len #[49] 3 #[false] #[t_42]) w K) w fun t_43 w =>
      gate (some (t_38, true)) (fun K => Calls prog 24 #[t_43] w (Ret K)) w fun t_44 w =>
      gate (some (t_38, true)) (fun K => pvv prog (binOp .add 3 t_41 t_44) w K) w fun t_45 w =>
      gate (some (t_38, true)) (fun K => pvv prog (oEq .eql 3 (.tmp 77) (.tmp 82) t_40 t_45) w K) w fun t_46 w =>
      pv prog (oPick t_38 t_46 (.bool false)) w fun t_47 w =>
      K t_47 w)) <|
    Calls prog 17 #[(.pointer (some ⟨p, 0, none⟩))] w (Ret fun t_48 w =>
    Calls prog 25 #[t_25, t_48] w (Ret fun t_49 w =>
    gate (some (t_49, true)) (fun K => K (.pointer (some ⟨p, 0, none⟩)) w) w fun t_50 w =>
    gate (some (t_49, true)) (fun K => Calls prog 17 #[t_50] w (Ret K)) w fun t_51 w =>
    gate (some (t_49, true)) (fun K => Calls prog 20 #[t_51] w (Ret K)) w fun t_52 w =>
    gate (some (t_49, true)) (fun K => K t_25 w) w fun t_53 w =>
    gate (some (t_49, true)) (fun K => Calls prog 20 #[t_53] w (Ret K)) w fun t_54 w =>
    gate (some (t_49, true)) (fun K => pvv prog (oEq .eql 3 (.tmp 92) (.tmp 94) t_52 t_54) w K) w fun t_55 w =>
    pv prog (oPick t_49 t_55 (.bool false)) w fun t_56 w =>
    gate (some (t_56, true)) (fun K => K (.pointer (some ⟨p, 0, none⟩)) w) w fun t_57 w =>
    gate (some (t_56, true)) (fun K => Calls prog 12 #[t_57] w (Ret K)) w fun t_58 w =>
    gate (some (t_56, true)) (fun K => K t_26 w) w fun t_59 w =>
    gate (some (t_56, true)) (fun K => pvv prog (oEq .eql 3 (.tmp 99) (.tmp 100) t_58 t_59) w K) w fun t_60 w =>
    pv prog (oPick t_56 t_60 (.bool false)) w fun t_61 w =>
    gate (some (t_61, true)) (fun K => K (.pointer (some ⟨p, 0, none⟩)) w) w fun t_62 w =>
    gate (some (t_61, true)) (fun K => Calls prog 18 #[t_62] w (Ret K)) w fun t_63 w =>
    gate (some (t_61, true)) (fun K => K t_27 w) w fun t_64 w =>
    gate (some (t_61, true)) (fun K => pvv prog (oEq .eql 3 (.tmp 105) (.tmp 106) t_63 t_64) w K) w fun t_65 w =>
    pv prog (oPick t_61 t_65 (.bool false)) w fun t_66 w =>
    K t_66 w)))))))) := by
    refine Disk_spec h (by omega) (by omega) fun f w h => ?_
    have h : sat E w (lgI p d b S (dsk f S.L S.W * (pts xb (.cells (dcells x).toArray 31 (0, 0)) * (rlI m r (List.replicate (N + 10) zeros) V N hd fu H0)))) := by
      unfold lgI rlI at h ⊢
      exact h.perm (by ac_rfl)
    refine Used_spec h ?_
    refine Groups_spec h ?_
    have h1 := h
    unfold lgI at h1
    refine ld_agg (b := xb) h1 rfl ?_
    have h : sat E w ((pts p (.cells (lcells S d b).toArray 70 (0, 0)) * (dsk d S.L S.W * (omap b (mpA S.a) * (dsk f S.L S.W * (pts xb (.cells (dcells x).toArray 31 (0, 0)) * (pts m (.cells (rcells r N hd fu).toArray 108 (0, 0)) * rdsk r (List.replicate (N + 10) zeros) V)))))) * H0) := by
      unfold lgI rlI at h
      exact h.perm (by ac_rfl)
    refine pages_spec h x ⟨okx.rd.right, okx.len⟩ fun pv qs w hq h => ?_
    obtain ⟨apv, cpv, rfl, _, _, _⟩ := osl_shape h
    have h : sat E w (lgI p d b S (osl 65 2 (.slice apv x.pgs.length cpv) x.pgs.length (wcells qs) * (rows (qs.map (·.2)) (bcells (x.pgs.map (·.2))) * (dsk f S.L S.W * H0)))) := by
      have h := h.perm (show _ = (pts xb (.cells (dcells x).toArray 31 (0, 0)) * (pts m (.cells (rcells r N hd fu).toArray 108 (0, 0)) * rdsk r (List.replicate (N + 10) zeros) V)) * lgI p d b S (osl 65 2 (.slice apv x.pgs.length cpv) x.pgs.length (wcells qs) * (rows (qs.map (·.2)) (bcells (x.pgs.map (·.2))) * (dsk f S.L S.W * H0))) by unfold lgI; ac_rfl)
      exact h.drop
    refine Commit_spec B.f.i h (RdP.of hq) (by omega) (by omega) fun w h => ?_
    have h : sat E w (lgI p d b (commitS S x.pgs) (dsk f S.L S.W * H0)) := by
      have h := h.perm (show _ = osl 65 2 (.slice apv x.pgs.length cpv) x.pgs.length (wcells qs) * (rows (qs.map (·.2)) (bcells (x.pgs.map (·.2))) * lgI p d b (commitS S x.pgs) (dsk f S.L S.W * H0)) by unfold lgI; ac_rfl)
      exact h.drop.drop
    try simp only [↓o_nil, ↓o_field, ↓o_add, ↓o_sub, ↓o_mul, ↓o_lss, ↓o_leq, ↓o_gtr, ↓o_geq, ↓o_not, ↓o_pick, ↓o_eqInt, ↓o_neInt, ↓o_eqBool, ↓o_neBool, ↓o_eqPtr, ↓o_nePtr, ↓o_eqPtr', ↓o_eqSl, ↓o_neSl, ↓o_eqStr, ↓o_neStr, ↓o_len, ↓o_lenS, ↓o_min, ↓o_max, ↓o_extract, ↓o_convInt, ↓cd_true, ↓cd_false, ↓gate_tt, ↓gate_ff, ↓gate_tf, ↓gate_ft, ↓gate_undef, ↓o_bind, ↓stay_v, ↓pop_cons, ↓fin_nil, Option.isNone_none, Option.isNone_some, Bool.not_true, Bool.not_false, Nat.zero_add, decide_true, decide_false, if_true, if_false, Bool.false_eq_true, ↓reduceIte]
    have hok : (errC S x.pgs = 0 ∧ x.pgs ≠ []) ∨ commitS S x.pgs = S := by
      by_cases e : errC S x.pgs = 0 ∧ x.pgs ≠ []
      · exact .inl e
      · exact .inr (by unfold commitS; rw [if_neg e])
    have hsame : commitS S x.pgs = S → ∀ w, sat E w (lgI p d b S (dsk f S.L S.W * H0)) → ∀ K' : Value → World → Prop, (∀ w', sat E w' H0 → K' (.bool true) w') →
        Calls prog 17 #[.pointer (some ⟨p, 0, none⟩)] w (Ret fun t_48 w => Calls prog 25 #[.pointer (some ⟨f, 0, none⟩), t_48] w (Ret fun t_49 w =>
    gate (some (t_49, true)) (fun K => K (.pointer (some ⟨p, 0, none⟩)) w) w fun t_50 w =>
    gate (some (t_49, true)) (fun K => Calls prog 17 #[t_50] w (Ret K)) w fun t_51 w =>
    gate (some (t_49, true)) (fun K => Calls prog 20 #[t_51] w (Ret K)) w fun t_52 w =>
    gate (some (t_49, true)) (fun K => K (.pointer (some ⟨f, 0, none⟩)) w) w fun t_53 w =>
    gate (some (t_49, true)) (fun K => Calls prog 20 #[t_53] w (Ret K)) w fun t_54 w =>
    gate (some (t_49, true)) (fun K => pvv prog (oEq .eql 3 (.tmp 92) (.tmp 94) t_52 t_54) w K) w fun t_55 w =>
    pv prog (oPick t_49 t_55 (.bool false)) w fun t_56 w =>
    gate (some (t_56, true)) (fun K => K (.pointer (some ⟨p, 0, none⟩)) w) w fun t_57 w =>
    gate (some (t_56, true)) (fun K => Calls prog 12 #[t_57] w (Ret K)) w fun t_58 w =>
    gate (some (t_56, true)) (fun K => K (.int .i64 S.used) w) w fun t_59 w =>
    gate (some (t_56, true)) (fun K => pvv prog (oEq .eql 3 (.tmp 99) (.tmp 100) t_58 t_59) w K) w fun t_60 w =>
    pv prog (oPick t_56 t_60 (.bool false)) w fun t_61 w =>
    gate (some (t_61, true)) (fun K => K (.pointer (some ⟨p, 0, none⟩)) w) w fun t_62 w =>
    gate (some (t_61, true)) (fun K => Calls prog 18 #[t_62] w (Ret K)) w fun t_63 w =>
    gate (some (t_61, true)) (fun K => K (.int .i64 S.groups) w) w fun t_64 w =>
    gate (some (t_61, true)) (fun K => pvv prog (oEq .eql 3 (.tmp 105) (.tmp 106) t_63 t_64) w K) w fun t_65 w =>
    pv prog (oPick t_61 t_65 (.bool false)) w fun t_66 w =>
    K' t_66 w)) := by
      intro _ w h K' hK
      refine Disk_spec h (by omega) (by omega) fun f2 w h => ?_
      have h : sat E w (dsk f S.L S.W * (dsk f2 S.L S.W * lgI p d b S H0)) := by
        unfold lgI at h ⊢
        exact h.perm (by ac_rfl)
      refine Same_spec h (by omega) fun w h => ?_
      simp only [decide_true, ↓o_nil, ↓o_field, ↓o_add, ↓o_sub, ↓o_mul, ↓o_lss, ↓o_leq, ↓o_gtr, ↓o_geq, ↓o_not, ↓o_pick, ↓o_eqInt, ↓o_neInt, ↓o_eqBool, ↓o_neBool, ↓o_eqPtr, ↓o_nePtr, ↓o_eqPtr', ↓o_eqSl, ↓o_neSl, ↓o_eqStr, ↓o_neStr, ↓o_len, ↓o_lenS, ↓o_min, ↓o_max, ↓o_extract, ↓o_convInt, ↓cd_true, ↓cd_false, ↓gate_tt, ↓gate_ff, ↓gate_tf, ↓gate_ft, ↓gate_undef, ↓o_bind, ↓stay_v, ↓pop_cons, ↓fin_nil, Option.isNone_none, Option.isNone_some, Bool.not_true, Bool.not_false, Nat.zero_add, decide_true, decide_false, if_true, if_false, Bool.false_eq_true, ↓reduceIte]
      have h : sat E w (lgI p d b S (dsk f S.L S.W * H0)) := by
        have h := h.perm (show _ = dsk f2 S.L S.W * lgI p d b S (dsk f S.L S.W * H0) by unfold lgI; ac_rfl)
        exact h.drop
      refine Disk_spec h (by omega) (by omega) fun f3 w h => ?_
      refine Count_spec h ?_
      have h := h.drop
      have h2 : sat E w (dsk f S.L S.W * lgI p d b S H0) := by
        unfold lgI at h ⊢
        exact h.perm (by ac_rfl)
      refine Count_spec h2 ?_
      simp only [decide_true, ↓o_nil, ↓o_field, ↓o_add, ↓o_sub, ↓o_mul, ↓o_lss, ↓o_leq, ↓o_gtr, ↓o_geq, ↓o_not, ↓o_pick, ↓o_eqInt, ↓o_neInt, ↓o_eqBool, ↓o_neBool, ↓o_eqPtr, ↓o_nePtr, ↓o_eqPtr', ↓o_eqSl, ↓o_neSl, ↓o_eqStr, ↓o_neStr, ↓o_len, ↓o_lenS, ↓o_min, ↓o_max, ↓o_extract, ↓o_convInt, ↓cd_true, ↓cd_false, ↓gate_tt, ↓gate_ff, ↓gate_tf, ↓gate_ft, ↓gate_undef, ↓o_bind, ↓stay_v, ↓pop_cons, ↓fin_nil, Option.isNone_none, Option.isNone_some, Bool.not_true, Bool.not_false, Nat.zero_add, decide_true, decide_false, if_true, if_false, Bool.false_eq_true, ↓reduceIte]
      refine Used_spec h ?_
      simp only [decide_true, ↓o_nil, ↓o_field, ↓o_add, ↓o_sub, ↓o_mul, ↓o_lss, ↓o_leq, ↓o_gtr, ↓o_geq, ↓o_not, ↓o_pick, ↓o_eqInt, ↓o_neInt, ↓o_eqBool, ↓o_neBool, ↓o_eqPtr, ↓o_nePtr, ↓o_eqPtr', ↓o_eqSl, ↓o_neSl, ↓o_eqStr, ↓o_neStr, ↓o_len, ↓o_lenS, ↓o_min, ↓o_max, ↓o_extract, ↓o_convInt, ↓cd_true, ↓cd_false, ↓gate_tt, ↓gate_ff, ↓gate_tf, ↓gate_ft, ↓gate_undef, ↓o_bind, ↓stay_v, ↓pop_cons, ↓fin_nil, Option.isNone_none, Option.isNone_some, Bool.not_true, Bool.not_false, Nat.zero_add, decide_true, decide_false, if_true, if_false, Bool.false_eq_true, ↓reduceIte]
      refine Groups_spec h ?_
      simp only [decide_true, ↓o_nil, ↓o_field, ↓o_add, ↓o_sub, ↓o_mul, ↓o_lss, ↓o_leq, ↓o_gtr, ↓o_geq, ↓o_not, ↓o_pick, ↓o_eqInt, ↓o_neInt, ↓o_eqBool, ↓o_neBool, ↓o_eqPtr, ↓o_nePtr, ↓o_eqPtr', ↓o_eqSl, ↓o_neSl, ↓o_eqStr, ↓o_neStr, ↓o_len, ↓o_lenS, ↓o_min, ↓o_max, ↓o_extract, ↓o_convInt, ↓cd_true, ↓cd_false, ↓gate_tt, ↓gate_ff, ↓gate_tf, ↓gate_ft, ↓gate_undef, ↓o_bind, ↓stay_v, ↓pop_cons, ↓fin_nil, Option.isNone_none, Option.isNone_some, Bool.not_true, Bool.not_false, Nat.zero_add, decide_true, decide_false, if_true, if_false, Bool.false_eq_true, ↓reduceIte]
      exact hK w (lg_drop h2.drop)
    by_cases he : errC S x.pgs = 0
    · by_cases hz : x.pgs.length = 0
      · have hc : commitS S x.pgs = S := by unfold commitS; rw [if_neg (fun e => e.2 (List.length_eq_zero_iff.1 hz))]
        simp only [he, hz, Int.natCast_zero, ↓o_nil, ↓o_field, ↓o_add, ↓o_sub, ↓o_mul, ↓o_lss, ↓o_leq, ↓o_gtr, ↓o_geq, ↓o_not, ↓o_pick, ↓o_eqInt, ↓o_neInt, ↓o_eqBool, ↓o_neBool, ↓o_eqPtr, ↓o_nePtr, ↓o_eqPtr', ↓o_eqSl, ↓o_neSl, ↓o_eqStr, ↓o_neStr, ↓o_len, ↓o_lenS, ↓o_min, ↓o_max, ↓o_extract, ↓o_convInt, ↓cd_true, ↓cd_false, ↓gate_tt, ↓gate_ff, ↓gate_tf, ↓gate_ft, ↓gate_undef, ↓o_bind, ↓stay_v, ↓pop_cons, ↓fin_nil, Option.isNone_none, Option.isNone_some, Bool.not_true, Bool.not_false, Nat.zero_add, decide_true, decide_false, if_true, if_false, Bool.false_eq_true, ↓reduceIte, show ¬ (0 : Int) < 0 by omega]
        rw [hc] at h
        exact hsame hc w h _ k
      · have hz2 : (0 : Int) < (x.pgs.length : Int) := by omega
        have hne : x.pgs ≠ [] := fun e => hz (by rw [e]; rfl)
        have t := errC_zero he hne
        have hn2 := t.n2; have hn1 := t.n1
        have hc : commitS S x.pgs = commitT S x.pgs := by unfold commitS; rw [if_pos ⟨he, hne⟩]
        simp only [he, hz2, ↓o_nil, ↓o_field, ↓o_add, ↓o_sub, ↓o_mul, ↓o_lss, ↓o_leq, ↓o_gtr, ↓o_geq, ↓o_not, ↓o_pick, ↓o_eqInt, ↓o_neInt, ↓o_eqBool, ↓o_neBool, ↓o_eqPtr, ↓o_nePtr, ↓o_eqPtr', ↓o_eqSl, ↓o_neSl, ↓o_eqStr, ↓o_neStr, ↓o_len, ↓o_lenS, ↓o_min, ↓o_max, ↓o_extract, ↓o_convInt, ↓cd_true, ↓cd_false, ↓gate_tt, ↓gate_ff, ↓gate_tf, ↓gate_ft, ↓gate_undef, ↓o_bind, ↓stay_v, ↓pop_cons, ↓fin_nil, Option.isNone_none, Option.isNone_some, Bool.not_true, Bool.not_false, Nat.zero_add, decide_true, decide_false, if_true, if_false, Bool.false_eq_true, ↓reduceIte]
        rw [hc] at h
        refine Groups_spec h ?_
        rw [commitT_groups, i64_of (by omega) (by omega), show ((S.groups + 1 : Nat) : Int) = (S.groups : Int) + 1 by omega]
        simp only [decide_true, ↓o_nil, ↓o_field, ↓o_add, ↓o_sub, ↓o_mul, ↓o_lss, ↓o_leq, ↓o_gtr, ↓o_geq, ↓o_not, ↓o_pick, ↓o_eqInt, ↓o_neInt, ↓o_eqBool, ↓o_neBool, ↓o_eqPtr, ↓o_nePtr, ↓o_eqPtr', ↓o_eqSl, ↓o_neSl, ↓o_eqStr, ↓o_neStr, ↓o_len, ↓o_lenS, ↓o_min, ↓o_max, ↓o_extract, ↓o_convInt, ↓cd_true, ↓cd_false, ↓gate_tt, ↓gate_ff, ↓gate_tf, ↓gate_ft, ↓gate_undef, ↓o_bind, ↓stay_v, ↓pop_cons, ↓fin_nil, Option.isNone_none, Option.isNone_some, Bool.not_true, Bool.not_false, Nat.zero_add, decide_true, decide_false, if_true, if_false, Bool.false_eq_true, ↓reduceIte]
        refine Used_spec h ?_
        refine Need_spec ?_
        have hus := B.f.i.ule
        rw [if_neg (by omega), commitT_used]
        try simp only [↓o_nil, ↓o_field, ↓o_add, ↓o_sub, ↓o_mul, ↓o_lss, ↓o_leq, ↓o_gtr, ↓o_geq, ↓o_not, ↓o_pick, ↓o_eqInt, ↓o_neInt, ↓o_eqBool, ↓o_neBool, ↓o_eqPtr, ↓o_nePtr, ↓o_eqPtr', ↓o_eqSl, ↓o_neSl, ↓o_eqStr, ↓o_neStr, ↓o_len, ↓o_lenS, ↓o_min, ↓o_max, ↓o_extract, ↓o_convInt, ↓cd_true, ↓cd_false, ↓gate_tt, ↓gate_ff, ↓gate_tf, ↓gate_ft, ↓gate_undef, ↓o_bind, ↓stay_v, ↓pop_cons, ↓fin_nil, Option.isNone_none, Option.isNone_some, Bool.not_true, Bool.not_false, Nat.zero_add, decide_true, decide_false, if_true, if_false, Bool.false_eq_true, ↓reduceIte]
        rw [i64_of (by omega) (by omega), show ((S.used + (x.pgs.length + 1) : Nat) : Int) = (S.used : Int) + ((x.pgs.length : Int) + 1) by omega]
        simp only [decide_true, ↓o_nil, ↓o_field, ↓o_add, ↓o_sub, ↓o_mul, ↓o_lss, ↓o_leq, ↓o_gtr, ↓o_geq, ↓o_not, ↓o_pick, ↓o_eqInt, ↓o_neInt, ↓o_eqBool, ↓o_neBool, ↓o_eqPtr, ↓o_nePtr, ↓o_eqPtr', ↓o_eqSl, ↓o_neSl, ↓o_eqStr, ↓o_neStr, ↓o_len, ↓o_lenS, ↓o_min, ↓o_max, ↓o_extract, ↓o_convInt, ↓cd_true, ↓cd_false, ↓gate_tt, ↓gate_ff, ↓gate_tf, ↓gate_ft, ↓gate_undef, ↓o_bind, ↓stay_v, ↓pop_cons, ↓fin_nil, Option.isNone_none, Option.isNone_some, Bool.not_true, Bool.not_false, Nat.zero_add, decide_true, decide_false, if_true, if_false, Bool.false_eq_true, ↓reduceIte]
        exact k w (lg_drop h).drop
    · have hc : commitS S x.pgs = S := by unfold commitS; rw [if_neg (fun e => he e.1)]
      simp only [he, ↓o_nil, ↓o_field, ↓o_add, ↓o_sub, ↓o_mul, ↓o_lss, ↓o_leq, ↓o_gtr, ↓o_geq, ↓o_not, ↓o_pick, ↓o_eqInt, ↓o_neInt, ↓o_eqBool, ↓o_neBool, ↓o_eqPtr, ↓o_nePtr, ↓o_eqPtr', ↓o_eqSl, ↓o_neSl, ↓o_eqStr, ↓o_neStr, ↓o_len, ↓o_lenS, ↓o_min, ↓o_max, ↓o_extract, ↓o_convInt, ↓cd_true, ↓cd_false, ↓gate_tt, ↓gate_ff, ↓gate_tf, ↓gate_ft, ↓gate_undef, ↓o_bind, ↓stay_v, ↓pop_cons, ↓fin_nil, Option.isNone_none, Option.isNone_some, Bool.not_true, Bool.not_false, Nat.zero_add, decide_true, decide_false, if_true, if_false, Bool.false_eq_true, ↓reduceIte]
      rw [hc] at h
      exact hsame hc w h _ k
  by_cases h1 : (i : Int) < (l.length : Int)
  · by_cases h2 : (i : Int) < 20
    · simp only [h1, h2, ↓o_nil, ↓o_field, ↓o_add, ↓o_sub, ↓o_mul, ↓o_lss, ↓o_leq, ↓o_gtr, ↓o_geq, ↓o_not, ↓o_pick, ↓o_eqInt, ↓o_neInt, ↓o_eqBool, ↓o_neBool, ↓o_eqPtr, ↓o_nePtr, ↓o_eqPtr', ↓o_eqSl, ↓o_neSl, ↓o_eqStr, ↓o_neStr, ↓o_len, ↓o_lenS, ↓o_min, ↓o_max, ↓o_extract, ↓o_convInt, ↓cd_true, ↓cd_false, ↓gate_tt, ↓gate_ff, ↓gate_tf, ↓gate_ft, ↓gate_undef, ↓o_bind, ↓stay_v, ↓pop_cons, ↓fin_nil, Option.isNone_none, Option.isNone_some, Bool.not_true, Bool.not_false, Nat.zero_add, decide_true, decide_false, if_true, if_false, Bool.false_eq_true, ↓reduceIte]
      have hlt : i < l.length := by omega
      have hx := hs _ (List.getElem_mem hlt)
      have hrd : Rds (lgI p d b S (rlI m r (List.replicate (N + 10) zeros) V N hd fu (pts xb (.cells (dcells x).toArray 31 (0, 0)) * H0))) (.slice al l.length cl) l.length (l.flatMap dcells) := by unfold lgI rlI; exact hl.right.right.right.right.right.right
      obtain ⟨b1, o1, rfl, _⟩ := win_cell (hrd.win h) (j := i * 4) (by omega)
      rw [o_index (by omega) (by omega)]
      simp only [Int.toNat_natCast, ↓o_nil, ↓o_field, ↓o_add, ↓o_sub, ↓o_mul, ↓o_lss, ↓o_leq, ↓o_gtr, ↓o_geq, ↓o_not, ↓o_pick, ↓o_eqInt, ↓o_neInt, ↓o_eqBool, ↓o_neBool, ↓o_eqPtr, ↓o_nePtr, ↓o_eqPtr', ↓o_eqSl, ↓o_neSl, ↓o_eqStr, ↓o_neStr, ↓o_len, ↓o_lenS, ↓o_min, ↓o_max, ↓o_extract, ↓o_convInt, ↓cd_true, ↓cd_false, ↓gate_tt, ↓gate_ff, ↓gate_tf, ↓gate_ft, ↓gate_undef, ↓o_bind, ↓stay_v, ↓pop_cons, ↓fin_nil, Option.isNone_none, Option.isNone_some, Bool.not_true, Bool.not_false, Nat.zero_add, decide_true, decide_false, if_true, if_false, Bool.false_eq_true, ↓reduceIte]
      refine ld_el h hrd (i * 4) rfl (dcells l[i]) rfl (dd_at hlt) ?_
      refine Do_spec B (by omega) h l[i] ⟨hx.rd.right, hx.len⟩ fun gs' V' hd' fu' w B' h => ?_
      try simp only [↓o_nil, ↓o_field, ↓o_add, ↓o_sub, ↓o_mul, ↓o_lss, ↓o_leq, ↓o_gtr, ↓o_geq, ↓o_not, ↓o_pick, ↓o_eqInt, ↓o_neInt, ↓o_eqBool, ↓o_neBool, ↓o_eqPtr, ↓o_nePtr, ↓o_eqPtr', ↓o_eqSl, ↓o_neSl, ↓o_eqStr, ↓o_neStr, ↓o_len, ↓o_lenS, ↓o_min, ↓o_max, ↓o_extract, ↓o_convInt, ↓cd_true, ↓cd_false, ↓gate_tt, ↓gate_ff, ↓gate_tf, ↓gate_ft, ↓gate_undef, ↓o_bind, ↓stay_v, ↓pop_cons, ↓fin_nil, Option.isNone_none, Option.isNone_some, Bool.not_true, Bool.not_false, Nat.zero_add, decide_true, decide_false, if_true, if_false, Bool.false_eq_true, ↓reduceIte]
      rw [i64_of (by omega) (by omega)]
      exact hag (20 - (i + 1)) _ _ (by omega) ⟨i + 1, _, gs', V', hd', fu', rfl, rfl, by omega, B', h⟩
    · simp only [h1, h2, ↓o_nil, ↓o_field, ↓o_add, ↓o_sub, ↓o_mul, ↓o_lss, ↓o_leq, ↓o_gtr, ↓o_geq, ↓o_not, ↓o_pick, ↓o_eqInt, ↓o_neInt, ↓o_eqBool, ↓o_neBool, ↓o_eqPtr, ↓o_nePtr, ↓o_eqPtr', ↓o_eqSl, ↓o_neSl, ↓o_eqStr, ↓o_neStr, ↓o_len, ↓o_lenS, ↓o_min, ↓o_max, ↓o_extract, ↓o_convInt, ↓cd_true, ↓cd_false, ↓gate_tt, ↓gate_ff, ↓gate_tf, ↓gate_ft, ↓gate_undef, ↓o_bind, ↓stay_v, ↓pop_cons, ↓fin_nil, Option.isNone_none, Option.isNone_some, Bool.not_true, Bool.not_false, Nat.zero_add, decide_true, decide_false, if_true, if_false, Bool.false_eq_true, ↓reduceIte]
      exact hend
  · simp only [h1, ↓o_nil, ↓o_field, ↓o_add, ↓o_sub, ↓o_mul, ↓o_lss, ↓o_leq, ↓o_gtr, ↓o_geq, ↓o_not, ↓o_pick, ↓o_eqInt, ↓o_neInt, ↓o_eqBool, ↓o_neBool, ↓o_eqPtr, ↓o_nePtr, ↓o_eqPtr', ↓o_eqSl, ↓o_neSl, ↓o_eqStr, ↓o_neStr, ↓o_len, ↓o_lenS, ↓o_min, ↓o_max, ↓o_extract, ↓o_convInt, ↓cd_true, ↓cd_false, ↓gate_tt, ↓gate_ff, ↓gate_tf, ↓gate_ft, ↓gate_undef, ↓o_bind, ↓stay_v, ↓pop_cons, ↓fin_nil, Option.isNone_none, Option.isNone_some, Bool.not_true, Bool.not_false, Nat.zero_add, decide_true, decide_false, if_true, if_false, Bool.false_eq_true, ↓reduceIte]
    exact hend
end Go.Proofs.YtgkeplodfkmnlaaGreat.Refused
