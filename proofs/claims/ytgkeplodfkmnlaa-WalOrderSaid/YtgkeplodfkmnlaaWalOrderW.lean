/-
  WalOrder: the walk.
-/
import Derived.Test.YtgkeplodfkmnlaaWalK
set_option linter.all false
set_option maxRecDepth 100000
namespace Go.Proofs.Ytgkeplodfkmnlaa.Order
open Go Hold Go.ChangeShapes Go.WideShapes Go.ChangeAt Go.RowKit
variable {E : World0} {w : World} {H R : HP} {K : Value → World → Prop}
theorem form_perm {ps qs : List (Int × Bs)} (h : ps.Perm qs) : FormP ps ↔ FormP qs := by
  unfold FormP
  rw [(h.map (·.1)).nodup_iff]
  constructor
  · exact fun x => ⟨x.1, fun p hp => x.2 p (h.mem_iff.2 hp)⟩
  · exact fun x => ⟨x.1, fun p hp => x.2 p (h.mem_iff.1 hp)⟩
theorem err_perm {S : Lg} {ps qs : List (Int × Bs)} (h : ps.Perm qs) : errC S ps = errC S qs := by
  have e1 : ps.any (rangeP S) = qs.any (rangeP S) := by
    rw [Bool.eq_iff_iff, List.any_eq_true, List.any_eq_true]
    constructor
    · rintro ⟨x, a, b⟩; exact ⟨x, h.mem_iff.1 a, b⟩
    · rintro ⟨x, a, b⟩; exact ⟨x, h.mem_iff.2 a, b⟩
  have e2 : FormP ps ↔ FormP qs := form_perm h
  unfold errC
  rw [h.length_eq, e1]
  simp only [e2]
theorem commit_perm {S : Lg} {ps qs : List (Int × Bs)} (h : ps.Perm qs) : commitS S ps = commitS S qs := by
  unfold commitS
  rw [err_perm h]
  have e : ps ≠ [] ↔ qs ≠ [] := ⟨fun hne e => hne (by subst e; exact (h.symm.nil_eq).symm), fun hne e => hne (by subst e; exact h.nil_eq.symm)⟩
  simp only [e]
  split
  · rename_i hx
    have t := errC_zero hx.1 hx.2
    unfold commitT
    rw [sortP_unique h ((form_perm h).2 t.form).1, h.length_eq]
  · rfl
theorem RdP.rev {R X : HP} {v : Value} {qs : List (Int × Value)} {ps : List (Int × Bs)} (h : RdP R v qs ps) {u : Value} (hr : Rds X u ps.length (wcells qs.reverse)) (hx : ∀ {v : Value} {n : Nat} {xs : List Value}, Rds R v n xs → Rds X v n xs) : RdP X u qs.reverse ps.reverse := by
  have hlen := h.len
  refine ⟨by rw [List.length_reverse]; exact hr, by rw [List.map_reverse, List.map_reverse, h.num], fun i q p h1 h2 => ?_⟩
  have hi := (List.getElem?_eq_some_iff.1 h1).1
  rw [List.length_reverse] at hi
  rw [List.getElem?_reverse hi] at h1
  rw [List.getElem?_reverse (by omega)] at h2
  exact hx (h.row _ q p h1 (by rw [← h2, hlen]))

theorem Order_spec (h : sat E w H) (sz : UInt8) {lv : Value} (l : List Dd) (hl : Rds H lv l.length (l.flatMap dcells)) (hm : l.length ≤ 9223372036854775807) (hs : ∀ x ∈ l, OkD H x)
    (k : ∀ w', sat E w' H → K (.bool true) w') : Calls prog 3 #[bv sz, lv] w (Ret K) := by
  obtain ⟨al, cl, rfl, hcl, hl, _⟩ := hl.shape h
  have hdl := dcells_length l
  refine c3 ?_
  unfold B3
  have hN : sz.toNat % 20 + 2 ≤ 21 := by omega
  simp only [bv, ↓o_nil, ↓o_field, ↓o_add, ↓o_sub, ↓o_mul, ↓o_lss, ↓o_leq, ↓o_gtr, ↓o_geq, ↓o_not, ↓o_pick, ↓o_eqInt, ↓o_neInt, ↓o_eqBool, ↓o_neBool, ↓o_eqPtr, ↓o_nePtr, ↓o_eqPtr', ↓o_eqSl, ↓o_neSl, ↓o_eqStr, ↓o_neStr, ↓o_len, ↓o_lenS, ↓o_min, ↓o_max, ↓o_extract, ↓o_convInt, ↓cd_true, ↓cd_false, ↓gate_tt, ↓gate_ff, ↓gate_tf, ↓gate_ft, ↓gate_undef, ↓o_bind, ↓stay_v, ↓pop_cons, ↓fin_nil, Option.isNone_none, Option.isNone_some, Bool.not_true, Bool.not_false, Nat.zero_add, decide_true, decide_false, if_true, if_false, Bool.false_eq_true, ↓reduceIte]
  rw [o_rem (by decide)]
  try simp only [↓o_nil, ↓o_field, ↓o_add, ↓o_sub, ↓o_mul, ↓o_lss, ↓o_leq, ↓o_gtr, ↓o_geq, ↓o_not, ↓o_pick, ↓o_eqInt, ↓o_neInt, ↓o_eqBool, ↓o_neBool, ↓o_eqPtr, ↓o_nePtr, ↓o_eqPtr', ↓o_eqSl, ↓o_neSl, ↓o_eqStr, ↓o_neStr, ↓o_len, ↓o_lenS, ↓o_min, ↓o_max, ↓o_extract, ↓o_convInt, ↓cd_true, ↓cd_false, ↓gate_tt, ↓gate_ff, ↓gate_tf, ↓gate_ft, ↓gate_undef, ↓o_bind, ↓stay_v, ↓pop_cons, ↓fin_nil, Option.isNone_none, Option.isNone_some, Bool.not_true, Bool.not_false, Nat.zero_add, decide_true, decide_false, if_true, if_false, Bool.false_eq_true, ↓reduceIte]
  rw [mod_size]
  have hN2 : 2 ≤ sz.toNat % 20 + 2 := by omega
  generalize sz.toNat % 20 + 2 = N at hN hN2 ⊢
  rw [i64_of (by omega) (by omega), show (N : Int) + 10 = ((N + 10 : Nat) : Int) by omega]
  refine open_spec h hN2 (by omega) (by omega) fun p d b m r w h => ?_
  try simp only [↓o_nil, ↓o_field, ↓o_add, ↓o_sub, ↓o_mul, ↓o_lss, ↓o_leq, ↓o_gtr, ↓o_geq, ↓o_not, ↓o_pick, ↓o_eqInt, ↓o_neInt, ↓o_eqBool, ↓o_neBool, ↓o_eqPtr, ↓o_nePtr, ↓o_eqPtr', ↓o_eqSl, ↓o_neSl, ↓o_eqStr, ↓o_neStr, ↓o_len, ↓o_lenS, ↓o_min, ↓o_max, ↓o_extract, ↓o_convInt, ↓cd_true, ↓cd_false, ↓gate_tt, ↓gate_ff, ↓gate_tf, ↓gate_ft, ↓gate_undef, ↓o_bind, ↓stay_v, ↓pop_cons, ↓fin_nil, Option.isNone_none, Option.isNone_some, Bool.not_true, Bool.not_false, Nat.zero_add, decide_true, decide_false, if_true, if_false, Bool.false_eq_true, ↓reduceIte]
  have h : sat E w (lgI p d b (newL (N + 10) N) H) := by
    unfold lgI rlI at *
    exact (h.perm (show _ = pts m (.cells (rcells r N 0 0).toArray 105 (0, 0)) * (rdsk r (List.replicate (N + 10) zeros) [] * (pts p (.cells (lcells (newL (N + 10) N) d b).toArray 71 (0, 0)) * (dsk d (newL (N + 10) N).L (newL (N + 10) N).W * (omap b (mpA (newL (N + 10) N).a) * H)))) by ac_rfl)).drop.drop
  refine open_spec h hN2 (by omega) (by omega) fun p2 d2 b2 m2 r2 w h => ?_
  try simp only [↓o_nil, ↓o_field, ↓o_add, ↓o_sub, ↓o_mul, ↓o_lss, ↓o_leq, ↓o_gtr, ↓o_geq, ↓o_not, ↓o_pick, ↓o_eqInt, ↓o_neInt, ↓o_eqBool, ↓o_neBool, ↓o_eqPtr, ↓o_nePtr, ↓o_eqPtr', ↓o_eqSl, ↓o_neSl, ↓o_eqStr, ↓o_neStr, ↓o_len, ↓o_lenS, ↓o_min, ↓o_max, ↓o_extract, ↓o_convInt, ↓cd_true, ↓cd_false, ↓gate_tt, ↓gate_ff, ↓gate_tf, ↓gate_ft, ↓gate_undef, ↓o_bind, ↓stay_v, ↓pop_cons, ↓fin_nil, Option.isNone_none, Option.isNone_some, Bool.not_true, Bool.not_false, Nat.zero_add, decide_true, decide_false, if_true, if_false, Bool.false_eq_true, ↓reduceIte]
  have h : sat E w (lgI p2 d2 b2 (newL (N + 10) N) (lgI p d b (newL (N + 10) N) H)) := by
    unfold lgI rlI at *
    exact (h.perm (show _ = pts m2 (.cells (rcells r2 N 0 0).toArray 105 (0, 0)) * (rdsk r2 (List.replicate (N + 10) zeros) [] * (pts p2 (.cells (lcells (newL (N + 10) N) d2 b2).toArray 71 (0, 0)) * (dsk d2 (newL (N + 10) N).L (newL (N + 10) N).W * (omap b2 (mpA (newL (N + 10) N).a) * (pts p (.cells (lcells (newL (N + 10) N) d b).toArray 71 (0, 0)) * (dsk d (newL (N + 10) N).L (newL (N + 10) N).W * (omap b (mpA (newL (N + 10) N).a) * H))))))) by ac_rfl)).drop.drop
  refine live_spec h fun w h => ?_
  try simp only [↓o_nil, ↓o_field, ↓o_add, ↓o_sub, ↓o_mul, ↓o_lss, ↓o_leq, ↓o_gtr, ↓o_geq, ↓o_not, ↓o_pick, ↓o_eqInt, ↓o_neInt, ↓o_eqBool, ↓o_neBool, ↓o_eqPtr, ↓o_nePtr, ↓o_eqPtr', ↓o_eqSl, ↓o_neSl, ↓o_eqStr, ↓o_neStr, ↓o_len, ↓o_lenS, ↓o_min, ↓o_max, ↓o_extract, ↓o_convInt, ↓cd_true, ↓cd_false, ↓gate_tt, ↓gate_ff, ↓gate_tf, ↓gate_ft, ↓gate_undef, ↓o_bind, ↓stay_v, ↓pop_cons, ↓fin_nil, Option.isNone_none, Option.isNone_some, Bool.not_true, Bool.not_false, Nat.zero_add, decide_true, decide_false, if_true, if_false, Bool.false_eq_true, ↓reduceIte]
  refine lp_nat (fun q σ w => ∃ (i : Nat) (S : Lg) (gs : List (List Int)), σ = [.int .i64 i] ∧ q = 20 - i ∧ i ≤ 20 ∧ Far S gs N i ∧ sat E w (lgI p2 d2 b2 S (lgI p d b S H))) 20 ⟨0, _, [], rfl, rfl, by omega, Far.start hN2 hN, h⟩ ?_
  clear h
  rintro q σ w again ⟨i, S, gs, rfl, rfl, hi, f, h⟩ hag
  try simp only [↓o_nil, ↓o_field, ↓o_add, ↓o_sub, ↓o_mul, ↓o_lss, ↓o_leq, ↓o_gtr, ↓o_geq, ↓o_not, ↓o_pick, ↓o_eqInt, ↓o_neInt, ↓o_eqBool, ↓o_neBool, ↓o_eqPtr, ↓o_nePtr, ↓o_eqPtr', ↓o_eqSl, ↓o_neSl, ↓o_eqStr, ↓o_neStr, ↓o_len, ↓o_lenS, ↓o_min, ↓o_max, ↓o_extract, ↓o_convInt, ↓cd_true, ↓cd_false, ↓gate_tt, ↓gate_ff, ↓gate_tf, ↓gate_ft, ↓gate_undef, ↓o_bind, ↓stay_v, ↓pop_cons, ↓fin_nil, Option.isNone_none, Option.isNone_some, Bool.not_true, Bool.not_false, Nat.zero_add, decide_true, decide_false, if_true, if_false, Bool.false_eq_true, ↓reduceIte]
  have hfl := f.len; have hfw := f.w; have hfg := f.g; have hfew := f.i.few
  have hend : ∀ K' : Value → World → Prop, (∀ w', sat E w' H → K' (.bool true) w') → Calls prog 12 #[.pointer (some ⟨p, 0, none⟩)] w (Ret fun t_46 w => Calls prog 12 #[.pointer (some ⟨p2, 0, none⟩)] w (Ret fun t_47 w => Calls prog 11 #[t_46, t_47] w (Ret K'))) := by
    intro K' hK
    have h : sat E w (lgI p d b S (lgI p2 d2 b2 S H)) := by
      unfold lgI at h ⊢
      exact h.perm (by ac_rfl)
    refine Disk_spec h (by omega) (by omega) fun f1 w h => ?_
    have h : sat E w (lgI p2 d2 b2 S (dsk f1 S.L S.W * lgI p d b S H)) := by
      unfold lgI at h ⊢
      exact h.perm (by ac_rfl)
    refine Disk_spec h (by omega) (by omega) fun f2 w h => ?_
    have h : sat E w (dsk f1 S.L S.W * (dsk f2 S.L S.W * (lgI p d b S (lgI p2 d2 b2 S H)))) := by
      unfold lgI at h ⊢
      exact h.perm (by ac_rfl)
    refine Same_spec h (by omega) fun w h => ?_
    rw [decide_eq_true rfl]
    exact hK w (lg_drop (lg_drop h.drop.drop))
  by_cases h1 : (i : Int) < (l.length : Int)
  · by_cases h2 : (i : Int) < 20
    · simp only [h1, h2, ↓o_nil, ↓o_field, ↓o_add, ↓o_sub, ↓o_mul, ↓o_lss, ↓o_leq, ↓o_gtr, ↓o_geq, ↓o_not, ↓o_pick, ↓o_eqInt, ↓o_neInt, ↓o_eqBool, ↓o_neBool, ↓o_eqPtr, ↓o_nePtr, ↓o_eqPtr', ↓o_eqSl, ↓o_neSl, ↓o_eqStr, ↓o_neStr, ↓o_len, ↓o_lenS, ↓o_min, ↓o_max, ↓o_extract, ↓o_convInt, ↓cd_true, ↓cd_false, ↓gate_tt, ↓gate_ff, ↓gate_tf, ↓gate_ft, ↓gate_undef, ↓o_bind, ↓stay_v, ↓pop_cons, ↓fin_nil, Option.isNone_none, Option.isNone_some, Bool.not_true, Bool.not_false, Nat.zero_add, decide_true, decide_false, if_true, if_false, Bool.false_eq_true, ↓reduceIte]
      have hlt : i < l.length := by omega
      have hx := hs _ (List.getElem_mem hlt)
      have hwin := hl.win (lg_drop (lg_drop h))
      obtain ⟨b1, o1, rfl, _⟩ := win_cell hwin (j := i * 4) (by omega)
      rw [o_index (by omega) (by omega)]
      simp only [Int.toNat_natCast, ↓o_nil, ↓o_field, ↓o_add, ↓o_sub, ↓o_mul, ↓o_lss, ↓o_leq, ↓o_gtr, ↓o_geq, ↓o_not, ↓o_pick, ↓o_eqInt, ↓o_neInt, ↓o_eqBool, ↓o_neBool, ↓o_eqPtr, ↓o_nePtr, ↓o_eqPtr', ↓o_eqSl, ↓o_neSl, ↓o_eqStr, ↓o_neStr, ↓o_len, ↓o_lenS, ↓o_min, ↓o_max, ↓o_extract, ↓o_convInt, ↓cd_true, ↓cd_false, ↓gate_tt, ↓gate_ff, ↓gate_tf, ↓gate_ft, ↓gate_undef, ↓o_bind, ↓stay_v, ↓pop_cons, ↓fin_nil, Option.isNone_none, Option.isNone_some, Bool.not_true, Bool.not_false, Nat.zero_add, decide_true, decide_false, if_true, if_false, Bool.false_eq_true, ↓reduceIte]
      refine ld_el (lg_drop (lg_drop h)) hl (i * 4) rfl (dcells l[i]) rfl (dd_at hlt) ?_
      refine pages_spec h l[i] ⟨by unfold lgI; exact hx.rd.right.right.right.right.right.right, hx.len⟩ fun pv qs w hq h => ?_
      have honeA : ∀ (a : Nat) (ha : a < qs.length), (qs[a]).2.oneCell' = true := fun a ha => by
        have hqn := congrArg List.length hq
        simp only [List.length_map] at hqn
        obtain ⟨q', hq', _, hq2⟩ := (RdP.of (R := lgI p2 d2 b2 (S) (lgI p d b S H)) (v := pv) hq).at_ (i := a) (by omega)
        have e2 : qs[a] = q' := by rw [List.getElem?_eq_getElem ha, Option.some.injEq] at hq'; exact hq'
        rw [e2]
        obtain ⟨_, _, e, _⟩ := hq2.shape h
        rw [e]; rfl
      generalize hps : l[i].pgs = ps at h hq
      have hpn : ps.length ≤ 102 := by rw [← hps, Dd.pgs_length]; omega
      obtain ⟨ap, cp, rfl, hcp, _, _⟩ := osl_shape h
      have hqn : qs.length = ps.length := by have := congrArg List.length hq; simpa using this
      have hwl := wcells_length qs
      try simp only [↓o_nil, ↓o_field, ↓o_add, ↓o_sub, ↓o_mul, ↓o_lss, ↓o_leq, ↓o_gtr, ↓o_geq, ↓o_not, ↓o_pick, ↓o_eqInt, ↓o_neInt, ↓o_eqBool, ↓o_neBool, ↓o_eqPtr, ↓o_nePtr, ↓o_eqPtr', ↓o_eqSl, ↓o_neSl, ↓o_eqStr, ↓o_neStr, ↓o_len, ↓o_lenS, ↓o_min, ↓o_max, ↓o_extract, ↓o_convInt, ↓cd_true, ↓cd_false, ↓gate_tt, ↓gate_ff, ↓gate_tf, ↓gate_ft, ↓gate_undef, ↓o_bind, ↓stay_v, ↓pop_cons, ↓fin_nil, Option.isNone_none, Option.isNone_some, Bool.not_true, Bool.not_false, Nat.zero_add, decide_true, decide_false, if_true, if_false, Bool.false_eq_true, ↓reduceIte]
      rw [i64_of (n := (ps.length : Int) - 1) (by omega) (by omega)]
      generalize hY : rows (qs.map (·.2)) (bcells (ps.map (·.2))) * lgI p2 d2 b2 S (lgI p d b S H) = Y at h
      refine lp_nat (fun r σ w => ∃ (j : Nat) (v : Value), σ = [v, .int .i64 ((r : Int) - 1)] ∧ r ≤ ps.length ∧ r + j = ps.length ∧ sat E w (osl 35 2 v j (wcells (qs.reverse.take j)) * (osl 35 2 (.slice ap ps.length cp) ps.length (wcells qs) * Y))) ps.length ⟨0, _, rfl, Nat.le_refl _, by omega, osl_nil h 35 2⟩ ?_
      clear h
      rintro r σ w again2 ⟨j, v, rfl, hr, hrj, h⟩ hag2
      try simp only [↓o_nil, ↓o_field, ↓o_add, ↓o_sub, ↓o_mul, ↓o_lss, ↓o_leq, ↓o_gtr, ↓o_geq, ↓o_not, ↓o_pick, ↓o_eqInt, ↓o_neInt, ↓o_eqBool, ↓o_neBool, ↓o_eqPtr, ↓o_nePtr, ↓o_eqPtr', ↓o_eqSl, ↓o_neSl, ↓o_eqStr, ↓o_neStr, ↓o_len, ↓o_lenS, ↓o_min, ↓o_max, ↓o_extract, ↓o_convInt, ↓cd_true, ↓cd_false, ↓gate_tt, ↓gate_ff, ↓gate_tf, ↓gate_ft, ↓gate_undef, ↓o_bind, ↓stay_v, ↓pop_cons, ↓fin_nil, Option.isNone_none, Option.isNone_some, Bool.not_true, Bool.not_false, Nat.zero_add, decide_true, decide_false, if_true, if_false, Bool.false_eq_true, ↓reduceIte]
      refine cd_dec (fun hge => ?_) (fun hlt2 => ?_)
      · obtain ⟨a, rfl⟩ : ∃ a, r = a + 1 := ⟨r - 1, by omega⟩
        have hrd : Rds (osl 35 2 v j (wcells (qs.reverse.take j)) * (osl 35 2 (.slice ap ps.length cp) ps.length (wcells qs) * Y)) (.slice ap ps.length cp) ps.length (wcells qs) := Rds.osl.left.right
        have hwin2 := hrd.win h
        obtain ⟨b3, o3, rfl, _⟩ := win_cell hwin2 (j := a * 2) (by omega)
        rw [show ((a + 1 : Nat) : Int) - 1 = (a : Int) by omega, o_index (by omega) (by omega)]
        simp only [Int.toNat_natCast, ↓o_nil, ↓o_field, ↓o_add, ↓o_sub, ↓o_mul, ↓o_lss, ↓o_leq, ↓o_gtr, ↓o_geq, ↓o_not, ↓o_pick, ↓o_eqInt, ↓o_neInt, ↓o_eqBool, ↓o_neBool, ↓o_eqPtr, ↓o_nePtr, ↓o_eqPtr', ↓o_eqSl, ↓o_neSl, ↓o_eqStr, ↓o_neStr, ↓o_len, ↓o_lenS, ↓o_min, ↓o_max, ↓o_extract, ↓o_convInt, ↓cd_true, ↓cd_false, ↓gate_tt, ↓gate_ff, ↓gate_tf, ↓gate_ft, ↓gate_undef, ↓o_bind, ↓stay_v, ↓pop_cons, ↓fin_nil, Option.isNone_none, Option.isNone_some, Bool.not_true, Bool.not_false, Nat.zero_add, decide_true, decide_false, if_true, if_false, Bool.false_eq_true, ↓reduceIte]
        have hqa : qs[a]? = some qs[a] := List.getElem?_eq_getElem (by omega)
        refine ld_el h hrd (a * 2) rfl [.int .i64 (qs[a]).1, (qs[a]).2] rfl (wcells_el hqa) ?_
        have hone := honeA a (by omega)
        refine buildSlice_sl (e := 35) (cs := #[.int .i64 (qs[a]).1, (qs[a]).2]) h (fun w => by first | kernel_rfl | skip) fun b4 w h => ?_
        have h := h.owns v
        refine append_sl h [.int .i64 (qs[a]).1, (qs[a]).2] rfl (.inr ⟨b4, 0, _, 35, (0, 0), rfl, h.drop.pts_get, fun j u hj => by simpa using hj⟩) (by intro x hx; simp at hx; rcases hx with rfl | rfl <;> first | rfl | exact hone) (by omega) (by omega) fun v2 w h => ?_
        rw [i64_of (by omega) (by omega)]
        refine hag2 a _ _ (by omega) ⟨j + 1, v2, rfl, by omega, by omega, ?_⟩
        have e1 : wcells (qs.reverse.take j) ++ [Value.int .i64 (qs[a]).1, (qs[a]).2] = wcells (qs.reverse.take (j + 1)) := by
          have hj : qs.reverse[j]? = some qs[a] := by
            rw [List.getElem?_reverse (by omega), show qs.length - 1 - j = a by omega, hqa]
          rw [List.take_succ, hj, Option.toList_some, wcells_snoc]
        rw [← e1]
        exact (h.perm (star_left_comm _ _ _)).drop
      · have hr0 : r = 0 := by omega
        subst hr0
        have hj : j = ps.length := by omega
        subst hj
        rw [List.take_of_length_le (by rw [List.length_reverse]; omega)] at h
        subst hY
        have h : sat E w (lgI p d b S (osl 35 2 (.slice ap ps.length cp) ps.length (wcells qs) * (rows (qs.map (·.2)) (bcells (ps.map (·.2))) * (osl 35 2 v ps.length (wcells qs.reverse) * lgI p2 d2 b2 S H)))) := by
          unfold lgI at h ⊢
          exact h.perm (by ac_rfl)
        have hrd0 : RdP (osl 35 2 (.slice ap ps.length cp) ps.length (wcells qs) * (rows (qs.map (·.2)) (bcells (ps.map (·.2))) * (osl 35 2 v ps.length (wcells qs.reverse) * lgI p2 d2 b2 S H))) (.slice ap ps.length cp) qs ps := by
          subst hps
          exact RdP.of hq
        refine Commit_spec f.i h hrd0 (by omega) (by omega) fun w h => ?_
        have hperm : ps.reverse.Perm ps := List.reverse_perm ps
        have h : sat E w (lgI p2 d2 b2 S (osl 35 2 (.slice ap ps.length cp) ps.length (wcells qs) * (rows (qs.map (·.2)) (bcells (ps.map (·.2))) * (osl 35 2 v ps.length (wcells qs.reverse) * lgI p d b (commitS S ps) H)))) := by
          unfold lgI at h ⊢
          exact h.perm (by ac_rfl)
        have hrd1 : RdP (osl 35 2 (.slice ap ps.length cp) ps.length (wcells qs) * (rows (qs.map (·.2)) (bcells (ps.map (·.2))) * (osl 35 2 v ps.length (wcells qs.reverse) * lgI p d b (commitS S ps) H))) v qs.reverse ps.reverse := by
          subst hps
          exact RdP.rev (RdP.of (R := osl 35 2 v l[i].pgs.length (wcells qs.reverse) * lgI p d b (commitS S l[i].pgs) H) hq) Rds.osl.left.right.right fun hh => hh
        refine Commit_spec f.i h hrd1 (by omega) (by omega) fun w h => ?_
        rw [err_perm hperm]
        rw [commit_perm hperm] at h
        have h : sat E w (lgI p2 d2 b2 (commitS S ps) (lgI p d b (commitS S ps) H)) := by
          have h := h.perm (show _ = osl 35 2 (.slice ap ps.length cp) ps.length (wcells qs) * (rows (qs.map (·.2)) (bcells (ps.map (·.2))) * (osl 35 2 v ps.length (wcells qs.reverse) * (lgI p2 d2 b2 (commitS S ps) (lgI p d b (commitS S ps) H)))) by unfold lgI; ac_rfl)
          exact h.drop.drop.drop
        obtain ⟨gs', f'⟩ := f.commit ps
        simp only [decide_true, ↓o_nil, ↓o_field, ↓o_add, ↓o_sub, ↓o_mul, ↓o_lss, ↓o_leq, ↓o_gtr, ↓o_geq, ↓o_not, ↓o_pick, ↓o_eqInt, ↓o_neInt, ↓o_eqBool, ↓o_neBool, ↓o_eqPtr, ↓o_nePtr, ↓o_eqPtr', ↓o_eqSl, ↓o_neSl, ↓o_eqStr, ↓o_neStr, ↓o_len, ↓o_lenS, ↓o_min, ↓o_max, ↓o_extract, ↓o_convInt, ↓cd_true, ↓cd_false, ↓gate_tt, ↓gate_ff, ↓gate_tf, ↓gate_ft, ↓gate_undef, ↓o_bind, ↓stay_v, ↓pop_cons, ↓fin_nil, Option.isNone_none, Option.isNone_some, Bool.not_true, Bool.not_false, Nat.zero_add, decide_true, decide_false, if_true, if_false, Bool.false_eq_true, ↓reduceIte]
        rw [i64_of (by omega) (by omega)]
        exact hag (20 - (i + 1)) _ _ (by omega) ⟨i + 1, _, gs', rfl, rfl, by omega, f', h⟩
    · simp only [h1, h2, ↓o_nil, ↓o_field, ↓o_add, ↓o_sub, ↓o_mul, ↓o_lss, ↓o_leq, ↓o_gtr, ↓o_geq, ↓o_not, ↓o_pick, ↓o_eqInt, ↓o_neInt, ↓o_eqBool, ↓o_neBool, ↓o_eqPtr, ↓o_nePtr, ↓o_eqPtr', ↓o_eqSl, ↓o_neSl, ↓o_eqStr, ↓o_neStr, ↓o_len, ↓o_lenS, ↓o_min, ↓o_max, ↓o_extract, ↓o_convInt, ↓cd_true, ↓cd_false, ↓gate_tt, ↓gate_ff, ↓gate_tf, ↓gate_ft, ↓gate_undef, ↓o_bind, ↓stay_v, ↓pop_cons, ↓fin_nil, Option.isNone_none, Option.isNone_some, Bool.not_true, Bool.not_false, Nat.zero_add, decide_true, decide_false, if_true, if_false, Bool.false_eq_true, ↓reduceIte]
      exact hend _ fun w' h' => k w' h'
  · simp only [h1, ↓o_nil, ↓o_field, ↓o_add, ↓o_sub, ↓o_mul, ↓o_lss, ↓o_leq, ↓o_gtr, ↓o_geq, ↓o_not, ↓o_pick, ↓o_eqInt, ↓o_neInt, ↓o_eqBool, ↓o_neBool, ↓o_eqPtr, ↓o_nePtr, ↓o_eqPtr', ↓o_eqSl, ↓o_neSl, ↓o_eqStr, ↓o_neStr, ↓o_len, ↓o_lenS, ↓o_min, ↓o_max, ↓o_extract, ↓o_convInt, ↓cd_true, ↓cd_false, ↓gate_tt, ↓gate_ff, ↓gate_tf, ↓gate_ft, ↓gate_undef, ↓o_bind, ↓stay_v, ↓pop_cons, ↓fin_nil, Option.isNone_none, Option.isNone_some, Bool.not_true, Bool.not_false, Nat.zero_add, decide_true, decide_false, if_true, if_false, Bool.false_eq_true, ↓reduceIte]
    exact hend _ fun w' h' => k w' h'
end Go.Proofs.Ytgkeplodfkmnlaa.Order
