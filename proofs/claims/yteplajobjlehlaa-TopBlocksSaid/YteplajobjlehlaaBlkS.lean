/-
  Images; what is the same; what was written.
-/
import Derived.Test.YteplajobjlehlaaBlkR
set_option linter.all false
set_option maxRecDepth 10000
namespace Go.Proofs.Yteplajobjlehlaa
open Go Hold
variable {E : World0} {w : World} {H R : HP} {K : Value → World → Prop}

theorem Rdd.under {H0 H1 R1 : HP} {v : Value} {L : List (List UInt8)} (h : Rdd H1 v L) [s : Split H0 H1 R1] : Rdd H0 v L :=
  let ⟨vs, h1, h2, h3⟩ := h
  ⟨vs, Rds.under h1, h2, fun i u l a b => Rds.under (h3 i u l a b)⟩

/-- CopyAll, of the references. -/
theorem CopyAll_spec (h : sat E w H) {v : Value} {L : List (List UInt8)} (hr : Rdd H v L) (hn : L.length ≤ 1024) (hl : ∀ l ∈ L, l.length ≤ 140737488355328)
    (k : ∀ v' vs' w', sat E w' (osl 32 1 v' L.length vs' * (pers (immAll vs' L) * H)) → K v' w') : Calls prog 51 #[v] w (Ret K) := by
  obtain ⟨vs, hv, hlen, hall⟩ := hr
  obtain ⟨a, c, rfl, hc, hv, ha⟩ := hv.shape h
  refine c51 ?_
  unfold B51
  refine lp_nat (fun n σ w => ∃ (i : Nat) (ov : Value) (us : List Value), σ = [ov, .int .i64 i] ∧ n = L.length - i ∧ i ≤ L.length ∧
    sat E w (osl 32 1 ov i us * (pers (immAll us (L.take i)) * H))) L.length ⟨0, _, [], rfl, rfl, by omega, ?_⟩ ?_
  · exact (immAll_nil (osl_nil h 32 1)).perm (by simp only [List.take_zero]; ac_rfl)
  · rintro n σ w again ⟨i, ov, us, rfl, rfl, hi, h⟩ hag
    simp only [↓o_nil, ↓o_field, ↓o_add, ↓o_sub, ↓o_mul, ↓o_lss, ↓o_leq, ↓o_gtr, ↓o_geq, ↓o_not, ↓o_pick, ↓o_eqInt, ↓o_neInt, ↓o_eqBool, ↓o_neBool, ↓o_eqPtr, ↓o_nePtr, ↓o_eqPtr', ↓o_eqSl, ↓o_neSl, ↓o_eqStr, ↓o_neStr, ↓o_len, ↓o_lenS, ↓o_min, ↓o_max, ↓o_extract, ↓o_convInt, ↓cd_true, ↓cd_false, ↓gate_tt, ↓gate_ff, ↓gate_tf, ↓gate_ft, ↓gate_undef, ↓pop_cons, ↓fin_nil, Option.isNone_none, Option.isNone_some, Bool.not_true, Bool.not_false, Nat.zero_add, decide_true, decide_false, if_true, if_false, Bool.false_eq_true, ↓reduceIte]
    refine cd_dec (fun hlt => ?_) (fun hge => ?_)
    · have hlt : i < L.length := by omega
      obtain ⟨b', o', rfl, hb'⟩ := win_cell (hv.win h.drop.drop) (j := i) (by omega)
      rw [o_index (by omega) (by omega)]
      simp only [Int.toNat_natCast, Nat.mul_one]
      refine ld_cell hb' ?_
      have hcl := hall i vs[i] L[i] (List.getElem?_eq_getElem (by omega)) (List.getElem?_eq_getElem hlt)
      refine Copy_spec h hcl.right.right (hl _ (List.getElem_mem _)) ?_
      intro v' w2 h2
      have hf := osl_freeze h2
      obtain ⟨a3, c3, rfl, _, _, _⟩ := osl_shape h2
      refine buildSlice_sl (e := 32) (cs := #[.slice a3 L[i].length c3]) hf (fun w => by kernel_rfl) fun b1 w h => ?_
      refine append_sl h [.slice a3 L[i].length c3] rfl (.inr ⟨b1, 0, _, 32, (0, 0), rfl, h.pts_get, fun j v hj => by simpa using hj⟩) (by simp [Value.oneCell']) (by omega) (by omega) fun ov' w h => ?_
      rw [i64_of (by omega) (by omega)]
      refine hag _ _ _ (by omega) ⟨i + 1, ov', us ++ [.slice a3 L[i].length c3], rfl, rfl, by omega, ?_⟩
      have h := sat_imp2 (h.lose b1) (immS (.slice a3 L[i].length c3) L[i].length (L[i].map bv)) (immAll us (L.take i)) (χ := immAll (us ++ [.slice a3 L[i].length c3]) (L.take i ++ [L[i]])) (fun I h1 h2 => immAll_snoc (v := .slice a3 L[i].length c3) h2 h1)
      rw [← List.take_succ_eq_append_getElem hlt] at h
      exact h.perm (by ac_rfl)
    · have : i = L.length := by omega
      subst this
      simp only [List.take_length] at h
      exact k ov us w h

theorem Image_nil (k : K (.slice none 0 0) w) : Calls prog 14 #[.pointer none] w (Ret K) := by
  refine c14 ?_
  unfold B14
  simp only [↓o_nil, ↓o_field, ↓o_add, ↓o_sub, ↓o_mul, ↓o_lss, ↓o_leq, ↓o_gtr, ↓o_geq, ↓o_not, ↓o_pick, ↓o_eqInt, ↓o_neInt, ↓o_eqBool, ↓o_neBool, ↓o_eqPtr, ↓o_nePtr, ↓o_eqPtr', ↓o_eqSl, ↓o_neSl, ↓o_eqStr, ↓o_neStr, ↓o_len, ↓o_lenS, ↓o_min, ↓o_max, ↓o_extract, ↓o_convInt, ↓cd_true, ↓cd_false, ↓gate_tt, ↓gate_ff, ↓gate_tf, ↓gate_ft, ↓gate_undef, ↓pop_cons, ↓fin_nil, Option.isNone_none, Option.isNone_some, Bool.not_true, Bool.not_false, Nat.zero_add, decide_true, decide_false, if_true, if_false, Bool.false_eq_true, ↓reduceIte]
  exact k
theorem Image_spec {d : Nat} {L : List (List UInt8)} {W : List (Int × List UInt8)} (h : sat E w H) [s : DskS H d L W R] (wf : Wf L W)
    (k : ∀ v' vs' w', sat E w' (osl 32 1 v' L.length vs' * (pers (immAll vs' L) * H)) → K v' w') : Calls prog 14 #[.pointer (some ⟨d, 0, none⟩)] w (Ret K) := by
  obtain ⟨lv, vs, wv, ws, e, hd⟩ := sat_dsk.1 (h.dsks d)
  refine c14 ?_
  unfold B14
  simp only [↓o_nil, ↓o_field, ↓o_add, ↓o_sub, ↓o_mul, ↓o_lss, ↓o_leq, ↓o_gtr, ↓o_geq, ↓o_not, ↓o_pick, ↓o_eqInt, ↓o_neInt, ↓o_eqBool, ↓o_neBool, ↓o_eqPtr, ↓o_nePtr, ↓o_eqPtr', ↓o_eqSl, ↓o_neSl, ↓o_eqStr, ↓o_neStr, ↓o_len, ↓o_lenS, ↓o_min, ↓o_max, ↓o_extract, ↓o_convInt, ↓cd_true, ↓cd_false, ↓gate_tt, ↓gate_ff, ↓gate_tf, ↓gate_ft, ↓gate_undef, ↓pop_cons, ↓fin_nil, Option.isNone_none, Option.isNone_some, Bool.not_true, Bool.not_false, Nat.zero_add, decide_true, decide_false, if_true, if_false, Bool.false_eq_true, ↓reduceIte]
  refine ld_at hd ?_
  refine copied_spec hd (rdd_of hd) wf.le (fun l hl => by rw [wf.l l hl]; omega) fun v' vs' w _ h => k v' vs' w ?_
  have h := dsk_shut d L W e h
  exact h.perm (by rw [s.eq]; ac_rfl)

/-- The writes done, again. -/
def redo (F : List (List UInt8)) (V : List (Int × List UInt8)) : List (List UInt8) := V.foldl (fun L p => L.set p.1.toNat p.2) F
theorem redo_length : ∀ (V : List (Int × List UInt8)) (F : List (List UInt8)), (redo F V).length = F.length
  | [], _ => rfl
  | p :: r, F => by
    have := redo_length r (F.set p.1.toNat p.2)
    simp [redo] at this ⊢; exact this
theorem redo_snoc (F : List (List UInt8)) (V : List (Int × List UInt8)) (p : Int × List UInt8) : redo F (V ++ [p]) = (redo F V).set p.1.toNat p.2 := by simp [redo]

theorem rAt_spec {r : Nat} {F : List (List UInt8)} {V : List (Int × List UInt8)} (h : sat E w H) [s : RdkS H r F V R] (wf : Wf F V) (hV : V.length ≤ 1000000) {n : Nat} (hn : n ≤ V.length)
    (k : ∀ v' vs' w', sat E w' (osl 32 1 v' F.length vs' * (pers (immAll vs' (redo F (V.take n))) * H)) → K v' w') : Calls prog 45 #[.pointer (some ⟨r, 0, none⟩), .int .i64 n] w (Ret K) := by
  obtain ⟨fv, vs, lv, ws, e, hd⟩ := sat_rdsk.1 (h.rdks r)
  have hL2 : ws.length = V.length := by simpa using hd.drop.drop.drop.drop.pers_get.1
  obtain ⟨al, cl, rfl, hcl, hll, _⟩ := osl_shape hd.drop.drop
  have hwl := wcells_length ws
  refine c45 ?_
  unfold B45
  simp only [↓o_nil, ↓o_field, ↓o_add, ↓o_sub, ↓o_mul, ↓o_lss, ↓o_leq, ↓o_gtr, ↓o_geq, ↓o_not, ↓o_pick, ↓o_eqInt, ↓o_neInt, ↓o_eqBool, ↓o_neBool, ↓o_eqPtr, ↓o_nePtr, ↓o_eqPtr', ↓o_eqSl, ↓o_neSl, ↓o_eqStr, ↓o_neStr, ↓o_len, ↓o_lenS, ↓o_min, ↓o_max, ↓o_extract, ↓o_convInt, ↓cd_true, ↓cd_false, ↓gate_tt, ↓gate_ff, ↓gate_tf, ↓gate_ft, ↓gate_undef, ↓pop_cons, ↓fin_nil, Option.isNone_none, Option.isNone_some, Bool.not_true, Bool.not_false, Nat.zero_add, decide_true, decide_false, if_true, if_false, Bool.false_eq_true, ↓reduceIte]
  refine ld_at hd ?_
  refine CopyAll_spec hd (rdd_of hd) wf.le (fun l hl => by rw [wf.l l hl]; omega) fun ov us w hd => ?_
  obtain ⟨ao, co, rfl, hco, hol, hoa⟩ := osl_shape hd
  obtain ⟨bo, rfl⟩ := hoa wf.pos
  refine lp_nat (fun m σ w => ∃ (i : Nat) (us : List Value), σ = [.int .i64 i] ∧ m = n - i ∧ i ≤ n ∧
    sat E w (osl 32 1 (.slice (some ⟨bo, 0, none⟩) F.length co) F.length us * (pers (immAll us (redo F (V.take i))) * (pts r (.cells [fv, .slice al V.length cl].toArray 50 (0, 0)) * (osl 32 1 fv F.length vs * (osl 52 2 (.slice al V.length cl) V.length (wcells ws) * (pers (immAll vs F) * (pers (immAll (ws.map (·.2)) (V.map (·.2))) * R)))))))) n ⟨0, us, rfl, rfl, by omega, hd⟩ ?_
  rintro m σ w again ⟨i, us, rfl, rfl, hi, h⟩ hag
  simp only [↓o_nil, ↓o_field, ↓o_add, ↓o_sub, ↓o_mul, ↓o_lss, ↓o_leq, ↓o_gtr, ↓o_geq, ↓o_not, ↓o_pick, ↓o_eqInt, ↓o_neInt, ↓o_eqBool, ↓o_neBool, ↓o_eqPtr, ↓o_nePtr, ↓o_eqPtr', ↓o_eqSl, ↓o_neSl, ↓o_eqStr, ↓o_neStr, ↓o_len, ↓o_lenS, ↓o_min, ↓o_max, ↓o_extract, ↓o_convInt, ↓cd_true, ↓cd_false, ↓gate_tt, ↓gate_ff, ↓gate_tf, ↓gate_ft, ↓gate_undef, ↓pop_cons, ↓fin_nil, Option.isNone_none, Option.isNone_some, Bool.not_true, Bool.not_false, Nat.zero_add, decide_true, decide_false, if_true, if_false, Bool.false_eq_true, ↓reduceIte]
  refine cd_dec (fun hlt => ?_) (fun hge => ?_)
  · have hlt : i < n := by omega
    have hj1 : i < ws.length := by omega
    have hj2 : i < V.length := by omega
    have e2 : ws[i].1 = V[i].1 := by
      have := congrArg (fun l => l[i]?) e
      simp only [List.getElem?_map, List.getElem?_eq_getElem hj1, List.getElem?_eq_getElem hj2, Option.map_some, Option.some.injEq] at this
      exact this
    obtain ⟨w1, w2, w3⟩ := wf.w V[i] (List.getElem_mem hj2)
    obtain ⟨p, hp⟩ := Int.eq_ofNat_of_zero_le w1
    have hpl : p < F.length := by omega
    obtain ⟨g1, g2⟩ := wcells_get ws i hj1
    have hrd : Rds (pers (immAll (ws.map (·.2)) (V.map (·.2)))) ws[i].2 V[i].2.length (V[i].2.map bv) :=
      immAll_rds (i := i) (by simp [List.getElem?_eq_getElem hj1]) (by simp [List.getElem?_eq_getElem hj2])
    obtain ⟨bl, cl', sp, hvl, _, _, hP, _⟩ := osl_open (h.owns (.slice al V.length cl)) (by omega)
    cases hvl
    refine dr_sl h fun w h _ => ?_
    have hrow : ∀ {w : World} {X : HP}, sat E w X → [OwnS X (.slice (some ⟨bl, 0, none⟩) V.length cl) 52 2 V.length (wcells ws) R] → True := fun _ _ => trivial
    refine ld_at h ?_
    rw [o_index (by omega) (by omega)]
    simp only [Int.toNat_natCast, Nat.zero_add, ↓o_nil, ↓o_field, ↓o_add, ↓o_sub, ↓o_mul, ↓o_lss, ↓o_leq, ↓o_gtr, ↓o_geq, ↓o_not, ↓o_pick, ↓o_eqInt, ↓o_neInt, ↓o_eqBool, ↓o_neBool, ↓o_eqPtr, ↓o_nePtr, ↓o_eqPtr', ↓o_eqSl, ↓o_neSl, ↓o_eqStr, ↓o_neStr, ↓o_len, ↓o_lenS, ↓o_min, ↓o_max, ↓o_extract, ↓o_convInt, ↓cd_true, ↓cd_false, ↓gate_tt, ↓gate_ff, ↓gate_tf, ↓gate_ft, ↓gate_undef, ↓pop_cons, ↓fin_nil, Option.isNone_none, Option.isNone_some, Bool.not_true, Bool.not_false, Nat.zero_add, decide_true, decide_false, if_true, if_false, Bool.false_eq_true, ↓reduceIte]
    have hwin := (Rds.own (v := .slice (some ⟨bl, 0, none⟩) V.length cl)).win h
    refine ld_cell (v := .int .i64 p) (by have := hwin.cell bl 0 rfl _ _ g1; rw [e2, hp] at this; simpa using this) ?_
    refine ld_at h ?_
    rw [o_index (by omega) (by omega)]
    simp only [Int.toNat_natCast, Nat.zero_add, ↓o_nil, ↓o_field, ↓o_add, ↓o_sub, ↓o_mul, ↓o_lss, ↓o_leq, ↓o_gtr, ↓o_geq, ↓o_not, ↓o_pick, ↓o_eqInt, ↓o_neInt, ↓o_eqBool, ↓o_neBool, ↓o_eqPtr, ↓o_nePtr, ↓o_eqPtr', ↓o_eqSl, ↓o_neSl, ↓o_eqStr, ↓o_neStr, ↓o_len, ↓o_lenS, ↓o_min, ↓o_max, ↓o_extract, ↓o_convInt, ↓cd_true, ↓cd_false, ↓gate_tt, ↓gate_ff, ↓gate_tf, ↓gate_ft, ↓gate_undef, ↓pop_cons, ↓fin_nil, Option.isNone_none, Option.isNone_some, Bool.not_true, Bool.not_false, Nat.zero_add, decide_true, decide_false, if_true, if_false, Bool.false_eq_true, ↓reduceIte]
    refine ld_cell (v := ws[i].2) (by simpa using hwin.cell bl 0 rfl _ _ g2) ?_
    refine Copy_spec h (Rds.under hrd) (by omega) fun v5 w h => ?_
    have h := osl_freeze h
    obtain ⟨a5, c5, rfl, hc5, _⟩ := h.pers_get
    have hwin := (Rds.own (v := .slice (some ⟨bl, 0, none⟩) V.length cl)).win h
    refine st_at h ?_
    refine st_cell (by have := hwin.cell bl 0 rfl _ _ g1; rw [e2, hp] at this; simpa using this) ?_
    refine st_at h ?_
    rw [o_index (by omega) (by omega)]
    simp only [Int.toNat_natCast, Nat.mul_one, Nat.zero_add]
    refine osl_store h (c := co) hpl rfl fun w h => ?_
    rw [i64_of (by omega) (by omega)]
    refine hag _ _ _ (by omega) ⟨i + 1, us.set p (.slice a5 V[i].2.length c5), rfl, rfl, by omega, ?_⟩
    have eu : redo F (V.take (i + 1)) = (redo F (V.take i)).set p V[i].2 := by
      rw [List.take_succ_eq_append_getElem hj2, redo_snoc, hp]; rfl
    rw [eu]
    have h := sat_imp2 h (immS (.slice a5 V[i].2.length c5) V[i].2.length (V[i].2.map bv)) (immAll us (redo F (V.take i)))
      (χ := immAll (us.set p (.slice a5 V[i].2.length c5)) ((redo F (V.take i)).set p V[i].2)) (fun I h1 h2 => immAll_set h2 h1)
    exact h.perm (by ac_rfl)
  · have : i = n := by omega
    subst this
    refine k _ us w ?_
    have h := rdsk_shut r F V rfl rfl e h
    exact h.perm (by rw [s.eq]; ac_rfl)
end Go.Proofs.Yteplajobjlehlaa
