/-
  The disk of the references.
-/
import Derived.Test.YtgkeplodfkmnlaaGreatWalT
import Derived.Test.YtgkeplodfkmnlaaGreatElems
set_option linter.all false
set_option maxRecDepth 100000
namespace Go.Proofs.YtgkeplodfkmnlaaGreat
open Go Hold
variable {E : World0} {w : World} {H R : HP} {K : Value → World → Prop}
/-- The reference's disk at r: the first blocks F, all writes V. -/
def rdsk (r : Nat) (F : List (List UInt8)) (V : List (Int × List UInt8)) : HP :=
  ex fun q : Value × List Value × Value × List (Int × Value) =>
    pts r (.cells [q.1, q.2.2.1].toArray 105 (0, 0)) *
    (osl 60 1 q.1 F.length q.2.1 * (osl 132 2 q.2.2.1 V.length (wcells q.2.2.2) * (pers (immAll q.2.1 F) * pers (immAll (q.2.2.2.map (·.2)) (V.map (·.2))) * pur (q.2.2.2.map (·.1) = V.map (·.1)))))
theorem sat_rdsk {r : Nat} {F : List (List UInt8)} {V : List (Int × List UInt8)} : sat E w (rdsk r F V * R) ↔
    ∃ fv vs lv ws, ws.map (·.1) = V.map (·.1) ∧ sat E w (pts r (.cells [fv, lv].toArray 105 (0, 0)) * (osl 60 1 fv F.length vs * (osl 132 2 lv V.length (wcells ws) * (pers (immAll vs F) * (pers (immAll (ws.map (·.2)) (V.map (·.2))) * R))))) := by
  unfold rdsk
  rw [sat_ex_star]
  constructor
  · rintro ⟨⟨fv, vs, lv, ws⟩, h⟩
    simp only at h
    have h2 : sat E w (pur (ws.map (·.1) = V.map (·.1)) * (pts r (.cells [fv, lv].toArray 105 (0, 0)) * (osl 60 1 fv F.length vs * (osl 132 2 lv V.length (wcells ws) * (pers (immAll vs F) * (pers (immAll (ws.map (·.2)) (V.map (·.2))) * R)))))) := h.perm (by ac_rfl)
    rw [sat_pur_star] at h2
    exact ⟨fv, vs, lv, ws, h2.1, h2.2⟩
  · rintro ⟨fv, vs, lv, ws, e, h⟩
    refine ⟨⟨fv, vs, lv, ws⟩, ?_⟩
    have h2 : sat E w (pur (ws.map (·.1) = V.map (·.1)) * (pts r (.cells [fv, lv].toArray 105 (0, 0)) * (osl 60 1 fv F.length vs * (osl 132 2 lv V.length (wcells ws) * (pers (immAll vs F) * (pers (immAll (ws.map (·.2)) (V.map (·.2))) * R)))))) := sat_pur_star.2 ⟨e, h⟩
    exact h2.perm (by ac_rfl)
class RdkS (H : HP) (r : Nat) (F : outParam (List (List UInt8))) (V : outParam (List (Int × List UInt8))) (R : outParam HP) : Prop where eq : H = rdsk r F V * R
instance (priority := 1100) RdkS.here (d : Nat) (L : List (List UInt8)) (W : List (Int × List UInt8)) (R : HP) : RdkS (rdsk d L W * R) d L W R := ⟨rfl⟩
instance (priority := 1050) RdkS.there (d : Nat) (L : List (List UInt8)) (W : List (Int × List UInt8)) (R : HP) : RdkS (R * rdsk d L W) d L W R := ⟨star_comm _ _⟩
instance (priority := 900) RdkS.right (P1 P2 : HP) (d : Nat) (L : List (List UInt8)) (W : List (Int × List UInt8)) (R : HP) [h : RdkS P2 d L W R] : RdkS (P1 * P2) d L W (P1 * R) := ⟨by rw [h.eq, star_left_comm]⟩
instance (priority := 800) RdkS.left (P1 P2 : HP) (d : Nat) (L : List (List UInt8)) (W : List (Int × List UInt8)) (R : HP) [h : RdkS P1 d L W R] : RdkS (P1 * P2) d L W (R * P2) := ⟨by rw [h.eq, star_assoc]⟩
instance (priority := 100) RdkS.all (d : Nat) (L : List (List UInt8)) (W : List (Int × List UInt8)) : RdkS (rdsk d L W) d L W emp := ⟨(star_emp _).symm⟩
theorem _root_.Hold.sat.rdks (h : sat E w H) (d : Nat) {L : List (List UInt8)} {W : List (Int × List UInt8)} [s : RdkS H d L W R] : sat E w (rdsk d L W * R) := h.perm s.eq
theorem rdsk_shut (r : Nat) (F : List (List UInt8)) (V : List (Int × List UInt8)) {fv lv : Value} {vs : List Value} {ws : List (Int × Value)} {R1 R2 R3 R4 R5 : HP} {m m2 : Nat} (hm : m = F.length) (hm2 : m2 = V.length) (e : ws.map (·.1) = V.map (·.1)) (h : sat E w H)
    [s1 : Own H r (.cells [fv, lv].toArray 105 (0, 0)) R1] [s2 : OwnS R1 fv 60 1 m vs R2] [s3 : OwnS R2 lv 132 2 m2 (wcells ws) R3]
    [s4 : Split R3 (pers (immAll vs F)) R4] [s5 : Split R4 (pers (immAll (ws.map (·.2)) (V.map (·.2)))) R5] : sat E w (rdsk r F V * R5) := by
  subst hm; subst hm2
  exact sat_rdsk.2 ⟨fv, vs, lv, ws, e, by rw [← s5.eq, ← s4.eq, ← s3.eq, ← s2.eq, ← s1.eq]; exact h⟩
theorem rNew_bad {n : Int} (hn : n < 1 ∨ 1024 < n) (k : K (.tuple #[.pointer none, .int .i64 2]) w) : Calls prog 27 #[.int .i64 n] w (Ret K) := by
  refine c27 ?_
  unfold B27
  by_cases h1 : n < 1
  · simp only [↓o_nil, ↓o_field, ↓o_add, ↓o_sub, ↓o_mul, ↓o_lss, ↓o_leq, ↓o_gtr, ↓o_geq, ↓o_not, ↓o_pick, ↓o_eqInt, ↓o_neInt, ↓o_eqBool, ↓o_neBool, ↓o_eqPtr, ↓o_nePtr, ↓o_eqPtr', ↓o_eqSl, ↓o_neSl, ↓o_eqStr, ↓o_neStr, ↓o_len, ↓o_lenS, ↓o_min, ↓o_max, ↓o_extract, ↓o_convInt, ↓cd_true, ↓cd_false, ↓gate_tt, ↓gate_ff, ↓gate_tf, ↓gate_ft, ↓gate_undef, ↓o_bind, ↓stay_v, ↓pop_cons, ↓fin_nil, Option.isNone_none, Option.isNone_some, Bool.not_true, Bool.not_false, Nat.zero_add, decide_true, decide_false, if_true, if_false, Bool.false_eq_true, ↓reduceIte, h1]; exact k
  · have h2 : 1024 < n := by omega
    simp only [↓o_nil, ↓o_field, ↓o_add, ↓o_sub, ↓o_mul, ↓o_lss, ↓o_leq, ↓o_gtr, ↓o_geq, ↓o_not, ↓o_pick, ↓o_eqInt, ↓o_neInt, ↓o_eqBool, ↓o_neBool, ↓o_eqPtr, ↓o_nePtr, ↓o_eqPtr', ↓o_eqSl, ↓o_neSl, ↓o_eqStr, ↓o_neStr, ↓o_len, ↓o_lenS, ↓o_min, ↓o_max, ↓o_extract, ↓o_convInt, ↓cd_true, ↓cd_false, ↓gate_tt, ↓gate_ff, ↓gate_tf, ↓gate_ft, ↓gate_undef, ↓o_bind, ↓stay_v, ↓pop_cons, ↓fin_nil, Option.isNone_none, Option.isNone_some, Bool.not_true, Bool.not_false, Nat.zero_add, decide_true, decide_false, if_true, if_false, Bool.false_eq_true, ↓reduceIte, h1, h2]; exact k
theorem rNew_spec (h : sat E w H) {n : Int} (h1 : 1 ≤ n) (h2 : n ≤ 1024)
    (k : ∀ r w', sat E w' (rdsk r (List.replicate n.toNat zeros) [] * H) → K (.tuple #[.pointer (some ⟨r, 0, none⟩), .int .i64 0]) w') : Calls prog 27 #[.int .i64 n] w (Ret K) := by
  obtain ⟨n, rfl⟩ := Int.eq_ofNat_of_zero_le (show 0 ≤ n by omega)
  refine c27 ?_
  unfold B27
  have e1 : ¬ (n : Int) < 1 := by omega
  have e2 : ¬ (1024 : Int) < n := by omega
  simp only [↓o_nil, ↓o_field, ↓o_add, ↓o_sub, ↓o_mul, ↓o_lss, ↓o_leq, ↓o_gtr, ↓o_geq, ↓o_not, ↓o_pick, ↓o_eqInt, ↓o_neInt, ↓o_eqBool, ↓o_neBool, ↓o_eqPtr, ↓o_nePtr, ↓o_eqPtr', ↓o_eqSl, ↓o_neSl, ↓o_eqStr, ↓o_neStr, ↓o_len, ↓o_lenS, ↓o_min, ↓o_max, ↓o_extract, ↓o_convInt, ↓cd_true, ↓cd_false, ↓gate_tt, ↓gate_ff, ↓gate_tf, ↓gate_ft, ↓gate_undef, ↓o_bind, ↓stay_v, ↓pop_cons, ↓fin_nil, Option.isNone_none, Option.isNone_some, Bool.not_true, Bool.not_false, Nat.zero_add, decide_true, decide_false, if_true, if_false, Bool.false_eq_true, ↓reduceIte, e1, e2]
  refine pvv_of (v := .agg #[.slice none 0 0, .slice none 0 0]) (fun _ => by kernel_rfl) ?_
  refine box_sl h fun r w h => ?_
  have h : sat E w (pts r (.cells [Value.slice none 0 0, .slice none 0 0].toArray 105 (0, 0)) * H) := h
  have h := immAll_nil (osl_nil h 60 1)
  refine lp_nat (fun m σ w => ∃ (i : Nat) (fv : Value) (us : List Value), σ = [.int .i64 i] ∧ m = n - i ∧ i ≤ n ∧
    sat E w (pers (immAll us (List.replicate i zeros)) * (osl 60 1 fv i us * (pts r (.cells [fv, .slice none 0 0].toArray 105 (0, 0)) * H)))) n ⟨0, _, [], rfl, rfl, by omega, h⟩ ?_
  rintro m σ w again ⟨i, fv, us, rfl, rfl, hi, h⟩ hag
  simp only [↓o_nil, ↓o_field, ↓o_add, ↓o_sub, ↓o_mul, ↓o_lss, ↓o_leq, ↓o_gtr, ↓o_geq, ↓o_not, ↓o_pick, ↓o_eqInt, ↓o_neInt, ↓o_eqBool, ↓o_neBool, ↓o_eqPtr, ↓o_nePtr, ↓o_eqPtr', ↓o_eqSl, ↓o_neSl, ↓o_eqStr, ↓o_neStr, ↓o_len, ↓o_lenS, ↓o_min, ↓o_max, ↓o_extract, ↓o_convInt, ↓cd_true, ↓cd_false, ↓gate_tt, ↓gate_ff, ↓gate_tf, ↓gate_ft, ↓gate_undef, ↓o_bind, ↓stay_v, ↓pop_cons, ↓fin_nil, Option.isNone_none, Option.isNone_some, Bool.not_true, Bool.not_false, Nat.zero_add, decide_true, decide_false, if_true, if_false, Bool.false_eq_true, ↓reduceIte]
  refine cd_dec (fun hlt => ?_) (fun hge => ?_)
  · have hlt : i < n := by omega
    refine dr_sl h fun w h _ => ?_
    refine ld_at h ?_
    refine make_sl h rfl (by omega) (by omega) (by omega) (by omega) fun b w h => ?_
    have e3 : (256 : Int).toNat = 256 := rfl
    rw [e3] at h ⊢
    rw [zeros_map] at h
    have h := osl_freeze (osl_of (n := 256) (sz := 1) h (by simp [zeros]) (by omega))
    refine st_at h ?_
    refine buildSlice_sl (e := 60) (cs := #[.slice (some ⟨b, 0, none⟩) 256 256]) h (fun w => by kernel_rfl) fun b1 w h => ?_
    refine st_at h ?_
    refine append_sl h [.slice (some ⟨b, 0, none⟩) 256 256] rfl (.inr ⟨b1, 0, _, 60, (0, 0), rfl, h.pts_get, fun j v hj => by simpa using hj⟩) (by simp [Value.oneCell']) (by omega) (by omega) fun fv' w h => ?_
    obtain ⟨a4, c4, rfl, _, _, _⟩ := osl_shape h
    refine store_at h rfl (by simp) fun w h => ?_
    rw [i64_of (by omega) (by omega)]
    refine hag _ _ _ (by omega) ⟨i + 1, .slice a4 (i + 1) c4, us ++ [.slice (some ⟨b, 0, none⟩) 256 256], rfl, rfl, by omega, ?_⟩
    have h := sat_imp2 (h.lose b1) (immS (.slice (some ⟨b, 0, none⟩) 256 256) 256 (zeros.map bv)) (immAll us (List.replicate i zeros)) (χ := immAll (us ++ [.slice (some ⟨b, 0, none⟩) 256 256]) (List.replicate i zeros ++ [zeros])) (fun I h1 h2 => immAll_snoc (v := .slice (some ⟨b, 0, none⟩) 256 256) (l := zeros) h2 h1)
    rw [← List.replicate_succ'] at h
    exact h.perm (by ac_rfl)
  · have : i = n := by omega
    subst this
    have h := osl_nil h 132 2
    have h : sat E w (pers (immAll (List.map (·.2) ([] : List (Int × Value))) (List.map (·.2) ([] : List (Int × List UInt8)))) * _) := immAll_nil h
    exact k r w ((rdsk_shut (fv := fv) (lv := .slice none 0 0) (vs := us) (ws := []) r (List.replicate i zeros) [] (by simp) rfl rfl h).perm (by ac_rfl))
/-- CopyAll, of the references. -/
theorem CopyAll_spec (h : sat E w H) {v : Value} {L : List (List UInt8)} (hr : Rdd H v L) (hn : L.length ≤ 1024) (hl : ∀ l ∈ L, l.length ≤ 140737488355328)
    (k : ∀ v' vs' w', sat E w' (osl 60 1 v' L.length vs' * (pers (immAll vs' L) * H)) → K v' w') : Calls prog 87 #[v] w (Ret K) := by
  obtain ⟨vs, hv, hlen, hall⟩ := hr
  obtain ⟨a, c, rfl, hc, hv, ha⟩ := hv.shape h
  refine c87 ?_
  unfold B87
  refine lp_nat (fun n σ w => ∃ (i : Nat) (ov : Value) (us : List Value), σ = [ov, .int .i64 i] ∧ n = L.length - i ∧ i ≤ L.length ∧
    sat E w (osl 60 1 ov i us * (pers (immAll us (L.take i)) * H))) L.length ⟨0, _, [], rfl, rfl, by omega, ?_⟩ ?_
  · exact (immAll_nil (osl_nil h 60 1)).perm (by simp only [List.take_zero]; ac_rfl)
  · rintro n σ w again ⟨i, ov, us, rfl, rfl, hi, h⟩ hag
    simp only [↓o_nil, ↓o_field, ↓o_add, ↓o_sub, ↓o_mul, ↓o_lss, ↓o_leq, ↓o_gtr, ↓o_geq, ↓o_not, ↓o_pick, ↓o_eqInt, ↓o_neInt, ↓o_eqBool, ↓o_neBool, ↓o_eqPtr, ↓o_nePtr, ↓o_eqPtr', ↓o_eqSl, ↓o_neSl, ↓o_eqStr, ↓o_neStr, ↓o_len, ↓o_lenS, ↓o_min, ↓o_max, ↓o_extract, ↓o_convInt, ↓cd_true, ↓cd_false, ↓gate_tt, ↓gate_ff, ↓gate_tf, ↓gate_ft, ↓gate_undef, ↓o_bind, ↓stay_v, ↓pop_cons, ↓fin_nil, Option.isNone_none, Option.isNone_some, Bool.not_true, Bool.not_false, Nat.zero_add, decide_true, decide_false, if_true, if_false, Bool.false_eq_true, ↓reduceIte]
    refine cd_dec (fun hlt => ?_) (fun hge => ?_)
    · have hlt : i < L.length := by omega
      obtain ⟨b', o', rfl, hb'⟩ := win_cell (hv.win h.drop.drop) (j := i) (by omega)
      rw [o_index (by omega) (by omega)]
      simp only [Int.toNat_natCast, Nat.mul_one]
      refine ld_cell hb' ?_
      have hcl := hall i vs[i] L[i] (List.getElem?_eq_getElem (by omega)) (List.getElem?_eq_getElem hlt)
      refine Copy_spec h hcl.right.right (hl _ (List.getElem_mem _)) ?_
      intro v' w2 h2
      have hf := osl_freeze h2
      obtain ⟨a3, c3, rfl, _, _, _⟩ := osl_shape h2
      refine buildSlice_sl (e := 60) (cs := #[.slice a3 L[i].length c3]) hf (fun w => by kernel_rfl) fun b1 w h => ?_
      refine append_sl h [.slice a3 L[i].length c3] rfl (.inr ⟨b1, 0, _, 60, (0, 0), rfl, h.pts_get, fun j v hj => by simpa using hj⟩) (by simp [Value.oneCell']) (by omega) (by omega) fun ov' w h => ?_
      rw [i64_of (by omega) (by omega)]
      refine hag _ _ _ (by omega) ⟨i + 1, ov', us ++ [.slice a3 L[i].length c3], rfl, rfl, by omega, ?_⟩
      have h := sat_imp2 (h.lose b1) (immS (.slice a3 L[i].length c3) L[i].length (L[i].map bv)) (immAll us (L.take i)) (χ := immAll (us ++ [.slice a3 L[i].length c3]) (L.take i ++ [L[i]])) (fun I h1 h2 => immAll_snoc (v := .slice a3 L[i].length c3) h2 h1)
      rw [← List.take_succ_eq_append_getElem hlt] at h
      exact h.perm (by ac_rfl)
    · have : i = L.length := by omega
      subst this
      simp only [List.take_length] at h
      exact k ov us w h
/-- The writes done, again. -/
def redo (F : List (List UInt8)) (V : List (Int × List UInt8)) : List (List UInt8) := V.foldl (fun L p => L.set p.1.toNat p.2) F
theorem redo_length : ∀ (V : List (Int × List UInt8)) (F : List (List UInt8)), (redo F V).length = F.length
  | [], _ => rfl
  | p :: r, F => by
    have := redo_length r (F.set p.1.toNat p.2)
    simp [redo] at this ⊢; exact this
theorem redo_snoc (F : List (List UInt8)) (V : List (Int × List UInt8)) (p : Int × List UInt8) : redo F (V ++ [p]) = (redo F V).set p.1.toNat p.2 := by simp [redo]
theorem rAt_spec {r : Nat} {F : List (List UInt8)} {V : List (Int × List UInt8)} (h : sat E w H) [s : RdkS H r F V R] (wf : Wf F V) (hV : V.length ≤ 1000000) {n : Nat} (hn : n ≤ V.length)
    (k : ∀ v' vs' w', sat E w' (osl 60 1 v' F.length vs' * (pers (immAll vs' (redo F (V.take n))) * H)) → K v' w') : Calls prog 88 #[.pointer (some ⟨r, 0, none⟩), .int .i64 n] w (Ret K) := by
  obtain ⟨fv, vs, lv, ws, e, hd⟩ := sat_rdsk.1 (h.rdks r)
  have hL2 : ws.length = V.length := by simpa using hd.drop.drop.drop.drop.pers_get.1
  obtain ⟨al, cl, rfl, hcl, hll, _⟩ := osl_shape hd.drop.drop
  have hwl := wcells_length ws
  refine c88 ?_
  unfold B88
  simp only [↓o_nil, ↓o_field, ↓o_add, ↓o_sub, ↓o_mul, ↓o_lss, ↓o_leq, ↓o_gtr, ↓o_geq, ↓o_not, ↓o_pick, ↓o_eqInt, ↓o_neInt, ↓o_eqBool, ↓o_neBool, ↓o_eqPtr, ↓o_nePtr, ↓o_eqPtr', ↓o_eqSl, ↓o_neSl, ↓o_eqStr, ↓o_neStr, ↓o_len, ↓o_lenS, ↓o_min, ↓o_max, ↓o_extract, ↓o_convInt, ↓cd_true, ↓cd_false, ↓gate_tt, ↓gate_ff, ↓gate_tf, ↓gate_ft, ↓gate_undef, ↓o_bind, ↓stay_v, ↓pop_cons, ↓fin_nil, Option.isNone_none, Option.isNone_some, Bool.not_true, Bool.not_false, Nat.zero_add, decide_true, decide_false, if_true, if_false, Bool.false_eq_true, ↓reduceIte]
  refine ld_at hd ?_
  refine CopyAll_spec hd (rdd_of hd) wf.le (fun l hl => by rw [wf.l l hl]; omega) fun ov us w hd => ?_
  obtain ⟨ao, co, rfl, hco, hol, hoa⟩ := osl_shape hd
  obtain ⟨bo, rfl⟩ := hoa wf.pos
  refine lp_nat (fun m σ w => ∃ (i : Nat) (us : List Value), σ = [.int .i64 i] ∧ m = n - i ∧ i ≤ n ∧
    sat E w (osl 60 1 (.slice (some ⟨bo, 0, none⟩) F.length co) F.length us * (pers (immAll us (redo F (V.take i))) * (pts r (.cells [fv, .slice al V.length cl].toArray 105 (0, 0)) * (osl 60 1 fv F.length vs * (osl 132 2 (.slice al V.length cl) V.length (wcells ws) * (pers (immAll vs F) * (pers (immAll (ws.map (·.2)) (V.map (·.2))) * R)))))))) n ⟨0, us, rfl, rfl, by omega, hd⟩ ?_
  rintro m σ w again ⟨i, us, rfl, rfl, hi, h⟩ hag
  simp only [↓o_nil, ↓o_field, ↓o_add, ↓o_sub, ↓o_mul, ↓o_lss, ↓o_leq, ↓o_gtr, ↓o_geq, ↓o_not, ↓o_pick, ↓o_eqInt, ↓o_neInt, ↓o_eqBool, ↓o_neBool, ↓o_eqPtr, ↓o_nePtr, ↓o_eqPtr', ↓o_eqSl, ↓o_neSl, ↓o_eqStr, ↓o_neStr, ↓o_len, ↓o_lenS, ↓o_min, ↓o_max, ↓o_extract, ↓o_convInt, ↓cd_true, ↓cd_false, ↓gate_tt, ↓gate_ff, ↓gate_tf, ↓gate_ft, ↓gate_undef, ↓o_bind, ↓stay_v, ↓pop_cons, ↓fin_nil, Option.isNone_none, Option.isNone_some, Bool.not_true, Bool.not_false, Nat.zero_add, decide_true, decide_false, if_true, if_false, Bool.false_eq_true, ↓reduceIte]
  refine cd_dec (fun hlt => ?_) (fun hge => ?_)
  · have hlt : i < n := by omega
    have hj1 : i < ws.length := by omega
    have hj2 : i < V.length := by omega
    have e2 : ws[i].1 = V[i].1 := by
      have := congrArg (fun l => l[i]?) e
      simp only [List.getElem?_map, List.getElem?_eq_getElem hj1, List.getElem?_eq_getElem hj2, Option.map_some, Option.some.injEq] at this
      exact this
    obtain ⟨w1, w2, w3⟩ := wf.w V[i] (List.getElem_mem hj2)
    obtain ⟨p, hp⟩ := Int.eq_ofNat_of_zero_le w1
    have hpl : p < F.length := by omega
    obtain ⟨g1, g2⟩ := wcells_get ws i hj1
    have hrd : Rds (pers (immAll (ws.map (·.2)) (V.map (·.2)))) ws[i].2 V[i].2.length (V[i].2.map bv) :=
      immAll_rds (i := i) (by simp [List.getElem?_eq_getElem hj1]) (by simp [List.getElem?_eq_getElem hj2])
    obtain ⟨bl, cl', sp, hvl, _, _, hP, _⟩ := osl_open (h.owns (.slice al V.length cl)) (by omega)
    cases hvl
    refine dr_sl h fun w h _ => ?_
    have hrow : ∀ {w : World} {X : HP}, sat E w X → [OwnS X (.slice (some ⟨bl, 0, none⟩) V.length cl) 52 2 V.length (wcells ws) R] → True := fun _ _ => trivial
    refine ld_at h ?_
    rw [o_index (by omega) (by omega)]
    simp only [Int.toNat_natCast, Nat.zero_add, ↓o_nil, ↓o_field, ↓o_add, ↓o_sub, ↓o_mul, ↓o_lss, ↓o_leq, ↓o_gtr, ↓o_geq, ↓o_not, ↓o_pick, ↓o_eqInt, ↓o_neInt, ↓o_eqBool, ↓o_neBool, ↓o_eqPtr, ↓o_nePtr, ↓o_eqPtr', ↓o_eqSl, ↓o_neSl, ↓o_eqStr, ↓o_neStr, ↓o_len, ↓o_lenS, ↓o_min, ↓o_max, ↓o_extract, ↓o_convInt, ↓cd_true, ↓cd_false, ↓gate_tt, ↓gate_ff, ↓gate_tf, ↓gate_ft, ↓gate_undef, ↓o_bind, ↓stay_v, ↓pop_cons, ↓fin_nil, Option.isNone_none, Option.isNone_some, Bool.not_true, Bool.not_false, Nat.zero_add, decide_true, decide_false, if_true, if_false, Bool.false_eq_true, ↓reduceIte]
    have hwin := (Rds.own (v := .slice (some ⟨bl, 0, none⟩) V.length cl)).win h
    refine ld_cell (v := .int .i64 p) (by have := hwin.cell bl 0 rfl _ _ g1; rw [e2, hp] at this; simpa using this) ?_
    refine ld_at h ?_
    rw [o_index (by omega) (by omega)]
    simp only [Int.toNat_natCast, Nat.zero_add, ↓o_nil, ↓o_field, ↓o_add, ↓o_sub, ↓o_mul, ↓o_lss, ↓o_leq, ↓o_gtr, ↓o_geq, ↓o_not, ↓o_pick, ↓o_eqInt, ↓o_neInt, ↓o_eqBool, ↓o_neBool, ↓o_eqPtr, ↓o_nePtr, ↓o_eqPtr', ↓o_eqSl, ↓o_neSl, ↓o_eqStr, ↓o_neStr, ↓o_len, ↓o_lenS, ↓o_min, ↓o_max, ↓o_extract, ↓o_convInt, ↓cd_true, ↓cd_false, ↓gate_tt, ↓gate_ff, ↓gate_tf, ↓gate_ft, ↓gate_undef, ↓o_bind, ↓stay_v, ↓pop_cons, ↓fin_nil, Option.isNone_none, Option.isNone_some, Bool.not_true, Bool.not_false, Nat.zero_add, decide_true, decide_false, if_true, if_false, Bool.false_eq_true, ↓reduceIte]
    refine ld_cell (v := ws[i].2) (by simpa using hwin.cell bl 0 rfl _ _ g2) ?_
    refine Copy_spec h (Rds.under hrd) (by omega) fun v5 w h => ?_
    have h := osl_freeze h
    obtain ⟨a5, c5, rfl, hc5, _⟩ := h.pers_get
    have hwin := (Rds.own (v := .slice (some ⟨bl, 0, none⟩) V.length cl)).win h
    refine st_at h ?_
    refine st_cell (by have := hwin.cell bl 0 rfl _ _ g1; rw [e2, hp] at this; simpa using this) ?_
    refine st_at h ?_
    rw [o_index (by omega) (by omega)]
    simp only [Int.toNat_natCast, Nat.mul_one, Nat.zero_add]
    refine osl_store h (c := co) hpl rfl fun w h => ?_
    rw [i64_of (by omega) (by omega)]
    refine hag _ _ _ (by omega) ⟨i + 1, us.set p (.slice a5 V[i].2.length c5), rfl, rfl, by omega, ?_⟩
    have eu : redo F (V.take (i + 1)) = (redo F (V.take i)).set p V[i].2 := by
      rw [List.take_succ_eq_append_getElem hj2, redo_snoc, hp]; rfl
    rw [eu]
    have h := sat_imp2 h (immS (.slice a5 V[i].2.length c5) V[i].2.length (V[i].2.map bv)) (immAll us (redo F (V.take i)))
      (χ := immAll (us.set p (.slice a5 V[i].2.length c5)) ((redo F (V.take i)).set p V[i].2)) (fun I h1 h2 => immAll_set h2 h1)
    exact h.perm (by ac_rfl)
  · have : i = n := by omega
    subst this
    refine k _ us w ?_
    have h := rdsk_shut r F V rfl rfl e h
    exact h.perm (by rw [s.eq]; ac_rfl)
theorem rBlocks_spec {d : Nat} {L : List (List UInt8)} {W : List (Int × List UInt8)} (h : sat E w H) [s : RdkS H d L W R] (k : K (.int .i64 L.length) w) : Calls prog 58 #[.pointer (some ⟨d, 0, none⟩)] w (Ret K) := by
  obtain ⟨lv, vs, wv, ws, e, hd⟩ := sat_rdsk.1 (h.rdks d)
  obtain ⟨a, c, rfl, hc, hl, ha⟩ := osl_shape hd.drop
  refine c58 ?_
  unfold B58
  simp only [↓o_nil, ↓o_field, ↓o_add, ↓o_sub, ↓o_mul, ↓o_lss, ↓o_leq, ↓o_gtr, ↓o_geq, ↓o_not, ↓o_pick, ↓o_eqInt, ↓o_neInt, ↓o_eqBool, ↓o_neBool, ↓o_eqPtr, ↓o_nePtr, ↓o_eqPtr', ↓o_eqSl, ↓o_neSl, ↓o_eqStr, ↓o_neStr, ↓o_len, ↓o_lenS, ↓o_min, ↓o_max, ↓o_extract, ↓o_convInt, ↓cd_true, ↓cd_false, ↓gate_tt, ↓gate_ff, ↓gate_tf, ↓gate_ft, ↓gate_undef, ↓o_bind, ↓stay_v, ↓pop_cons, ↓fin_nil, Option.isNone_none, Option.isNone_some, Bool.not_true, Bool.not_false, Nat.zero_add, decide_true, decide_false, if_true, if_false, Bool.false_eq_true, ↓reduceIte]
  refine ld_at hd ?_
  simp only [↓o_nil, ↓o_field, ↓o_add, ↓o_sub, ↓o_mul, ↓o_lss, ↓o_leq, ↓o_gtr, ↓o_geq, ↓o_not, ↓o_pick, ↓o_eqInt, ↓o_neInt, ↓o_eqBool, ↓o_neBool, ↓o_eqPtr, ↓o_nePtr, ↓o_eqPtr', ↓o_eqSl, ↓o_neSl, ↓o_eqStr, ↓o_neStr, ↓o_len, ↓o_lenS, ↓o_min, ↓o_max, ↓o_extract, ↓o_convInt, ↓cd_true, ↓cd_false, ↓gate_tt, ↓gate_ff, ↓gate_tf, ↓gate_ft, ↓gate_undef, ↓o_bind, ↓stay_v, ↓pop_cons, ↓fin_nil, Option.isNone_none, Option.isNone_some, Bool.not_true, Bool.not_false, Nat.zero_add, decide_true, decide_false, if_true, if_false, Bool.false_eq_true, ↓reduceIte]
  exact k
theorem rImage_nil (k : K (.slice none 0 0) w) : Calls prog 60 #[.pointer none] w (Ret K) := by
  refine c60 ?_
  unfold B60
  simp only [↓o_nil, ↓o_field, ↓o_add, ↓o_sub, ↓o_mul, ↓o_lss, ↓o_leq, ↓o_gtr, ↓o_geq, ↓o_not, ↓o_pick, ↓o_eqInt, ↓o_neInt, ↓o_eqBool, ↓o_neBool, ↓o_eqPtr, ↓o_nePtr, ↓o_eqPtr', ↓o_eqSl, ↓o_neSl, ↓o_eqStr, ↓o_neStr, ↓o_len, ↓o_lenS, ↓o_min, ↓o_max, ↓o_extract, ↓o_convInt, ↓cd_true, ↓cd_false, ↓gate_tt, ↓gate_ff, ↓gate_tf, ↓gate_ft, ↓gate_undef, ↓o_bind, ↓stay_v, ↓pop_cons, ↓fin_nil, Option.isNone_none, Option.isNone_some, Bool.not_true, Bool.not_false, Nat.zero_add, decide_true, decide_false, if_true, if_false, Bool.false_eq_true, ↓reduceIte]
  exact k
theorem rImage_spec {r : Nat} {F : List (List UInt8)} {V : List (Int × List UInt8)} (h : sat E w H) [s : RdkS H r F V R] (wf : Wf F V) (hV : V.length ≤ 1000000)
    (k : ∀ v' vs' w', sat E w' (osl 60 1 v' F.length vs' * (pers (immAll vs' (redo F V)) * H)) → K v' w') : Calls prog 60 #[.pointer (some ⟨r, 0, none⟩)] w (Ret K) := by
  obtain ⟨lv, vs, wv, ws, e, hd⟩ := sat_rdsk.1 (h.rdks r)
  obtain ⟨a, c, rfl, hc, hl, ha⟩ := osl_shape hd.drop.drop
  refine c60 ?_
  unfold B60
  simp only [↓o_nil, ↓o_field, ↓o_add, ↓o_sub, ↓o_mul, ↓o_lss, ↓o_leq, ↓o_gtr, ↓o_geq, ↓o_not, ↓o_pick, ↓o_eqInt, ↓o_neInt, ↓o_eqBool, ↓o_neBool, ↓o_eqPtr, ↓o_nePtr, ↓o_eqPtr', ↓o_eqSl, ↓o_neSl, ↓o_eqStr, ↓o_neStr, ↓o_len, ↓o_lenS, ↓o_min, ↓o_max, ↓o_extract, ↓o_convInt, ↓cd_true, ↓cd_false, ↓gate_tt, ↓gate_ff, ↓gate_tf, ↓gate_ft, ↓gate_undef, ↓o_bind, ↓stay_v, ↓pop_cons, ↓fin_nil, Option.isNone_none, Option.isNone_some, Bool.not_true, Bool.not_false, Nat.zero_add, decide_true, decide_false, if_true, if_false, Bool.false_eq_true, ↓reduceIte]
  refine ld_at hd ?_
  simp only [↓o_nil, ↓o_field, ↓o_add, ↓o_sub, ↓o_mul, ↓o_lss, ↓o_leq, ↓o_gtr, ↓o_geq, ↓o_not, ↓o_pick, ↓o_eqInt, ↓o_neInt, ↓o_eqBool, ↓o_neBool, ↓o_eqPtr, ↓o_nePtr, ↓o_eqPtr', ↓o_eqSl, ↓o_neSl, ↓o_eqStr, ↓o_neStr, ↓o_len, ↓o_lenS, ↓o_min, ↓o_max, ↓o_extract, ↓o_convInt, ↓cd_true, ↓cd_false, ↓gate_tt, ↓gate_ff, ↓gate_tf, ↓gate_ft, ↓gate_undef, ↓o_bind, ↓stay_v, ↓pop_cons, ↓fin_nil, Option.isNone_none, Option.isNone_some, Bool.not_true, Bool.not_false, Nat.zero_add, decide_true, decide_false, if_true, if_false, Bool.false_eq_true, ↓reduceIte]
  refine rAt_spec h wf hV (Nat.le_refl _) fun v' vs' w' h' => k v' vs' w' ?_
  rwa [List.take_length] at h'
/-- Blocks of noughts. -/
def Z (n : Nat) : List (List UInt8) := List.replicate n zeros
theorem rLoad_spec (h : sat E w H) {v : Value} {L : List (List UInt8)} (hv : Rdd H v L)
    (k0 : ∀ e w', bad L = some e → sat E w' H → K (.tuple #[.pointer none, .int .i64 e]) w')
    (k1 : ∀ r w', bad L = none → sat E w' (rdsk r L [] * H) → K (.tuple #[.pointer (some ⟨r, 0, none⟩), .int .i64 0]) w') : Calls prog 59 #[v] w (Ret K) := by
  have hv0 := hv
  obtain ⟨vs, hv, hvl, hva⟩ := hv
  obtain ⟨a, c, rfl, hc, hv, _⟩ := hv.shape h
  refine c59 ?_
  unfold B59
  simp only [↓o_nil, ↓o_field, ↓o_add, ↓o_sub, ↓o_mul, ↓o_lss, ↓o_leq, ↓o_gtr, ↓o_geq, ↓o_not, ↓o_pick, ↓o_eqInt, ↓o_neInt, ↓o_eqBool, ↓o_neBool, ↓o_eqPtr, ↓o_nePtr, ↓o_eqPtr', ↓o_eqSl, ↓o_neSl, ↓o_eqStr, ↓o_neStr, ↓o_len, ↓o_lenS, ↓o_min, ↓o_max, ↓o_extract, ↓o_convInt, ↓cd_true, ↓cd_false, ↓gate_tt, ↓gate_ff, ↓gate_tf, ↓gate_ft, ↓gate_undef, ↓o_bind, ↓stay_v, ↓pop_cons, ↓fin_nil, Option.isNone_none, Option.isNone_some, Bool.not_true, Bool.not_false, Nat.zero_add, decide_true, decide_false, if_true, if_false, Bool.false_eq_true, ↓reduceIte]
  by_cases h1 : (L.length : Int) < 1
  · simp only [h1, ↓o_nil, ↓o_field, ↓o_add, ↓o_sub, ↓o_mul, ↓o_lss, ↓o_leq, ↓o_gtr, ↓o_geq, ↓o_not, ↓o_pick, ↓o_eqInt, ↓o_neInt, ↓o_eqBool, ↓o_neBool, ↓o_eqPtr, ↓o_nePtr, ↓o_eqPtr', ↓o_eqSl, ↓o_neSl, ↓o_eqStr, ↓o_neStr, ↓o_len, ↓o_lenS, ↓o_min, ↓o_max, ↓o_extract, ↓o_convInt, ↓cd_true, ↓cd_false, ↓gate_tt, ↓gate_ff, ↓gate_tf, ↓gate_ft, ↓gate_undef, ↓o_bind, ↓stay_v, ↓pop_cons, ↓fin_nil, Option.isNone_none, Option.isNone_some, Bool.not_true, Bool.not_false, Nat.zero_add, decide_true, decide_false, if_true, if_false, Bool.false_eq_true, ↓reduceIte]
    exact k0 2 w (by unfold bad; rw [if_pos (by omega)]) h
  · simp only [h1, ↓o_nil, ↓o_field, ↓o_add, ↓o_sub, ↓o_mul, ↓o_lss, ↓o_leq, ↓o_gtr, ↓o_geq, ↓o_not, ↓o_pick, ↓o_eqInt, ↓o_neInt, ↓o_eqBool, ↓o_neBool, ↓o_eqPtr, ↓o_nePtr, ↓o_eqPtr', ↓o_eqSl, ↓o_neSl, ↓o_eqStr, ↓o_neStr, ↓o_len, ↓o_lenS, ↓o_min, ↓o_max, ↓o_extract, ↓o_convInt, ↓cd_true, ↓cd_false, ↓gate_tt, ↓gate_ff, ↓gate_tf, ↓gate_ft, ↓gate_undef, ↓o_bind, ↓stay_v, ↓pop_cons, ↓fin_nil, Option.isNone_none, Option.isNone_some, Bool.not_true, Bool.not_false, Nat.zero_add, decide_true, decide_false, if_true, if_false, Bool.false_eq_true, ↓reduceIte]
    by_cases h2 : (1024 : Int) < L.length
    · simp only [h2, ↓o_nil, ↓o_field, ↓o_add, ↓o_sub, ↓o_mul, ↓o_lss, ↓o_leq, ↓o_gtr, ↓o_geq, ↓o_not, ↓o_pick, ↓o_eqInt, ↓o_neInt, ↓o_eqBool, ↓o_neBool, ↓o_eqPtr, ↓o_nePtr, ↓o_eqPtr', ↓o_eqSl, ↓o_neSl, ↓o_eqStr, ↓o_neStr, ↓o_len, ↓o_lenS, ↓o_min, ↓o_max, ↓o_extract, ↓o_convInt, ↓cd_true, ↓cd_false, ↓gate_tt, ↓gate_ff, ↓gate_tf, ↓gate_ft, ↓gate_undef, ↓o_bind, ↓stay_v, ↓pop_cons, ↓fin_nil, Option.isNone_none, Option.isNone_some, Bool.not_true, Bool.not_false, Nat.zero_add, decide_true, decide_false, if_true, if_false, Bool.false_eq_true, ↓reduceIte]
      exact k0 2 w (by unfold bad; rw [if_pos (by omega)]) h
    · simp only [h2, ↓o_nil, ↓o_field, ↓o_add, ↓o_sub, ↓o_mul, ↓o_lss, ↓o_leq, ↓o_gtr, ↓o_geq, ↓o_not, ↓o_pick, ↓o_eqInt, ↓o_neInt, ↓o_eqBool, ↓o_neBool, ↓o_eqPtr, ↓o_nePtr, ↓o_eqPtr', ↓o_eqSl, ↓o_neSl, ↓o_eqStr, ↓o_neStr, ↓o_len, ↓o_lenS, ↓o_min, ↓o_max, ↓o_extract, ↓o_convInt, ↓cd_true, ↓cd_false, ↓gate_tt, ↓gate_ff, ↓gate_tf, ↓gate_ft, ↓gate_undef, ↓o_bind, ↓stay_v, ↓pop_cons, ↓fin_nil, Option.isNone_none, Option.isNone_some, Bool.not_true, Bool.not_false, Nat.zero_add, decide_true, decide_false, if_true, if_false, Bool.false_eq_true, ↓reduceIte]
      refine lp_nat (fun n σ w => ∃ i : Nat, σ = [.int .i64 i] ∧ n = L.length - i ∧ i ≤ L.length ∧ (∀ j (hj : j < L.length), j < i → L[j].length = 256) ∧ sat E w H) L.length ⟨0, rfl, rfl, by omega, fun j _ hj => by omega, h⟩ ?_
      rintro n σ w again ⟨i, rfl, rfl, hi, hall, h⟩ hag
      simp only [↓o_nil, ↓o_field, ↓o_add, ↓o_sub, ↓o_mul, ↓o_lss, ↓o_leq, ↓o_gtr, ↓o_geq, ↓o_not, ↓o_pick, ↓o_eqInt, ↓o_neInt, ↓o_eqBool, ↓o_neBool, ↓o_eqPtr, ↓o_nePtr, ↓o_eqPtr', ↓o_eqSl, ↓o_neSl, ↓o_eqStr, ↓o_neStr, ↓o_len, ↓o_lenS, ↓o_min, ↓o_max, ↓o_extract, ↓o_convInt, ↓cd_true, ↓cd_false, ↓gate_tt, ↓gate_ff, ↓gate_tf, ↓gate_ft, ↓gate_undef, ↓o_bind, ↓stay_v, ↓pop_cons, ↓fin_nil, Option.isNone_none, Option.isNone_some, Bool.not_true, Bool.not_false, Nat.zero_add, decide_true, decide_false, if_true, if_false, Bool.false_eq_true, ↓reduceIte]
      refine cd_dec (fun hlt => ?_) (fun hge => ?_)
      · have hlt : i < L.length := by omega
        obtain ⟨b1, o1, rfl, hb1⟩ := win_cell (hv.win h) (j := i) (by omega)
        rw [o_index (by omega) (by omega)]
        simp only [Int.toNat_natCast, Nat.mul_one]
        refine ld_cell hb1 ?_
        obtain ⟨a3, c3, e3, _⟩ := hva i vs[i] L[i] (List.getElem?_eq_getElem (by omega)) (List.getElem?_eq_getElem hlt) E w h
        rw [e3]
        simp only [↓o_nil, ↓o_field, ↓o_add, ↓o_sub, ↓o_mul, ↓o_lss, ↓o_leq, ↓o_gtr, ↓o_geq, ↓o_not, ↓o_pick, ↓o_eqInt, ↓o_neInt, ↓o_eqBool, ↓o_neBool, ↓o_eqPtr, ↓o_nePtr, ↓o_eqPtr', ↓o_eqSl, ↓o_neSl, ↓o_eqStr, ↓o_neStr, ↓o_len, ↓o_lenS, ↓o_min, ↓o_max, ↓o_extract, ↓o_convInt, ↓cd_true, ↓cd_false, ↓gate_tt, ↓gate_ff, ↓gate_tf, ↓gate_ft, ↓gate_undef, ↓o_bind, ↓stay_v, ↓pop_cons, ↓fin_nil, Option.isNone_none, Option.isNone_some, Bool.not_true, Bool.not_false, Nat.zero_add, decide_true, decide_false, if_true, if_false, Bool.false_eq_true, ↓reduceIte]
        by_cases hb : L[i].length = 256
        · have hb' : (L[i].length : Int) = 256 := by omega
          simp only [hb', ↓o_nil, ↓o_field, ↓o_add, ↓o_sub, ↓o_mul, ↓o_lss, ↓o_leq, ↓o_gtr, ↓o_geq, ↓o_not, ↓o_pick, ↓o_eqInt, ↓o_neInt, ↓o_eqBool, ↓o_neBool, ↓o_eqPtr, ↓o_nePtr, ↓o_eqPtr', ↓o_eqSl, ↓o_neSl, ↓o_eqStr, ↓o_neStr, ↓o_len, ↓o_lenS, ↓o_min, ↓o_max, ↓o_extract, ↓o_convInt, ↓cd_true, ↓cd_false, ↓gate_tt, ↓gate_ff, ↓gate_tf, ↓gate_ft, ↓gate_undef, ↓o_bind, ↓stay_v, ↓pop_cons, ↓fin_nil, Option.isNone_none, Option.isNone_some, Bool.not_true, Bool.not_false, Nat.zero_add, decide_true, decide_false, if_true, if_false, Bool.false_eq_true, ↓reduceIte]
          rw [i64_of (by omega) (by omega)]
          refine hag _ _ _ (by omega) ⟨i + 1, rfl, rfl, by omega, fun j hj hji => ?_, h⟩
          rcases Nat.lt_or_ge j i with hh | hh
          · exact hall j hj hh
          · have : j = i := by omega
            subst this; exact hb
        · have hb' : ¬ (L[i].length : Int) = 256 := by omega
          simp only [hb', ↓o_nil, ↓o_field, ↓o_add, ↓o_sub, ↓o_mul, ↓o_lss, ↓o_leq, ↓o_gtr, ↓o_geq, ↓o_not, ↓o_pick, ↓o_eqInt, ↓o_neInt, ↓o_eqBool, ↓o_neBool, ↓o_eqPtr, ↓o_nePtr, ↓o_eqPtr', ↓o_eqSl, ↓o_neSl, ↓o_eqStr, ↓o_neStr, ↓o_len, ↓o_lenS, ↓o_min, ↓o_max, ↓o_extract, ↓o_convInt, ↓cd_true, ↓cd_false, ↓gate_tt, ↓gate_ff, ↓gate_tf, ↓gate_ft, ↓gate_undef, ↓o_bind, ↓stay_v, ↓pop_cons, ↓fin_nil, Option.isNone_none, Option.isNone_some, Bool.not_true, Bool.not_false, Nat.zero_add, decide_true, decide_false, if_true, if_false, Bool.false_eq_true, ↓reduceIte]
          refine k0 3 w ?_ h
          unfold bad
          rw [if_neg (by omega), if_neg]
          intro ha
          have := List.all_eq_true.1 ha L[i] (List.getElem_mem hlt)
          exact hb (by simpa using this)
      · have hall' : L.all (fun l => l.length == 256) = true := by
          refine List.all_eq_true.2 fun l hl => ?_
          obtain ⟨j, hj, rfl⟩ := List.mem_iff_getElem.1 hl
          simpa using hall j hj (by omega)
        refine CopyAll_spec h hv0 (by omega) (fun l hl => by have := List.all_eq_true.1 hall' l hl; simp at this; omega) fun ov us w h => ?_
        obtain ⟨ao, co, rfl, _, _, _⟩ := osl_shape h
        refine pvv_of (v := .agg #[.slice ao L.length co, .slice none 0 0]) (fun _ => by kernel_rfl) ?_
        refine box_sl h fun d w h => ?_
        have h : sat E w (pts d (.cells [Value.slice ao L.length co, .slice none 0 0].toArray 105 (0, 0)) * _) := h
        refine k1 d w (by unfold bad; rw [if_neg (by omega), if_pos hall']) ?_
        have h := osl_nil h 132 2
        have h : sat E _ (pers (immAll (List.map (·.2) ([] : List (Int × Value))) (List.map (·.2) ([] : List (Int × List UInt8)))) * _) := immAll_nil h
        exact rdsk_shut (fv := .slice ao L.length co) (lv := .slice none 0 0) (vs := us) (ws := []) d L [] rfl rfl rfl h
end Go.Proofs.YtgkeplodfkmnlaaGreat
