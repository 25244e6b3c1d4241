/-
  The disk of the references.
-/
import Derived.Test.YtcjklbhobmkalaaGreatWalT
import Derived.Test.YtcjklbhobmkalaaGreatElems
import Derived.Test.YtcjklbhobmkalaaGreatWalV
import Derived.Test.YtcjklbhobmkalaaGreatPgrP
set_option linter.all false
set_option maxRecDepth 100000
namespace Go.Proofs.YtcjklbhobmkalaaGreat
open Go Hold
variable {E : World0} {w : World} {H R : HP} {K : Value → World → Prop}
/-- The reference's disk at r: the first blocks F, all writes V. -/
def rdsk (r : Nat) (F : List (List UInt8)) (V : List (Int × List UInt8)) : HP :=
  ex fun q : Value × List Value × Value × List (Int × Value) =>
    pts r (.cells [q.1, q.2.2.1].toArray 115 (0, 0)) *
    (osl 30 1 q.1 F.length q.2.1 * (osl 155 2 q.2.2.1 V.length (wcells q.2.2.2) * (pers (immAll q.2.1 F) * pers (immAll (q.2.2.2.map (·.2)) (V.map (·.2))) * pur (q.2.2.2.map (·.1) = V.map (·.1)))))
theorem sat_rdsk {r : Nat} {F : List (List UInt8)} {V : List (Int × List UInt8)} : sat E w (rdsk r F V * R) ↔
    ∃ fv vs lv ws, ws.map (·.1) = V.map (·.1) ∧ sat E w (pts r (.cells [fv, lv].toArray 115 (0, 0)) * (osl 30 1 fv F.length vs * (osl 155 2 lv V.length (wcells ws) * (pers (immAll vs F) * (pers (immAll (ws.map (·.2)) (V.map (·.2))) * R))))) := by
  unfold rdsk
  rw [sat_ex_star]
  constructor
  · rintro ⟨⟨fv, vs, lv, ws⟩, h⟩
    simp only at h
    have h2 : sat E w (pur (ws.map (·.1) = V.map (·.1)) * (pts r (.cells [fv, lv].toArray 115 (0, 0)) * (osl 30 1 fv F.length vs * (osl 155 2 lv V.length (wcells ws) * (pers (immAll vs F) * (pers (immAll (ws.map (·.2)) (V.map (·.2))) * R)))))) := h.perm (by ac_rfl)
    rw [sat_pur_star] at h2
    exact ⟨fv, vs, lv, ws, h2.1, h2.2⟩
  · rintro ⟨fv, vs, lv, ws, e, h⟩
    refine ⟨⟨fv, vs, lv, ws⟩, ?_⟩
    have h2 : sat E w (pur (ws.map (·.1) = V.map (·.1)) * (pts r (.cells [fv, lv].toArray 115 (0, 0)) * (osl 30 1 fv F.length vs * (osl 155 2 lv V.length (wcells ws) * (pers (immAll vs F) * (pers (immAll (ws.map (·.2)) (V.map (·.2))) * R)))))) := sat_pur_star.2 ⟨e, h⟩
    exact h2.perm (by ac_rfl)
class RdkS (H : HP) (r : Nat) (F : outParam (List (List UInt8))) (V : outParam (List (Int × List UInt8))) (R : outParam HP) : Prop where eq : H = rdsk r F V * R
instance (priority := 1100) RdkS.here (d : Nat) (L : List (List UInt8)) (W : List (Int × List UInt8)) (R : HP) : RdkS (rdsk d L W * R) d L W R := ⟨rfl⟩
instance (priority := 1050) RdkS.there (d : Nat) (L : List (List UInt8)) (W : List (Int × List UInt8)) (R : HP) : RdkS (R * rdsk d L W) d L W R := ⟨star_comm _ _⟩
instance (priority := 900) RdkS.right (P1 P2 : HP) (d : Nat) (L : List (List UInt8)) (W : List (Int × List UInt8)) (R : HP) [h : RdkS P2 d L W R] : RdkS (P1 * P2) d L W (P1 * R) := ⟨by rw [h.eq, star_left_comm]⟩
instance (priority := 800) RdkS.left (P1 P2 : HP) (d : Nat) (L : List (List UInt8)) (W : List (Int × List UInt8)) (R : HP) [h : RdkS P1 d L W R] : RdkS (P1 * P2) d L W (R * P2) := ⟨by rw [h.eq, star_assoc]⟩
instance (priority := 100) RdkS.all (d : Nat) (L : List (List UInt8)) (W : List (Int × List UInt8)) : RdkS (rdsk d L W) d L W emp := ⟨(star_emp _).symm⟩
theorem _root_.Hold.sat.rdks (h : sat E w H) (d : Nat) {L : List (List UInt8)} {W : List (Int × List UInt8)} [s : RdkS H d L W R] : sat E w (rdsk d L W * R) := h.perm s.eq
theorem rdsk_shut (r : Nat) (F : List (List UInt8)) (V : List (Int × List UInt8)) {fv lv : Value} {vs : List Value} {ws : List (Int × Value)} {R1 R2 R3 R4 R5 : HP} {m m2 : Nat} (hm : m = F.length) (hm2 : m2 = V.length) (e : ws.map (·.1) = V.map (·.1)) (h : sat E w H)
    [s1 : Own H r (.cells [fv, lv].toArray 115 (0, 0)) R1] [s2 : OwnS R1 fv 30 1 m vs R2] [s3 : OwnS R2 lv 155 2 m2 (wcells ws) R3]
    [s4 : Split R3 (pers (immAll vs F)) R4] [s5 : Split R4 (pers (immAll (ws.map (·.2)) (V.map (·.2)))) R5] : sat E w (rdsk r F V * R5) := by
  subst hm; subst hm2
  exact sat_rdsk.2 ⟨fv, vs, lv, ws, e, by rw [← s5.eq, ← s4.eq, ← s3.eq, ← s2.eq, ← s1.eq]; exact h⟩
theorem rNew_bad {n : Int} (hn : n < 1 ∨ 1024 < n) (k : K (.tuple #[.pointer none, .int .i64 2]) w) : Calls prog 34 #[.int .i64 n] w (Ret K) := by
  refine c34 ?_
  unfold B34
  by_cases h1 : n < 1
  · simp only [↓o_nil, ↓o_field, ↓o_add, ↓o_sub, ↓o_mul, ↓o_lss, ↓o_leq, ↓o_gtr, ↓o_geq, ↓o_not, ↓o_pick, ↓o_eqInt, ↓o_neInt, ↓o_eqBool, ↓o_neBool, ↓o_eqPtr, ↓o_nePtr, ↓o_eqPtr', ↓o_eqSl, ↓o_neSl, ↓o_eqStr, ↓o_neStr, ↓o_len, ↓o_lenS, ↓o_min, ↓o_max, ↓o_extract, ↓o_convInt, ↓cd_true, ↓cd_false, ↓gate_tt, ↓gate_ff, ↓gate_tf, ↓gate_ft, ↓gate_undef, ↓o_bind, ↓stay_v, ↓pop_cons, ↓fin_nil, Option.isNone_none, Option.isNone_some, Bool.not_true, Bool.not_false, Nat.zero_add, decide_true, decide_false, if_true, if_false, Bool.false_eq_true, ↓reduceIte, h1]; exact k
  · have h2 : 1024 < n := by omega
    simp only [↓o_nil, ↓o_field, ↓o_add, ↓o_sub, ↓o_mul, ↓o_lss, ↓o_leq, ↓o_gtr, ↓o_geq, ↓o_not, ↓o_pick, ↓o_eqInt, ↓o_neInt, ↓o_eqBool, ↓o_neBool, ↓o_eqPtr, ↓o_nePtr, ↓o_eqPtr', ↓o_eqSl, ↓o_neSl, ↓o_eqStr, ↓o_neStr, ↓o_len, ↓o_lenS, ↓o_min, ↓o_max, ↓o_extract, ↓o_convInt, ↓cd_true, ↓cd_false, ↓gate_tt, ↓gate_ff, ↓gate_tf, ↓gate_ft, ↓gate_undef, ↓o_bind, ↓stay_v, ↓pop_cons, ↓fin_nil, Option.isNone_none, Option.isNone_some, Bool.not_true, Bool.not_false, Nat.zero_add, decide_true, decide_false, if_true, if_false, Bool.false_eq_true, ↓reduceIte, h1, h2]; exact k
theorem rNew_spec (h : sat E w H) {n : Int} (h1 : 1 ≤ n) (h2 : n ≤ 1024)
    (k : ∀ r w', sat E w' (rdsk r (List.replicate n.toNat zeros) [] * H) → K (.tuple #[.pointer (some ⟨r, 0, none⟩), .int .i64 0]) w') : Calls prog 34 #[.int .i64 n] w (Ret K) := by
  obtain ⟨n, rfl⟩ := Int.eq_ofNat_of_zero_le (show 0 ≤ n by omega)
  refine c34 ?_
  unfold B34
  have e1 : ¬ (n : Int) < 1 := by omega
  have e2 : ¬ (1024 : Int) < n := by omega
  simp only [↓o_nil, ↓o_field, ↓o_add, ↓o_sub, ↓o_mul, ↓o_lss, ↓o_leq, ↓o_gtr, ↓o_geq, ↓o_not, ↓o_pick, ↓o_eqInt, ↓o_neInt, ↓o_eqBool, ↓o_neBool, ↓o_eqPtr, ↓o_nePtr, ↓o_eqPtr', ↓o_eqSl, ↓o_neSl, ↓o_eqStr, ↓o_neStr, ↓o_len, ↓o_lenS, ↓o_min, ↓o_max, ↓o_extract, ↓o_convInt, ↓cd_true, ↓cd_false, ↓gate_tt, ↓gate_ff, ↓gate_tf, ↓gate_ft, ↓gate_undef, ↓o_bind, ↓stay_v, ↓pop_cons, ↓fin_nil, Option.isNone_none, Option.isNone_some, Bool.not_true, Bool.not_false, Nat.zero_add, decide_true, decide_false, if_true, if_false, Bool.false_eq_true, ↓reduceIte, e1, e2]
  refine pvv_of (v := .agg #[.slice none 0 0, .slice none 0 0]) (fun _ => by kernel_rfl) ?_
  refine box_sl h fun r w h => ?_
  have h : sat E w (pts r (.cells [Value.slice none 0 0, .slice none 0 0].toArray 115 (0, 0)) * H) := h
  have h := immAll_nil (osl_nil h 30 1)
  refine lp_nat (fun m σ w => ∃ (i : Nat) (fv : Value) (us : List Value), σ = [.int .i64 i] ∧ m = n - i ∧ i ≤ n ∧
    sat E w (pers (immAll us (List.replicate i zeros)) * (osl 30 1 fv i us * (pts r (.cells [fv, .slice none 0 0].toArray 115 (0, 0)) * H)))) n ⟨0, _, [], rfl, rfl, by omega, h⟩ ?_
  rintro m σ w again ⟨i, fv, us, rfl, rfl, hi, h⟩ hag
  simp only [↓o_nil, ↓o_field, ↓o_add, ↓o_sub, ↓o_mul, ↓o_lss, ↓o_leq, ↓o_gtr, ↓o_geq, ↓o_not, ↓o_pick, ↓o_eqInt, ↓o_neInt, ↓o_eqBool, ↓o_neBool, ↓o_eqPtr, ↓o_nePtr, ↓o_eqPtr', ↓o_eqSl, ↓o_neSl, ↓o_eqStr, ↓o_neStr, ↓o_len, ↓o_lenS, ↓o_min, ↓o_max, ↓o_extract, ↓o_convInt, ↓cd_true, ↓cd_false, ↓gate_tt, ↓gate_ff, ↓gate_tf, ↓gate_ft, ↓gate_undef, ↓o_bind, ↓stay_v, ↓pop_cons, ↓fin_nil, Option.isNone_none, Option.isNone_some, Bool.not_true, Bool.not_false, Nat.zero_add, decide_true, decide_false, if_true, if_false, Bool.false_eq_true, ↓reduceIte]
  refine cd_dec (fun hlt => ?_) (fun hge => ?_)
  · have hlt : i < n := by omega
    refine dr_sl h fun w h _ => ?_
    refine ld_at h ?_
    refine make_sl h rfl (by omega) (by omega) (by omega) (by omega) fun b w h => ?_
    have e3 : (256 : Int).toNat = 256 := rfl
    rw [e3] at h ⊢
    rw [zeros_map] at h
    have h := osl_freeze (osl_of (n := 256) (sz := 1) h (by simp [zeros]) (by omega))
    refine st_at h ?_
    refine buildSlice_sl (e := 30) (cs := #[.slice (some ⟨b, 0, none⟩) 256 256]) h (fun w => by kernel_rfl) fun b1 w h => ?_
    refine st_at h ?_
    refine append_sl h [.slice (some ⟨b, 0, none⟩) 256 256] rfl (.inr ⟨b1, 0, _, 30, (0, 0), rfl, h.pts_get, fun j v hj => by simpa using hj⟩) (by simp [Value.oneCell']) (by omega) (by omega) fun fv' w h => ?_
    obtain ⟨a4, c4, rfl, _, _, _⟩ := osl_shape h
    refine store_at h rfl (by simp) fun w h => ?_
    rw [i64_of (by omega) (by omega)]
    refine hag _ _ _ (by omega) ⟨i + 1, .slice a4 (i + 1) c4, us ++ [.slice (some ⟨b, 0, none⟩) 256 256], rfl, rfl, by omega, ?_⟩
    have h := sat_imp2 (h.lose b1) (immS (.slice (some ⟨b, 0, none⟩) 256 256) 256 (zeros.map bv)) (immAll us (List.replicate i zeros)) (χ := immAll (us ++ [.slice (some ⟨b, 0, none⟩) 256 256]) (List.replicate i zeros ++ [zeros])) (fun I h1 h2 => immAll_snoc (v := .slice (some ⟨b, 0, none⟩) 256 256) (l := zeros) h2 h1)
    rw [← List.replicate_succ'] at h
    exact h.perm (by ac_rfl)
  · have : i = n := by omega
    subst this
    have h := osl_nil h 155 2
    have h : sat E w (pers (immAll (List.map (·.2) ([] : List (Int × Value))) (List.map (·.2) ([] : List (Int × List UInt8)))) * _) := immAll_nil h
    exact k r w ((rdsk_shut (fv := fv) (lv := .slice none 0 0) (vs := us) (ws := []) r (List.replicate i zeros) [] (by simp) rfl rfl h).perm (by ac_rfl))
/-- CopyAll, of the references. -/
theorem CopyAll_spec (h : sat E w H) {v : Value} {L : List (List UInt8)} (hr : Rdd H v L) (hn : L.length ≤ 1024) (hl : ∀ l ∈ L, l.length ≤ 140737488355328)
    (k : ∀ v' vs' w', sat E w' (osl 30 1 v' L.length vs' * (pers (immAll vs' L) * H)) → K v' w') : Calls prog 93 #[v] w (Ret K) := by
  obtain ⟨vs, hv, hlen, hall⟩ := hr
  obtain ⟨a, c, rfl, hc, hv, ha⟩ := hv.shape h
  refine c93 ?_
  unfold B93
  refine lp_nat (fun n σ w => ∃ (i : Nat) (ov : Value) (us : List Value), σ = [ov, .int .i64 i] ∧ n = L.length - i ∧ i ≤ L.length ∧
    sat E w (osl 30 1 ov i us * (pers (immAll us (L.take i)) * H))) L.length ⟨0, _, [], rfl, rfl, by omega, ?_⟩ ?_
  · exact (immAll_nil (osl_nil h 30 1)).perm (by simp only [List.take_zero]; ac_rfl)
  · rintro n σ w again ⟨i, ov, us, rfl, rfl, hi, h⟩ hag
    simp only [↓o_nil, ↓o_field, ↓o_add, ↓o_sub, ↓o_mul, ↓o_lss, ↓o_leq, ↓o_gtr, ↓o_geq, ↓o_not, ↓o_pick, ↓o_eqInt, ↓o_neInt, ↓o_eqBool, ↓o_neBool, ↓o_eqPtr, ↓o_nePtr, ↓o_eqPtr', ↓o_eqSl, ↓o_neSl, ↓o_eqStr, ↓o_neStr, ↓o_len, ↓o_lenS, ↓o_min, ↓o_max, ↓o_extract, ↓o_convInt, ↓cd_true, ↓cd_false, ↓gate_tt, ↓gate_ff, ↓gate_tf, ↓gate_ft, ↓gate_undef, ↓o_bind, ↓stay_v, ↓pop_cons, ↓fin_nil, Option.isNone_none, Option.isNone_some, Bool.not_true, Bool.not_false, Nat.zero_add, decide_true, decide_false, if_true, if_false, Bool.false_eq_true, ↓reduceIte]
    refine cd_dec (fun hlt => ?_) (fun hge => ?_)
    · have hlt : i < L.length := by omega
      obtain ⟨b', o', rfl, hb'⟩ := win_cell (hv.win h.drop.drop) (j := i) (by omega)
      rw [o_index (by omega) (by omega)]
      simp only [Int.toNat_natCast, Nat.mul_one]
      refine ld_cell hb' ?_
      have hcl := hall i vs[i] L[i] (List.getElem?_eq_getElem (by omega)) (List.getElem?_eq_getElem hlt)
      refine Copy_spec h hcl.right.right (hl _ (List.getElem_mem _)) ?_
      intro v' w2 h2
      have hf := osl_freeze h2
      obtain ⟨a3, c3, rfl, _, _, _⟩ := osl_shape h2
      refine buildSlice_sl (e := 30) (cs := #[.slice a3 L[i].length c3]) hf (fun w => by kernel_rfl) fun b1 w h => ?_
      refine append_sl h [.slice a3 L[i].length c3] rfl (.inr ⟨b1, 0, _, 30, (0, 0), rfl, h.pts_get, fun j v hj => by simpa using hj⟩) (by simp [Value.oneCell']) (by omega) (by omega) fun ov' w h => ?_
      rw [i64_of (by omega) (by omega)]
      refine hag _ _ _ (by omega) ⟨i + 1, ov', us ++ [.slice a3 L[i].length c3], rfl, rfl, by omega, ?_⟩
      have h := sat_imp2 (h.lose b1) (immS (.slice a3 L[i].length c3) L[i].length (L[i].map bv)) (immAll us (L.take i)) (χ := immAll (us ++ [.slice a3 L[i].length c3]) (L.take i ++ [L[i]])) (fun I h1 h2 => immAll_snoc (v := .slice a3 L[i].length c3) h2 h1)
      rw [← List.take_succ_eq_append_getElem hlt] at h
      exact h.perm (by ac_rfl)
    · have : i = L.length := by omega
      subst this
      simp only [List.take_length] at h
      exact k ov us w h
/-- The writes done, again. -/
def redo (F : List (List UInt8)) (V : List (Int × List UInt8)) : List (List UInt8) := V.foldl (fun L p => L.set p.1.toNat p.2) F
theorem redo_length : ∀ (V : List (Int × List UInt8)) (F : List (List UInt8)), (redo F V).length = F.length
  | [], _ => rfl
  | p :: r, F => by
    have := redo_length r (F.set p.1.toNat p.2)
    simp [redo] at this ⊢; exact this
theorem redo_snoc (F : List (List UInt8)) (V : List (Int × List UInt8)) (p : Int × List UInt8) : redo F (V ++ [p]) = (redo F V).set p.1.toNat p.2 := by simp [redo]
theorem rAt_spec {r : Nat} {F : List (List UInt8)} {V : List (Int × List UInt8)} (h : sat E w H) [s : RdkS H r F V R] (wf : Wf F V) (hV : V.length ≤ 1000000) {n : Nat} (hn : n ≤ V.length)
    (k : ∀ v' vs' w', sat E w' (osl 30 1 v' F.length vs' * (pers (immAll vs' (redo F (V.take n))) * H)) → K v' w') : Calls prog 94 #[.pointer (some ⟨r, 0, none⟩), .int .i64 n] w (Ret K) := by
  obtain ⟨fv, vs, lv, ws, e, hd⟩ := sat_rdsk.1 (h.rdks r)
  have hL2 : ws.length = V.length := by simpa using hd.drop.drop.drop.drop.pers_get.1
  obtain ⟨al, cl, rfl, hcl, hll, _⟩ := osl_shape hd.drop.drop
  have hwl := wcells_length ws
  refine c94 ?_
  unfold B94
  simp only [↓o_nil, ↓o_field, ↓o_add, ↓o_sub, ↓o_mul, ↓o_lss, ↓o_leq, ↓o_gtr, ↓o_geq, ↓o_not, ↓o_pick, ↓o_eqInt, ↓o_neInt, ↓o_eqBool, ↓o_neBool, ↓o_eqPtr, ↓o_nePtr, ↓o_eqPtr', ↓o_eqSl, ↓o_neSl, ↓o_eqStr, ↓o_neStr, ↓o_len, ↓o_lenS, ↓o_min, ↓o_max, ↓o_extract, ↓o_convInt, ↓cd_true, ↓cd_false, ↓gate_tt, ↓gate_ff, ↓gate_tf, ↓gate_ft, ↓gate_undef, ↓o_bind, ↓stay_v, ↓pop_cons, ↓fin_nil, Option.isNone_none, Option.isNone_some, Bool.not_true, Bool.not_false, Nat.zero_add, decide_true, decide_false, if_true, if_false, Bool.false_eq_true, ↓reduceIte]
  refine ld_at hd ?_
  refine CopyAll_spec hd (rdd_of hd) wf.le (fun l hl => by rw [wf.l l hl]; omega) fun ov us w hd => ?_
  obtain ⟨ao, co, rfl, hco, hol, hoa⟩ := osl_shape hd
  obtain ⟨bo, rfl⟩ := hoa wf.pos
  refine lp_nat (fun m σ w => ∃ (i : Nat) (us : List Value), σ = [.int .i64 i] ∧ m = n - i ∧ i ≤ n ∧
    sat E w (osl 30 1 (.slice (some ⟨bo, 0, none⟩) F.length co) F.length us * (pers (immAll us (redo F (V.take i))) * (pts r (.cells [fv, .slice al V.length cl].toArray 115 (0, 0)) * (osl 30 1 fv F.length vs * (osl 155 2 (.slice al V.length cl) V.length (wcells ws) * (pers (immAll vs F) * (pers (immAll (ws.map (·.2)) (V.map (·.2))) * R)))))))) n ⟨0, us, rfl, rfl, by omega, hd⟩ ?_
  rintro m σ w again ⟨i, us, rfl, rfl, hi, h⟩ hag
  simp only [↓o_nil, ↓o_field, ↓o_add, ↓o_sub, ↓o_mul, ↓o_lss, ↓o_leq, ↓o_gtr, ↓o_geq, ↓o_not, ↓o_pick, ↓o_eqInt, ↓o_neInt, ↓o_eqBool, ↓o_neBool, ↓o_eqPtr, ↓o_nePtr, ↓o_eqPtr', ↓o_eqSl, ↓o_neSl, ↓o_eqStr, ↓o_neStr, ↓o_len, ↓o_lenS, ↓o_min, ↓o_max, ↓o_extract, ↓o_convInt, ↓cd_true, ↓cd_false, ↓gate_tt, ↓gate_ff, ↓gate_tf, ↓gate_ft, ↓gate_undef, ↓o_bind, ↓stay_v, ↓pop_cons, ↓fin_nil, Option.isNone_none, Option.isNone_some, Bool.not_true, Bool.not_false, Nat.zero_add, decide_true, decide_false, if_true, if_false, Bool.false_eq_true, ↓reduceIte]
  refine cd_dec (fun hlt => ?_) (fun hge => ?_)
  · have hlt : i < n := by omega
    have hj1 : i < ws.length := by omega
    have hj2 : i < V.length := by omega
    have e2 : ws[i].1 = V[i].1 := by
      have := congrArg (fun l => l[i]?) e
      simp only [List.getElem?_map, List.getElem?_eq_getElem hj1, List.getElem?_eq_getElem hj2, Option.map_some, Option.some.injEq] at this
      exact this
    obtain ⟨w1, w2, w3⟩ := wf.w V[i] (List.getElem_mem hj2)
    obtain ⟨p, hp⟩ := Int.eq_ofNat_of_zero_le w1
    have hpl : p < F.length := by omega
    obtain ⟨g1, g2⟩ := wcells_get ws i hj1
    have hrd : Rds (pers (immAll (ws.map (·.2)) (V.map (·.2)))) ws[i].2 V[i].2.length (V[i].2.map bv) :=
      immAll_rds (i := i) (by simp [List.getElem?_eq_getElem hj1]) (by simp [List.getElem?_eq_getElem hj2])
    obtain ⟨bl, cl', sp, hvl, _, _, hP, _⟩ := osl_open (h.owns (.slice al V.length cl)) (by omega)
    cases hvl
    refine dr_sl h fun w h _ => ?_
    have hrow : ∀ {w : World} {X : HP}, sat E w X → [OwnS X (.slice (some ⟨bl, 0, none⟩) V.length cl) 52 2 V.length (wcells ws) R] → True := fun _ _ => trivial
    refine ld_at h ?_
    rw [o_index (by omega) (by omega)]
    simp only [Int.toNat_natCast, Nat.zero_add, ↓o_nil, ↓o_field, ↓o_add, ↓o_sub, ↓o_mul, ↓o_lss, ↓o_leq, ↓o_gtr, ↓o_geq, ↓o_not, ↓o_pick, ↓o_eqInt, ↓o_neInt, ↓o_eqBool, ↓o_neBool, ↓o_eqPtr, ↓o_nePtr, ↓o_eqPtr', ↓o_eqSl, ↓o_neSl, ↓o_eqStr, ↓o_neStr, ↓o_len, ↓o_lenS, ↓o_min, ↓o_max, ↓o_extract, ↓o_convInt, ↓cd_true, ↓cd_false, ↓gate_tt, ↓gate_ff, ↓gate_tf, ↓gate_ft, ↓gate_undef, ↓o_bind, ↓stay_v, ↓pop_cons, ↓fin_nil, Option.isNone_none, Option.isNone_some, Bool.not_true, Bool.not_false, Nat.zero_add, decide_true, decide_false, if_true, if_false, Bool.false_eq_true, ↓reduceIte]
    have hwin := (Rds.own (v := .slice (some ⟨bl, 0, none⟩) V.length cl)).win h
    refine ld_cell (v := .int .i64 p) (by have := hwin.cell bl 0 rfl _ _ g1; rw [e2, hp] at this; simpa using this) ?_
    refine ld_at h ?_
    rw [o_index (by omega) (by omega)]
    simp only [Int.toNat_natCast, Nat.zero_add, ↓o_nil, ↓o_field, ↓o_add, ↓o_sub, ↓o_mul, ↓o_lss, ↓o_leq, ↓o_gtr, ↓o_geq, ↓o_not, ↓o_pick, ↓o_eqInt, ↓o_neInt, ↓o_eqBool, ↓o_neBool, ↓o_eqPtr, ↓o_nePtr, ↓o_eqPtr', ↓o_eqSl, ↓o_neSl, ↓o_eqStr, ↓o_neStr, ↓o_len, ↓o_lenS, ↓o_min, ↓o_max, ↓o_extract, ↓o_convInt, ↓cd_true, ↓cd_false, ↓gate_tt, ↓gate_ff, ↓gate_tf, ↓gate_ft, ↓gate_undef, ↓o_bind, ↓stay_v, ↓pop_cons, ↓fin_nil, Option.isNone_none, Option.isNone_some, Bool.not_true, Bool.not_false, Nat.zero_add, decide_true, decide_false, if_true, if_false, Bool.false_eq_true, ↓reduceIte]
    refine ld_cell (v := ws[i].2) (by simpa using hwin.cell bl 0 rfl _ _ g2) ?_
    refine Copy_spec h (Rds.under hrd) (by omega) fun v5 w h => ?_
    have h := osl_freeze h
    obtain ⟨a5, c5, rfl, hc5, _⟩ := h.pers_get
    have hwin := (Rds.own (v := .slice (some ⟨bl, 0, none⟩) V.length cl)).win h
    refine st_at h ?_
    refine st_cell (by have := hwin.cell bl 0 rfl _ _ g1; rw [e2, hp] at this; simpa using this) ?_
    refine st_at h ?_
    rw [o_index (by omega) (by omega)]
    simp only [Int.toNat_natCast, Nat.mul_one, Nat.zero_add]
    refine osl_store h (c := co) hpl rfl fun w h => ?_
    rw [i64_of (by omega) (by omega)]
    refine hag _ _ _ (by omega) ⟨i + 1, us.set p (.slice a5 V[i].2.length c5), rfl, rfl, by omega, ?_⟩
    have eu : redo F (V.take (i + 1)) = (redo F (V.take i)).set p V[i].2 := by
      rw [List.take_succ_eq_append_getElem hj2, redo_snoc, hp]; rfl
    rw [eu]
    have h := sat_imp2 h (immS (.slice a5 V[i].2.length c5) V[i].2.length (V[i].2.map bv)) (immAll us (redo F (V.take i)))
      (χ := immAll (us.set p (.slice a5 V[i].2.length c5)) ((redo F (V.take i)).set p V[i].2)) (fun I h1 h2 => immAll_set h2 h1)
    exact h.perm (by ac_rfl)
  · have : i = n := by omega
    subst this
    refine k _ us w ?_
    have h := rdsk_shut r F V rfl rfl e h
    exact h.perm (by rw [s.eq]; ac_rfl)
theorem rBlocks_spec {d : Nat} {L : List (List UInt8)} {W : List (Int × List UInt8)} (h : sat E w H) [s : RdkS H d L W R] (k : K (.int .i64 L.length) w) : Calls prog 60 #[.pointer (some ⟨d, 0, none⟩)] w (Ret K) := by
  obtain ⟨lv, vs, wv, ws, e, hd⟩ := sat_rdsk.1 (h.rdks d)
  obtain ⟨a, c, rfl, hc, hl, ha⟩ := osl_shape hd.drop
  refine c60 ?_
  unfold B60
  simp only [↓o_nil, ↓o_field, ↓o_add, ↓o_sub, ↓o_mul, ↓o_lss, ↓o_leq, ↓o_gtr, ↓o_geq, ↓o_not, ↓o_pick, ↓o_eqInt, ↓o_neInt, ↓o_eqBool, ↓o_neBool, ↓o_eqPtr, ↓o_nePtr, ↓o_eqPtr', ↓o_eqSl, ↓o_neSl, ↓o_eqStr, ↓o_neStr, ↓o_len, ↓o_lenS, ↓o_min, ↓o_max, ↓o_extract, ↓o_convInt, ↓cd_true, ↓cd_false, ↓gate_tt, ↓gate_ff, ↓gate_tf, ↓gate_ft, ↓gate_undef, ↓o_bind, ↓stay_v, ↓pop_cons, ↓fin_nil, Option.isNone_none, Option.isNone_some, Bool.not_true, Bool.not_false, Nat.zero_add, decide_true, decide_false, if_true, if_false, Bool.false_eq_true, ↓reduceIte]
  refine ld_at hd ?_
  simp only [↓o_nil, ↓o_field, ↓o_add, ↓o_sub, ↓o_mul, ↓o_lss, ↓o_leq, ↓o_gtr, ↓o_geq, ↓o_not, ↓o_pick, ↓o_eqInt, ↓o_neInt, ↓o_eqBool, ↓o_neBool, ↓o_eqPtr, ↓o_nePtr, ↓o_eqPtr', ↓o_eqSl, ↓o_neSl, ↓o_eqStr, ↓o_neStr, ↓o_len, ↓o_lenS, ↓o_min, ↓o_max, ↓o_extract, ↓o_convInt, ↓cd_true, ↓cd_false, ↓gate_tt, ↓gate_ff, ↓gate_tf, ↓gate_ft, ↓gate_undef, ↓o_bind, ↓stay_v, ↓pop_cons, ↓fin_nil, Option.isNone_none, Option.isNone_some, Bool.not_true, Bool.not_false, Nat.zero_add, decide_true, decide_false, if_true, if_false, Bool.false_eq_true, ↓reduceIte]
  exact k
theorem rImage_nil (k : K (.slice none 0 0) w) : Calls prog 62 #[.pointer none] w (Ret K) := by
  refine c62 ?_
  unfold B62
  simp only [↓o_nil, ↓o_field, ↓o_add, ↓o_sub, ↓o_mul, ↓o_lss, ↓o_leq, ↓o_gtr, ↓o_geq, ↓o_not, ↓o_pick, ↓o_eqInt, ↓o_neInt, ↓o_eqBool, ↓o_neBool, ↓o_eqPtr, ↓o_nePtr, ↓o_eqPtr', ↓o_eqSl, ↓o_neSl, ↓o_eqStr, ↓o_neStr, ↓o_len, ↓o_lenS, ↓o_min, ↓o_max, ↓o_extract, ↓o_convInt, ↓cd_true, ↓cd_false, ↓gate_tt, ↓gate_ff, ↓gate_tf, ↓gate_ft, ↓gate_undef, ↓o_bind, ↓stay_v, ↓pop_cons, ↓fin_nil, Option.isNone_none, Option.isNone_some, Bool.not_true, Bool.not_false, Nat.zero_add, decide_true, decide_false, if_true, if_false, Bool.false_eq_true, ↓reduceIte]
  exact k
theorem rImage_spec {r : Nat} {F : List (List UInt8)} {V : List (Int × List UInt8)} (h : sat E w H) [s : RdkS H r F V R] (wf : Wf F V) (hV : V.length ≤ 1000000)
    (k : ∀ v' vs' w', sat E w' (osl 30 1 v' F.length vs' * (pers (immAll vs' (redo F V)) * H)) → K v' w') : Calls prog 62 #[.pointer (some ⟨r, 0, none⟩)] w (Ret K) := by
  obtain ⟨lv, vs, wv, ws, e, hd⟩ := sat_rdsk.1 (h.rdks r)
  obtain ⟨a, c, rfl, hc, hl, ha⟩ := osl_shape hd.drop.drop
  refine c62 ?_
  unfold B62
  simp only [↓o_nil, ↓o_field, ↓o_add, ↓o_sub, ↓o_mul, ↓o_lss, ↓o_leq, ↓o_gtr, ↓o_geq, ↓o_not, ↓o_pick, ↓o_eqInt, ↓o_neInt, ↓o_eqBool, ↓o_neBool, ↓o_eqPtr, ↓o_nePtr, ↓o_eqPtr', ↓o_eqSl, ↓o_neSl, ↓o_eqStr, ↓o_neStr, ↓o_len, ↓o_lenS, ↓o_min, ↓o_max, ↓o_extract, ↓o_convInt, ↓cd_true, ↓cd_false, ↓gate_tt, ↓gate_ff, ↓gate_tf, ↓gate_ft, ↓gate_undef, ↓o_bind, ↓stay_v, ↓pop_cons, ↓fin_nil, Option.isNone_none, Option.isNone_some, Bool.not_true, Bool.not_false, Nat.zero_add, decide_true, decide_false, if_true, if_false, Bool.false_eq_true, ↓reduceIte]
  refine ld_at hd ?_
  simp only [↓o_nil, ↓o_field, ↓o_add, ↓o_sub, ↓o_mul, ↓o_lss, ↓o_leq, ↓o_gtr, ↓o_geq, ↓o_not, ↓o_pick, ↓o_eqInt, ↓o_neInt, ↓o_eqBool, ↓o_neBool, ↓o_eqPtr, ↓o_nePtr, ↓o_eqPtr', ↓o_eqSl, ↓o_neSl, ↓o_eqStr, ↓o_neStr, ↓o_len, ↓o_lenS, ↓o_min, ↓o_max, ↓o_extract, ↓o_convInt, ↓cd_true, ↓cd_false, ↓gate_tt, ↓gate_ff, ↓gate_tf, ↓gate_ft, ↓gate_undef, ↓o_bind, ↓stay_v, ↓pop_cons, ↓fin_nil, Option.isNone_none, Option.isNone_some, Bool.not_true, Bool.not_false, Nat.zero_add, decide_true, decide_false, if_true, if_false, Bool.false_eq_true, ↓reduceIte]
  refine rAt_spec h wf hV (Nat.le_refl _) fun v' vs' w' h' => k v' vs' w' ?_
  rwa [List.take_length] at h'
/-- Blocks of noughts. -/
def Z (n : Nat) : List (List UInt8) := List.replicate n zeros
theorem rLoad_spec (h : sat E w H) {v : Value} {L : List (List UInt8)} (hv : Rdd H v L)
    (k0 : ∀ e w', bad L = some e → sat E w' H → K (.tuple #[.pointer none, .int .i64 e]) w')
    (k1 : ∀ r w', bad L = none → sat E w' (rdsk r L [] * H) → K (.tuple #[.pointer (some ⟨r, 0, none⟩), .int .i64 0]) w') : Calls prog 61 #[v] w (Ret K) := by
  have hv0 := hv
  obtain ⟨vs, hv, hvl, hva⟩ := hv
  obtain ⟨a, c, rfl, hc, hv, _⟩ := hv.shape h
  refine c61 ?_
  unfold B61
  simp only [↓o_nil, ↓o_field, ↓o_add, ↓o_sub, ↓o_mul, ↓o_lss, ↓o_leq, ↓o_gtr, ↓o_geq, ↓o_not, ↓o_pick, ↓o_eqInt, ↓o_neInt, ↓o_eqBool, ↓o_neBool, ↓o_eqPtr, ↓o_nePtr, ↓o_eqPtr', ↓o_eqSl, ↓o_neSl, ↓o_eqStr, ↓o_neStr, ↓o_len, ↓o_lenS, ↓o_min, ↓o_max, ↓o_extract, ↓o_convInt, ↓cd_true, ↓cd_false, ↓gate_tt, ↓gate_ff, ↓gate_tf, ↓gate_ft, ↓gate_undef, ↓o_bind, ↓stay_v, ↓pop_cons, ↓fin_nil, Option.isNone_none, Option.isNone_some, Bool.not_true, Bool.not_false, Nat.zero_add, decide_true, decide_false, if_true, if_false, Bool.false_eq_true, ↓reduceIte]
  by_cases h1 : (L.length : Int) < 1
  · simp only [h1, ↓o_nil, ↓o_field, ↓o_add, ↓o_sub, ↓o_mul, ↓o_lss, ↓o_leq, ↓o_gtr, ↓o_geq, ↓o_not, ↓o_pick, ↓o_eqInt, ↓o_neInt, ↓o_eqBool, ↓o_neBool, ↓o_eqPtr, ↓o_nePtr, ↓o_eqPtr', ↓o_eqSl, ↓o_neSl, ↓o_eqStr, ↓o_neStr, ↓o_len, ↓o_lenS, ↓o_min, ↓o_max, ↓o_extract, ↓o_convInt, ↓cd_true, ↓cd_false, ↓gate_tt, ↓gate_ff, ↓gate_tf, ↓gate_ft, ↓gate_undef, ↓o_bind, ↓stay_v, ↓pop_cons, ↓fin_nil, Option.isNone_none, Option.isNone_some, Bool.not_true, Bool.not_false, Nat.zero_add, decide_true, decide_false, if_true, if_false, Bool.false_eq_true, ↓reduceIte]
    exact k0 2 w (by unfold bad; rw [if_pos (by omega)]) h
  · simp only [h1, ↓o_nil, ↓o_field, ↓o_add, ↓o_sub, ↓o_mul, ↓o_lss, ↓o_leq, ↓o_gtr, ↓o_geq, ↓o_not, ↓o_pick, ↓o_eqInt, ↓o_neInt, ↓o_eqBool, ↓o_neBool, ↓o_eqPtr, ↓o_nePtr, ↓o_eqPtr', ↓o_eqSl, ↓o_neSl, ↓o_eqStr, ↓o_neStr, ↓o_len, ↓o_lenS, ↓o_min, ↓o_max, ↓o_extract, ↓o_convInt, ↓cd_true, ↓cd_false, ↓gate_tt, ↓gate_ff, ↓gate_tf, ↓gate_ft, ↓gate_undef, ↓o_bind, ↓stay_v, ↓pop_cons, ↓fin_nil, Option.isNone_none, Option.isNone_some, Bool.not_true, Bool.not_false, Nat.zero_add, decide_true, decide_false, if_true, if_false, Bool.false_eq_true, ↓reduceIte]
    by_cases h2 : (1024 : Int) < L.length
    · simp only [h2, ↓o_nil, ↓o_field, ↓o_add, ↓o_sub, ↓o_mul, ↓o_lss, ↓o_leq, ↓o_gtr, ↓o_geq, ↓o_not, ↓o_pick, ↓o_eqInt, ↓o_neInt, ↓o_eqBool, ↓o_neBool, ↓o_eqPtr, ↓o_nePtr, ↓o_eqPtr', ↓o_eqSl, ↓o_neSl, ↓o_eqStr, ↓o_neStr, ↓o_len, ↓o_lenS, ↓o_min, ↓o_max, ↓o_extract, ↓o_convInt, ↓cd_true, ↓cd_false, ↓gate_tt, ↓gate_ff, ↓gate_tf, ↓gate_ft, ↓gate_undef, ↓o_bind, ↓stay_v, ↓pop_cons, ↓fin_nil, Option.isNone_none, Option.isNone_some, Bool.not_true, Bool.not_false, Nat.zero_add, decide_true, decide_false, if_true, if_false, Bool.false_eq_true, ↓reduceIte]
      exact k0 2 w (by unfold bad; rw [if_pos (by omega)]) h
    · simp only [h2, ↓o_nil, ↓o_field, ↓o_add, ↓o_sub, ↓o_mul, ↓o_lss, ↓o_leq, ↓o_gtr, ↓o_geq, ↓o_not, ↓o_pick, ↓o_eqInt, ↓o_neInt, ↓o_eqBool, ↓o_neBool, ↓o_eqPtr, ↓o_nePtr, ↓o_eqPtr', ↓o_eqSl, ↓o_neSl, ↓o_eqStr, ↓o_neStr, ↓o_len, ↓o_lenS, ↓o_min, ↓o_max, ↓o_extract, ↓o_convInt, ↓cd_true, ↓cd_false, ↓gate_tt, ↓gate_ff, ↓gate_tf, ↓gate_ft, ↓gate_undef, ↓o_bind, ↓stay_v, ↓pop_cons, ↓fin_nil, Option.isNone_none, Option.isNone_some, Bool.not_true, Bool.not_false, Nat.zero_add, decide_true, decide_false, if_true, if_false, Bool.false_eq_true, ↓reduceIte]
      refine lp_nat (fun n σ w => ∃ i : Nat, σ = [.int .i64 i] ∧ n = L.length - i ∧ i ≤ L.length ∧ (∀ j (hj : j < L.length), j < i → L[j].length = 256) ∧ sat E w H) L.length ⟨0, rfl, rfl, by omega, fun j _ hj => by omega, h⟩ ?_
      rintro n σ w again ⟨i, rfl, rfl, hi, hall, h⟩ hag
      simp only [↓o_nil, ↓o_field, ↓o_add, ↓o_sub, ↓o_mul, ↓o_lss, ↓o_leq, ↓o_gtr, ↓o_geq, ↓o_not, ↓o_pick, ↓o_eqInt, ↓o_neInt, ↓o_eqBool, ↓o_neBool, ↓o_eqPtr, ↓o_nePtr, ↓o_eqPtr', ↓o_eqSl, ↓o_neSl, ↓o_eqStr, ↓o_neStr, ↓o_len, ↓o_lenS, ↓o_min, ↓o_max, ↓o_extract, ↓o_convInt, ↓cd_true, ↓cd_false, ↓gate_tt, ↓gate_ff, ↓gate_tf, ↓gate_ft, ↓gate_undef, ↓o_bind, ↓stay_v, ↓pop_cons, ↓fin_nil, Option.isNone_none, Option.isNone_some, Bool.not_true, Bool.not_false, Nat.zero_add, decide_true, decide_false, if_true, if_false, Bool.false_eq_true, ↓reduceIte]
      refine cd_dec (fun hlt => ?_) (fun hge => ?_)
      · have hlt : i < L.length := by omega
        obtain ⟨b1, o1, rfl, hb1⟩ := win_cell (hv.win h) (j := i) (by omega)
        rw [o_index (by omega) (by omega)]
        simp only [Int.toNat_natCast, Nat.mul_one]
        refine ld_cell hb1 ?_
        obtain ⟨a3, c3, e3, _⟩ := hva i vs[i] L[i] (List.getElem?_eq_getElem (by omega)) (List.getElem?_eq_getElem hlt) E w h
        rw [e3]
        simp only [↓o_nil, ↓o_field, ↓o_add, ↓o_sub, ↓o_mul, ↓o_lss, ↓o_leq, ↓o_gtr, ↓o_geq, ↓o_not, ↓o_pick, ↓o_eqInt, ↓o_neInt, ↓o_eqBool, ↓o_neBool, ↓o_eqPtr, ↓o_nePtr, ↓o_eqPtr', ↓o_eqSl, ↓o_neSl, ↓o_eqStr, ↓o_neStr, ↓o_len, ↓o_lenS, ↓o_min, ↓o_max, ↓o_extract, ↓o_convInt, ↓cd_true, ↓cd_false, ↓gate_tt, ↓gate_ff, ↓gate_tf, ↓gate_ft, ↓gate_undef, ↓o_bind, ↓stay_v, ↓pop_cons, ↓fin_nil, Option.isNone_none, Option.isNone_some, Bool.not_true, Bool.not_false, Nat.zero_add, decide_true, decide_false, if_true, if_false, Bool.false_eq_true, ↓reduceIte]
        by_cases hb : L[i].length = 256
        · have hb' : (L[i].length : Int) = 256 := by omega
          simp only [hb', ↓o_nil, ↓o_field, ↓o_add, ↓o_sub, ↓o_mul, ↓o_lss, ↓o_leq, ↓o_gtr, ↓o_geq, ↓o_not, ↓o_pick, ↓o_eqInt, ↓o_neInt, ↓o_eqBool, ↓o_neBool, ↓o_eqPtr, ↓o_nePtr, ↓o_eqPtr', ↓o_eqSl, ↓o_neSl, ↓o_eqStr, ↓o_neStr, ↓o_len, ↓o_lenS, ↓o_min, ↓o_max, ↓o_extract, ↓o_convInt, ↓cd_true, ↓cd_false, ↓gate_tt, ↓gate_ff, ↓gate_tf, ↓gate_ft, ↓gate_undef, ↓o_bind, ↓stay_v, ↓pop_cons, ↓fin_nil, Option.isNone_none, Option.isNone_some, Bool.not_true, Bool.not_false, Nat.zero_add, decide_true, decide_false, if_true, if_false, Bool.false_eq_true, ↓reduceIte]
          rw [i64_of (by omega) (by omega)]
          refine hag _ _ _ (by omega) ⟨i + 1, rfl, rfl, by omega, fun j hj hji => ?_, h⟩
          rcases Nat.lt_or_ge j i with hh | hh
          · exact hall j hj hh
          · have : j = i := by omega
            subst this; exact hb
        · have hb' : ¬ (L[i].length : Int) = 256 := by omega
          simp only [hb', ↓o_nil, ↓o_field, ↓o_add, ↓o_sub, ↓o_mul, ↓o_lss, ↓o_leq, ↓o_gtr, ↓o_geq, ↓o_not, ↓o_pick, ↓o_eqInt, ↓o_neInt, ↓o_eqBool, ↓o_neBool, ↓o_eqPtr, ↓o_nePtr, ↓o_eqPtr', ↓o_eqSl, ↓o_neSl, ↓o_eqStr, ↓o_neStr, ↓o_len, ↓o_lenS, ↓o_min, ↓o_max, ↓o_extract, ↓o_convInt, ↓cd_true, ↓cd_false, ↓gate_tt, ↓gate_ff, ↓gate_tf, ↓gate_ft, ↓gate_undef, ↓o_bind, ↓stay_v, ↓pop_cons, ↓fin_nil, Option.isNone_none, Option.isNone_some, Bool.not_true, Bool.not_false, Nat.zero_add, decide_true, decide_false, if_true, if_false, Bool.false_eq_true, ↓reduceIte]
          refine k0 3 w ?_ h
          unfold bad
          rw [if_neg (by omega), if_neg]
          intro ha
          have := List.all_eq_true.1 ha L[i] (List.getElem_mem hlt)
          exact hb (by simpa using this)
      · have hall' : L.all (fun l => l.length == 256) = true := by
          refine List.all_eq_true.2 fun l hl => ?_
          obtain ⟨j, hj, rfl⟩ := List.mem_iff_getElem.1 hl
          simpa using hall j hj (by omega)
        refine CopyAll_spec h hv0 (by omega) (fun l hl => by have := List.all_eq_true.1 hall' l hl; simp at this; omega) fun ov us w h => ?_
        obtain ⟨ao, co, rfl, _, _, _⟩ := osl_shape h
        refine pvv_of (v := .agg #[.slice ao L.length co, .slice none 0 0]) (fun _ => by kernel_rfl) ?_
        refine box_sl h fun d w h => ?_
        have h : sat E w (pts d (.cells [Value.slice ao L.length co, .slice none 0 0].toArray 115 (0, 0)) * _) := h
        refine k1 d w (by unfold bad; rw [if_neg (by omega), if_pos hall']) ?_
        have h := osl_nil h 155 2
        have h : sat E _ (pers (immAll (List.map (·.2) ([] : List (Int × Value))) (List.map (·.2) ([] : List (Int × List UInt8)))) * _) := immAll_nil h
        exact rdsk_shut (fv := .slice ao L.length co) (lv := .slice none 0 0) (vs := us) (ws := []) d L [] rfl rfl rfl h
end Go.Proofs.YtcjklbhobmkalaaGreat

/-
  The reference's log, as it is opened.
-/
set_option linter.all false
set_option maxRecDepth 100000
namespace Go.Proofs.YtcjklbhobmkalaaGreat
open Go Hold
variable {E : World0} {w : World} {H R X : HP} {K : Value → World → Prop}
/-- The reference's disk is read: some bytes. -/
theorem rRead_weak {d : Nat} {F : List Bs} {V : List (Int × Bs)} (h : sat E w H) [s : RdkS H d F V R] (wf : Wf F V) (hV : V.length ≤ 1000000) {n : Nat} (hn : n < F.length)
    (k : ∀ v l w', l.length = 256 → (V = [] → l = F[n]) → sat E w' (osl 5 1 v 256 (l.map bv) * (rdsk d F V * R)) → K (.tuple #[v, .int .i64 0]) w') : Calls prog 95 #[.pointer (some ⟨d, 0, none⟩), .int .i64 n] w (Ret K) := by
  obtain ⟨lv, vs, wv, ws, e, hd⟩ := sat_rdsk.1 (h.rdks d)
  have hF := wf.le
  have hws : ws.length = V.length := by have := congrArg List.length e; simpa using this
  obtain ⟨a, c, rfl, hc, hl, ha⟩ := osl_shape hd.drop
  obtain ⟨aw, cw, rfl, hcw, hlw, haw⟩ := osl_shape hd.drop.drop
  have hwl := wcells_length ws
  have hvl : vs.length = F.length := by omega
  refine c95 ?_
  unfold B95
  have h1 : ¬ (n : Int) < 0 := by omega
  have h2 : ¬ (F.length : Int) ≤ (n : Int) := by omega
  simp only [h1, ↓o_nil, ↓o_field, ↓o_add, ↓o_sub, ↓o_mul, ↓o_lss, ↓o_leq, ↓o_gtr, ↓o_geq, ↓o_not, ↓o_pick, ↓o_eqInt, ↓o_neInt, ↓o_eqBool, ↓o_neBool, ↓o_eqPtr, ↓o_nePtr, ↓o_eqPtr', ↓o_eqSl, ↓o_neSl, ↓o_eqStr, ↓o_neStr, ↓o_len, ↓o_lenS, ↓o_min, ↓o_max, ↓o_extract, ↓o_convInt, ↓cd_true, ↓cd_false, ↓gate_tt, ↓gate_ff, ↓gate_tf, ↓gate_ft, ↓gate_undef, ↓o_bind, ↓stay_v, ↓pop_cons, ↓fin_nil, Option.isNone_none, Option.isNone_some, Bool.not_true, Bool.not_false, Nat.zero_add, decide_true, decide_false, if_true, if_false, Bool.false_eq_true, ↓reduceIte]
  refine ld_at hd ?_
  simp only [h2, ↓o_nil, ↓o_field, ↓o_add, ↓o_sub, ↓o_mul, ↓o_lss, ↓o_leq, ↓o_gtr, ↓o_geq, ↓o_not, ↓o_pick, ↓o_eqInt, ↓o_neInt, ↓o_eqBool, ↓o_neBool, ↓o_eqPtr, ↓o_nePtr, ↓o_eqPtr', ↓o_eqSl, ↓o_neSl, ↓o_eqStr, ↓o_neStr, ↓o_len, ↓o_lenS, ↓o_min, ↓o_max, ↓o_extract, ↓o_convInt, ↓cd_true, ↓cd_false, ↓gate_tt, ↓gate_ff, ↓gate_tf, ↓gate_ft, ↓gate_undef, ↓o_bind, ↓stay_v, ↓pop_cons, ↓fin_nil, Option.isNone_none, Option.isNone_some, Bool.not_true, Bool.not_false, Nat.zero_add, decide_true, decide_false, if_true, if_false, Bool.false_eq_true, ↓reduceIte]
  refine ld_at hd ?_
  try simp only [↓o_nil, ↓o_field, ↓o_add, ↓o_sub, ↓o_mul, ↓o_lss, ↓o_leq, ↓o_gtr, ↓o_geq, ↓o_not, ↓o_pick, ↓o_eqInt, ↓o_neInt, ↓o_eqBool, ↓o_neBool, ↓o_eqPtr, ↓o_nePtr, ↓o_eqPtr', ↓o_eqSl, ↓o_neSl, ↓o_eqStr, ↓o_neStr, ↓o_len, ↓o_lenS, ↓o_min, ↓o_max, ↓o_extract, ↓o_convInt, ↓cd_true, ↓cd_false, ↓gate_tt, ↓gate_ff, ↓gate_tf, ↓gate_ft, ↓gate_undef, ↓o_bind, ↓stay_v, ↓pop_cons, ↓fin_nil, Option.isNone_none, Option.isNone_some, Bool.not_true, Bool.not_false, Nat.zero_add, decide_true, decide_false, if_true, if_false, Bool.false_eq_true, ↓reduceIte]
  rw [i64_of (by omega) (by omega)]
  refine lp_nat (fun q σ w => σ = [.int .i64 ((q : Int) - 1)] ∧ q ≤ V.length ∧ (V = [] → q = 0) ∧ sat E w (pts d (.cells [Value.slice a F.length c, .slice aw V.length cw].toArray 115 (0, 0)) * (osl 30 1 (.slice a F.length c) F.length vs * (osl 155 2 (.slice aw V.length cw) V.length (wcells ws) * (pers (immAll vs F) * (pers (immAll (ws.map (·.2)) (V.map (·.2))) * R)))))) V.length ⟨rfl, Nat.le_refl _, fun e => by rw [e]; rfl, hd⟩ ?_
  clear h hd
  rintro q σ w again ⟨rfl, hq, hq0, hd⟩ hag
  try simp only [↓o_nil, ↓o_field, ↓o_add, ↓o_sub, ↓o_mul, ↓o_lss, ↓o_leq, ↓o_gtr, ↓o_geq, ↓o_not, ↓o_pick, ↓o_eqInt, ↓o_neInt, ↓o_eqBool, ↓o_neBool, ↓o_eqPtr, ↓o_nePtr, ↓o_eqPtr', ↓o_eqSl, ↓o_neSl, ↓o_eqStr, ↓o_neStr, ↓o_len, ↓o_lenS, ↓o_min, ↓o_max, ↓o_extract, ↓o_convInt, ↓cd_true, ↓cd_false, ↓gate_tt, ↓gate_ff, ↓gate_tf, ↓gate_ft, ↓gate_undef, ↓o_bind, ↓stay_v, ↓pop_cons, ↓fin_nil, Option.isNone_none, Option.isNone_some, Bool.not_true, Bool.not_false, Nat.zero_add, decide_true, decide_false, if_true, if_false, Bool.false_eq_true, ↓reduceIte]
  have hshut : ∀ {v : Value} {l : Bs} {w : World}, sat E w (osl 5 1 v l.length (l.map bv) * (pts d (.cells [Value.slice a F.length c, .slice aw V.length cw].toArray 115 (0, 0)) * (osl 30 1 (.slice a F.length c) F.length vs * (osl 155 2 (.slice aw V.length cw) V.length (wcells ws) * (pers (immAll vs F) * (pers (immAll (ws.map (·.2)) (V.map (·.2))) * R)))))) → sat E w (osl 5 1 v l.length (l.map bv) * (rdsk d F V * R)) := fun {v l w} h => by
    have h2 := rdsk_shut d F V rfl rfl e h
    exact h2.perm (by ac_rfl)
  refine cd_dec (fun hge => ?_) (fun hlt => ?_)
  · obtain ⟨j, rfl⟩ : ∃ j, q = j + 1 := ⟨q - 1, by omega⟩
    have hj : j < V.length := by omega
    rw [show ((j + 1 : Nat) : Int) - 1 = (j : Int) by omega]
    refine ld_at hd ?_
    have hwin := (Rds.osl).win (hd.drop.drop).drop'
    obtain ⟨b1, o1, rfl, _⟩ := win_cell hwin (j := j * 2) (by omega)
    rw [o_index (by omega) (by omega)]
    simp only [Int.toNat_natCast, ↓o_nil, ↓o_field, ↓o_add, ↓o_sub, ↓o_mul, ↓o_lss, ↓o_leq, ↓o_gtr, ↓o_geq, ↓o_not, ↓o_pick, ↓o_eqInt, ↓o_neInt, ↓o_eqBool, ↓o_neBool, ↓o_eqPtr, ↓o_nePtr, ↓o_eqPtr', ↓o_eqSl, ↓o_neSl, ↓o_eqStr, ↓o_neStr, ↓o_len, ↓o_lenS, ↓o_min, ↓o_max, ↓o_extract, ↓o_convInt, ↓cd_true, ↓cd_false, ↓gate_tt, ↓gate_ff, ↓gate_tf, ↓gate_ft, ↓gate_undef, ↓o_bind, ↓stay_v, ↓pop_cons, ↓fin_nil, Option.isNone_none, Option.isNone_some, Bool.not_true, Bool.not_false, Nat.zero_add, decide_true, decide_false, if_true, if_false, Bool.false_eq_true, ↓reduceIte]
    obtain ⟨g1, g2⟩ := wcells_get ws j (by omega)
    have c1 := hwin.cell b1 o1 rfl _ _ g1
    have c2 := hwin.cell b1 o1 rfl _ _ g2
    refine ld_cell c1 ?_
    try simp only [↓o_nil, ↓o_field, ↓o_add, ↓o_sub, ↓o_mul, ↓o_lss, ↓o_leq, ↓o_gtr, ↓o_geq, ↓o_not, ↓o_pick, ↓o_eqInt, ↓o_neInt, ↓o_eqBool, ↓o_neBool, ↓o_eqPtr, ↓o_nePtr, ↓o_eqPtr', ↓o_eqSl, ↓o_neSl, ↓o_eqStr, ↓o_neStr, ↓o_len, ↓o_lenS, ↓o_min, ↓o_max, ↓o_extract, ↓o_convInt, ↓cd_true, ↓cd_false, ↓gate_tt, ↓gate_ff, ↓gate_tf, ↓gate_ft, ↓gate_undef, ↓o_bind, ↓stay_v, ↓pop_cons, ↓fin_nil, Option.isNone_none, Option.isNone_some, Bool.not_true, Bool.not_false, Nat.zero_add, decide_true, decide_false, if_true, if_false, Bool.false_eq_true, ↓reduceIte]
    by_cases he : ws[j].1 = (n : Int)
    · simp only [he, ↓o_nil, ↓o_field, ↓o_add, ↓o_sub, ↓o_mul, ↓o_lss, ↓o_leq, ↓o_gtr, ↓o_geq, ↓o_not, ↓o_pick, ↓o_eqInt, ↓o_neInt, ↓o_eqBool, ↓o_neBool, ↓o_eqPtr, ↓o_nePtr, ↓o_eqPtr', ↓o_eqSl, ↓o_neSl, ↓o_eqStr, ↓o_neStr, ↓o_len, ↓o_lenS, ↓o_min, ↓o_max, ↓o_extract, ↓o_convInt, ↓cd_true, ↓cd_false, ↓gate_tt, ↓gate_ff, ↓gate_tf, ↓gate_ft, ↓gate_undef, ↓o_bind, ↓stay_v, ↓pop_cons, ↓fin_nil, Option.isNone_none, Option.isNone_some, Bool.not_true, Bool.not_false, Nat.zero_add, decide_true, decide_false, if_true, if_false, Bool.false_eq_true, ↓reduceIte]
      refine ld_at hd ?_
      rw [o_index (by omega) (by omega)]
      simp only [Int.toNat_natCast, ↓o_nil, ↓o_field, ↓o_add, ↓o_sub, ↓o_mul, ↓o_lss, ↓o_leq, ↓o_gtr, ↓o_geq, ↓o_not, ↓o_pick, ↓o_eqInt, ↓o_neInt, ↓o_eqBool, ↓o_neBool, ↓o_eqPtr, ↓o_nePtr, ↓o_eqPtr', ↓o_eqSl, ↓o_neSl, ↓o_eqStr, ↓o_neStr, ↓o_len, ↓o_lenS, ↓o_min, ↓o_max, ↓o_extract, ↓o_convInt, ↓cd_true, ↓cd_false, ↓gate_tt, ↓gate_ff, ↓gate_tf, ↓gate_ft, ↓gate_undef, ↓o_bind, ↓stay_v, ↓pop_cons, ↓fin_nil, Option.isNone_none, Option.isNone_some, Bool.not_true, Bool.not_false, Nat.zero_add, decide_true, decide_false, if_true, if_false, Bool.false_eq_true, ↓reduceIte]
      refine ld_cell c2 ?_
      have him := hd.drop.drop.drop.drop.pers_get.2 j ws[j].2 V[j].2 (by rw [List.getElem?_map, List.getElem?_eq_getElem (by omega)]; rfl) (by rw [List.getElem?_map, List.getElem?_eq_getElem hj]; rfl)
      have h256 : V[j].2.length = 256 := (wf.w _ (List.getElem_mem hj)).2.2
      refine Copy_spec hd (v := ws[j].2) (l := V[j].2) ?_ (by omega) fun v w h => ?_
      · exact (immAll_rds (L := V.map (·.2)) (vs := ws.map (·.2)) (i := j) (by rw [List.getElem?_map, List.getElem?_eq_getElem (by omega)]; rfl) (by rw [List.getElem?_map, List.getElem?_eq_getElem hj]; rfl)).left.right.right.right.right
      have h := hshut h
      rw [h256] at h
      exact k v V[j].2 w h256 (fun e => by rw [e] at hj; simp at hj) h
    · simp only [he, ↓o_nil, ↓o_field, ↓o_add, ↓o_sub, ↓o_mul, ↓o_lss, ↓o_leq, ↓o_gtr, ↓o_geq, ↓o_not, ↓o_pick, ↓o_eqInt, ↓o_neInt, ↓o_eqBool, ↓o_neBool, ↓o_eqPtr, ↓o_nePtr, ↓o_eqPtr', ↓o_eqSl, ↓o_neSl, ↓o_eqStr, ↓o_neStr, ↓o_len, ↓o_lenS, ↓o_min, ↓o_max, ↓o_extract, ↓o_convInt, ↓cd_true, ↓cd_false, ↓gate_tt, ↓gate_ff, ↓gate_tf, ↓gate_ft, ↓gate_undef, ↓o_bind, ↓stay_v, ↓pop_cons, ↓fin_nil, Option.isNone_none, Option.isNone_some, Bool.not_true, Bool.not_false, Nat.zero_add, decide_true, decide_false, if_true, if_false, Bool.false_eq_true, ↓reduceIte]
      rw [i64_of (by omega) (by omega)]
      exact hag j _ _ (by omega) ⟨rfl, by omega, fun e => by rw [e] at hj; simp at hj, hd⟩
  · refine ld_at hd ?_
    obtain ⟨b1, o1, rfl, hb1⟩ := win_cell ((Rds.osl).win hd.drop.drop') (j := n) (by omega)
    rw [o_index (by omega) (by omega)]
    simp only [Int.toNat_natCast, Nat.mul_one]
    refine ld_cell hb1 ?_
    have h256 : F[n].length = 256 := wf.l _ (List.getElem_mem hn)
    refine Copy_spec hd (v := vs[n]) (l := F[n]) ?_ (by omega) fun v w h => ?_
    · exact (immAll_rds (List.getElem?_eq_getElem (by omega)) (List.getElem?_eq_getElem hn)).left.right.right.right
    have h := hshut h
    rw [h256] at h
    exact k v F[n] w h256 (fun _ => rfl) h
theorem rzeros_spec (h : sat E w H) {v : Value} {l : Bs} (hv : Rds H v l.length (l.map bv)) (hl : l.length ≤ 100000) {o : Nat} (ho : o ≤ l.length) (k : ∀ w' r, ((l.drop o).all fun x => decide (x = 0)) = r → sat E w' H → K (.bool r) w') : Calls prog 64 #[v, .int .i64 o] w (Ret K) := by
  obtain ⟨a, c, rfl, hc, hv, ha⟩ := hv.shape h
  refine c64 ?_
  unfold B64
  refine lp_nat (fun q σ w => ∃ i : Nat, σ = [.int .i64 i] ∧ q = l.length - i ∧ o ≤ i ∧ i ≤ l.length ∧ ((l.drop o).all fun x => decide (x = 0)) = ((l.drop i).all fun x => decide (x = 0)) ∧ sat E w H) (l.length - o) ⟨o, rfl, rfl, by omega, ho, rfl, h⟩ ?_
  rintro q σ w again ⟨i, rfl, rfl, hoi, hi, hz, h⟩ hag
  try simp only [↓o_nil, ↓o_field, ↓o_add, ↓o_sub, ↓o_mul, ↓o_lss, ↓o_leq, ↓o_gtr, ↓o_geq, ↓o_not, ↓o_pick, ↓o_eqInt, ↓o_neInt, ↓o_eqBool, ↓o_neBool, ↓o_eqPtr, ↓o_nePtr, ↓o_eqPtr', ↓o_eqSl, ↓o_neSl, ↓o_eqStr, ↓o_neStr, ↓o_len, ↓o_lenS, ↓o_min, ↓o_max, ↓o_extract, ↓o_convInt, ↓cd_true, ↓cd_false, ↓gate_tt, ↓gate_ff, ↓gate_tf, ↓gate_ft, ↓gate_undef, ↓o_bind, ↓stay_v, ↓pop_cons, ↓fin_nil, Option.isNone_none, Option.isNone_some, Bool.not_true, Bool.not_false, Nat.zero_add, decide_true, decide_false, if_true, if_false, Bool.false_eq_true, ↓reduceIte]
  refine cd_dec (fun hlt => ?_) (fun hge => ?_)
  · have hlt : i < l.length := by omega
    obtain ⟨b1, o1, rfl, hb1⟩ := win_cell (hv.win h) (j := i) (by simpa using hlt)
    rw [o_index (by omega) (by omega)]
    simp only [Int.toNat_natCast, Nat.mul_one]
    refine ld_cell hb1 ?_
    rw [List.getElem_map]
    simp only [bv, ↓o_nil, ↓o_field, ↓o_add, ↓o_sub, ↓o_mul, ↓o_lss, ↓o_leq, ↓o_gtr, ↓o_geq, ↓o_not, ↓o_pick, ↓o_eqInt, ↓o_neInt, ↓o_eqBool, ↓o_neBool, ↓o_eqPtr, ↓o_nePtr, ↓o_eqPtr', ↓o_eqSl, ↓o_neSl, ↓o_eqStr, ↓o_neStr, ↓o_len, ↓o_lenS, ↓o_min, ↓o_max, ↓o_extract, ↓o_convInt, ↓cd_true, ↓cd_false, ↓gate_tt, ↓gate_ff, ↓gate_tf, ↓gate_ft, ↓gate_undef, ↓o_bind, ↓stay_v, ↓pop_cons, ↓fin_nil, Option.isNone_none, Option.isNone_some, Bool.not_true, Bool.not_false, Nat.zero_add, decide_true, decide_false, if_true, if_false, Bool.false_eq_true, ↓reduceIte]
    have hd : (l.drop i) = l[i] :: l.drop (i + 1) := List.drop_eq_getElem_cons hlt
    by_cases hx : l[i] = 0
    · have hx' : ((l[i].toNat : Nat) : Int) = 0 := by rw [hx]; rfl
      simp only [hx', ↓o_nil, ↓o_field, ↓o_add, ↓o_sub, ↓o_mul, ↓o_lss, ↓o_leq, ↓o_gtr, ↓o_geq, ↓o_not, ↓o_pick, ↓o_eqInt, ↓o_neInt, ↓o_eqBool, ↓o_neBool, ↓o_eqPtr, ↓o_nePtr, ↓o_eqPtr', ↓o_eqSl, ↓o_neSl, ↓o_eqStr, ↓o_neStr, ↓o_len, ↓o_lenS, ↓o_min, ↓o_max, ↓o_extract, ↓o_convInt, ↓cd_true, ↓cd_false, ↓gate_tt, ↓gate_ff, ↓gate_tf, ↓gate_ft, ↓gate_undef, ↓o_bind, ↓stay_v, ↓pop_cons, ↓fin_nil, Option.isNone_none, Option.isNone_some, Bool.not_true, Bool.not_false, Nat.zero_add, decide_true, decide_false, if_true, if_false, Bool.false_eq_true, ↓reduceIte]
      rw [i64_of (by omega) (by omega)]
      refine hag (l.length - (i + 1)) _ _ (by omega) ⟨i + 1, rfl, rfl, by omega, by omega, ?_, h⟩
      rw [hz, hd, List.all_cons, hx]; simp
    · have hx' : ¬ ((l[i].toNat : Nat) : Int) = 0 := fun e => hx (UInt8.toNat_inj.1 (by simpa using e))
      simp only [hx', ↓o_nil, ↓o_field, ↓o_add, ↓o_sub, ↓o_mul, ↓o_lss, ↓o_leq, ↓o_gtr, ↓o_geq, ↓o_not, ↓o_pick, ↓o_eqInt, ↓o_neInt, ↓o_eqBool, ↓o_neBool, ↓o_eqPtr, ↓o_nePtr, ↓o_eqPtr', ↓o_eqSl, ↓o_neSl, ↓o_eqStr, ↓o_neStr, ↓o_len, ↓o_lenS, ↓o_min, ↓o_max, ↓o_extract, ↓o_convInt, ↓cd_true, ↓cd_false, ↓gate_tt, ↓gate_ff, ↓gate_tf, ↓gate_ft, ↓gate_undef, ↓o_bind, ↓stay_v, ↓pop_cons, ↓fin_nil, Option.isNone_none, Option.isNone_some, Bool.not_true, Bool.not_false, Nat.zero_add, decide_true, decide_false, if_true, if_false, Bool.false_eq_true, ↓reduceIte]
      refine k w false ?_ h
      rw [hz, hd, List.all_cons]; simp [hx]
  · refine k w true ?_ h
    rw [hz, List.drop_of_length_le (by omega)]; rfl
def rcells (r size head full : Nat) : List Value := [.pointer (some ⟨r, 0, none⟩), .int .i64 size, .int .i64 head, .int .i64 full]
abbrev rlI (m r : Nat) (F : List Bs) (V : List (Int × Bs)) (size head full : Nat) (R : HP) : HP := pts m (.cells (rcells r size head full).toArray 118 (0, 0)) * (rdsk r F V * R)
theorem rl_in {m r size head full : Nat} {F : List Bs} {V : List (Int × Bs)} (h : sat E w (X * rlI m r F V size head full R)) : sat E w (rlI m r F V size head full (X * R)) := by
  unfold rlI at h ⊢
  exact h.perm (by ac_rfl)
theorem rl_out {m r size head full : Nat} {F : List Bs} {V : List (Int × Bs)} (h : sat E w (rlI m r F V size head full (X * R))) : sat E w (X * rlI m r F V size head full R) := by
  unfold rlI at h ⊢
  exact h.perm (by ac_rfl)
theorem rBlock_spec {m r size head full : Nat} {F : List Bs} {V : List (Int × Bs)} (h : sat E w (rlI m r F V size head full R)) (wf : Wf F V) (hV : V.length ≤ 1000000) {n : Nat} (hn : n < F.length)
    (k : ∀ v l w', l.length = 256 → (V = [] → l = F[n]) → sat E w' (osl 5 1 v 256 (l.map bv) * rlI m r F V size head full R) → K v w') : Calls prog 63 #[.pointer (some ⟨m, 0, none⟩), .int .i64 n] w (Ret K) := by
  unfold rlI rcells at h
  refine c63 ?_
  unfold B63
  try simp only [↓o_nil, ↓o_field, ↓o_add, ↓o_sub, ↓o_mul, ↓o_lss, ↓o_leq, ↓o_gtr, ↓o_geq, ↓o_not, ↓o_pick, ↓o_eqInt, ↓o_neInt, ↓o_eqBool, ↓o_neBool, ↓o_eqPtr, ↓o_nePtr, ↓o_eqPtr', ↓o_eqSl, ↓o_neSl, ↓o_eqStr, ↓o_neStr, ↓o_len, ↓o_lenS, ↓o_min, ↓o_max, ↓o_extract, ↓o_convInt, ↓cd_true, ↓cd_false, ↓gate_tt, ↓gate_ff, ↓gate_tf, ↓gate_ft, ↓gate_undef, ↓o_bind, ↓stay_v, ↓pop_cons, ↓fin_nil, Option.isNone_none, Option.isNone_some, Bool.not_true, Bool.not_false, Nat.zero_add, decide_true, decide_false, if_true, if_false, Bool.false_eq_true, ↓reduceIte]
  refine ld_at h ?_
  refine rRead_weak h wf hV hn fun v l w hl he h => ?_
  try simp only [↓o_nil, ↓o_field, ↓o_add, ↓o_sub, ↓o_mul, ↓o_lss, ↓o_leq, ↓o_gtr, ↓o_geq, ↓o_not, ↓o_pick, ↓o_eqInt, ↓o_neInt, ↓o_eqBool, ↓o_neBool, ↓o_eqPtr, ↓o_nePtr, ↓o_eqPtr', ↓o_eqSl, ↓o_neSl, ↓o_eqStr, ↓o_neStr, ↓o_len, ↓o_lenS, ↓o_min, ↓o_max, ↓o_extract, ↓o_convInt, ↓cd_true, ↓cd_false, ↓gate_tt, ↓gate_ff, ↓gate_tf, ↓gate_ft, ↓gate_undef, ↓o_bind, ↓stay_v, ↓pop_cons, ↓fin_nil, Option.isNone_none, Option.isNone_some, Bool.not_true, Bool.not_false, Nat.zero_add, decide_true, decide_false, if_true, if_false, Bool.false_eq_true, ↓reduceIte]
  refine k v l w hl he ?_
  unfold rlI rcells
  exact h.perm (by ac_rfl)
theorem rOpen_spec {n size r : Nat} (h : sat E w (rdsk r (List.replicate n zeros) [] * R)) (h1 : 2 ≤ size) (h2 : size + 2 ≤ n) (h3 : n ≤ 1024)
    (k : ∀ m r' w', sat E w' (rlI m r' (List.replicate n zeros) [] size 0 0 R) → K (.tuple #[.pointer (some ⟨m, 0, none⟩), .int .i64 0]) w') : Calls prog 35 #[.pointer (some ⟨r, 0, none⟩), .int .i64 size] w (Ret K) := by
  have wf := Z_wf (n := n) (by omega) h3
  refine c35 ?_
  unfold B35
  have e1 : ¬ (size : Int) < 2 := by omega
  simp only [e1, ↓o_nil, ↓o_field, ↓o_add, ↓o_sub, ↓o_mul, ↓o_lss, ↓o_leq, ↓o_gtr, ↓o_geq, ↓o_not, ↓o_pick, ↓o_eqInt, ↓o_neInt, ↓o_eqBool, ↓o_neBool, ↓o_eqPtr, ↓o_nePtr, ↓o_eqPtr', ↓o_eqSl, ↓o_neSl, ↓o_eqStr, ↓o_neStr, ↓o_len, ↓o_lenS, ↓o_min, ↓o_max, ↓o_extract, ↓o_convInt, ↓cd_true, ↓cd_false, ↓gate_tt, ↓gate_ff, ↓gate_tf, ↓gate_ft, ↓gate_undef, ↓o_bind, ↓stay_v, ↓pop_cons, ↓fin_nil, Option.isNone_none, Option.isNone_some, Bool.not_true, Bool.not_false, Nat.zero_add, decide_true, decide_false, if_true, if_false, Bool.false_eq_true, ↓reduceIte]
  refine rBlocks_spec h ?_
  rw [List.length_replicate]
  try simp only [↓o_nil, ↓o_field, ↓o_add, ↓o_sub, ↓o_mul, ↓o_lss, ↓o_leq, ↓o_gtr, ↓o_geq, ↓o_not, ↓o_pick, ↓o_eqInt, ↓o_neInt, ↓o_eqBool, ↓o_neBool, ↓o_eqPtr, ↓o_nePtr, ↓o_eqPtr', ↓o_eqSl, ↓o_neSl, ↓o_eqStr, ↓o_neStr, ↓o_len, ↓o_lenS, ↓o_min, ↓o_max, ↓o_extract, ↓o_convInt, ↓cd_true, ↓cd_false, ↓gate_tt, ↓gate_ff, ↓gate_tf, ↓gate_ft, ↓gate_undef, ↓o_bind, ↓stay_v, ↓pop_cons, ↓fin_nil, Option.isNone_none, Option.isNone_some, Bool.not_true, Bool.not_false, Nat.zero_add, decide_true, decide_false, if_true, if_false, Bool.false_eq_true, ↓reduceIte]
  rw [i64_of (by omega) (by omega)]
  have e2 : ¬ (n : Int) - 2 < (size : Int) := by omega
  simp only [e2, ↓o_nil, ↓o_field, ↓o_add, ↓o_sub, ↓o_mul, ↓o_lss, ↓o_leq, ↓o_gtr, ↓o_geq, ↓o_not, ↓o_pick, ↓o_eqInt, ↓o_neInt, ↓o_eqBool, ↓o_neBool, ↓o_eqPtr, ↓o_nePtr, ↓o_eqPtr', ↓o_eqSl, ↓o_neSl, ↓o_eqStr, ↓o_neStr, ↓o_len, ↓o_lenS, ↓o_min, ↓o_max, ↓o_extract, ↓o_convInt, ↓cd_true, ↓cd_false, ↓gate_tt, ↓gate_ff, ↓gate_tf, ↓gate_ft, ↓gate_undef, ↓o_bind, ↓stay_v, ↓pop_cons, ↓fin_nil, Option.isNone_none, Option.isNone_some, Bool.not_true, Bool.not_false, Nat.zero_add, decide_true, decide_false, if_true, if_false, Bool.false_eq_true, ↓reduceIte]
  refine rImage_spec h wf (by simp) fun v vs w h => ?_
  rw [show redo (List.replicate n zeros) [] = List.replicate n zeros from rfl] at h
  refine rLoad_spec h (L := List.replicate n zeros) (rdd_of2 h vs (List.replicate n zeros)) (fun e w hb _ => ?_) (fun r' w _ h => ?_)
  · unfold bad at hb
    rw [if_neg (by simp; omega), if_pos (List.all_eq_true.2 fun l hl => by simpa using wf.l l hl)] at hb
    cases hb
  have h : sat E w (rdsk r' (List.replicate n zeros) [] * R) := by
    exact (h.perm (show _ = osl 30 1 v (List.replicate n zeros).length vs * (pers (immAll vs (List.replicate n zeros)) * (rdsk r (List.replicate n zeros) [] * (rdsk r' (List.replicate n zeros) [] * R))) by ac_rfl)).drop.drop.drop
  try simp only [↓o_nil, ↓o_field, ↓o_add, ↓o_sub, ↓o_mul, ↓o_lss, ↓o_leq, ↓o_gtr, ↓o_geq, ↓o_not, ↓o_pick, ↓o_eqInt, ↓o_neInt, ↓o_eqBool, ↓o_neBool, ↓o_eqPtr, ↓o_nePtr, ↓o_eqPtr', ↓o_eqSl, ↓o_neSl, ↓o_eqStr, ↓o_neStr, ↓o_len, ↓o_lenS, ↓o_min, ↓o_max, ↓o_extract, ↓o_convInt, ↓cd_true, ↓cd_false, ↓gate_tt, ↓gate_ff, ↓gate_tf, ↓gate_ft, ↓gate_undef, ↓o_bind, ↓stay_v, ↓pop_cons, ↓fin_nil, Option.isNone_none, Option.isNone_some, Bool.not_true, Bool.not_false, Nat.zero_add, decide_true, decide_false, if_true, if_false, Bool.false_eq_true, ↓reduceIte]
  refine pvv_of (v := .agg (rcells r' size 0 0).toArray) (fun _ => by kernel_rfl) ?_
  refine box_sl h fun m w h => ?_
  have h : sat E w (rlI m r' (List.replicate n zeros) [] size 0 0 R) := h
  refine rBlock_spec (n := 0) h wf (by simp) (by simp; omega) fun v l w hl he h => ?_
  have he := he rfl
  have hz : l = zeros := by rw [he]; simp
  subst hz
  refine rzeros_spec (o := 0) h (l := zeros) Rds.own (by simp [zeros]) (by omega) fun w r2 hr h => ?_
  rw [List.drop_zero, zeros_all] at hr
  subst hr
  try simp only [↓o_nil, ↓o_field, ↓o_add, ↓o_sub, ↓o_mul, ↓o_lss, ↓o_leq, ↓o_gtr, ↓o_geq, ↓o_not, ↓o_pick, ↓o_eqInt, ↓o_neInt, ↓o_eqBool, ↓o_neBool, ↓o_eqPtr, ↓o_nePtr, ↓o_eqPtr', ↓o_eqSl, ↓o_neSl, ↓o_eqStr, ↓o_neStr, ↓o_len, ↓o_lenS, ↓o_min, ↓o_max, ↓o_extract, ↓o_convInt, ↓cd_true, ↓cd_false, ↓gate_tt, ↓gate_ff, ↓gate_tf, ↓gate_ft, ↓gate_undef, ↓o_bind, ↓stay_v, ↓pop_cons, ↓fin_nil, Option.isNone_none, Option.isNone_some, Bool.not_true, Bool.not_false, Nat.zero_add, decide_true, decide_false, if_true, if_false, Bool.false_eq_true, ↓reduceIte]
  exact k m r' w h.drop
end Go.Proofs.YtcjklbhobmkalaaGreat

/-
  Groups that fit are taken. No program in sight.
-/
set_option linter.all false
set_option maxRecDepth 100000
namespace Go.Proofs.YtcjklbhobmkalaaGreat
open Go Hold
theorem errC_fit {S : Lg} {ps : List (Int × Bs)} (h1 : 1 ≤ ps.length) (h2 : ps.length ≤ 100) (hr : ∀ p ∈ ps, 0 ≤ p.1 ∧ p.1 < S.pages) (hf : FormP ps) : errC S ps = if S.size - S.used < ps.length + 1 then 7 else 0 := by
  unfold errC
  have ha : ps.any (rangeP S) = false := by
    rw [List.any_eq_false]
    intro p hp
    have := hr p hp
    unfold rangeP
    simp only [Bool.or_eq_true, decide_eq_true_eq]
    omega
  rw [if_neg (by omega), if_neg (by omega), if_neg (by simp [ha]), if_neg (by simpa using hf)]
structure ComOk (S : Lg) (ps : List (Int × Bs)) : Prop where
  e : comE S ps = 0
  g : (comS S ps).groups = S.groups + 1
  w1 : S.W.length + ps.length + 2 ≤ (comS S ps).W.length
  w2 : (comS S ps).W.length ≤ S.W.length + ps.length + 1027
  l : (comS S ps).L.length = S.L.length
theorem com_ok {S : Lg} {gs : List (List Int)} (i : LInv S gs) {ps : List (Int × Bs)} (h1 : 1 ≤ ps.length) (h2 : ps.length ≤ 100) (hr : ∀ p ∈ ps, 0 ≤ p.1 ∧ p.1 < S.pages) (hf : FormP ps) (hs : ps.length + 1 ≤ S.size) : ComOk S ps := by
  have hfew := i.few
  have hne : ps ≠ [] := fun e => by rw [e] at h1; simp at h1
  by_cases hfit : S.size - S.used < ps.length + 1
  · have e7 : errC S ps = 7 := by rw [errC_fit h1 h2 hr hf, if_pos hfit]
    have e0 : errC (checkS S) ps = 0 := by
      rw [errC_fit h1 h2 (by rw [check_pages]; exact hr) hf, check_used0, check_size, if_neg (by omega)]
    have hc : commitS (checkS S) ps = commitT (checkS S) ps := by unfold commitS; rw [if_pos ⟨e0, hne⟩]
    have hu : S.used ≠ 0 := fun e => by omega
    have hk : checkS S = checkT S := by unfold checkS; rw [if_neg hu]
    have hW := (checkT_len S).2
    have hL := (checkT_len S).1
    refine ⟨by unfold comE; rw [if_pos e7]; exact e0, ?_, ?_, ?_, ?_⟩ <;> unfold comS <;> rw [if_pos e7, hc]
    · rw [commitT_groups, hk]
      have : (checkT S).groups = S.groups := (backP_keep (touched S) S).2.1
      rw [this]
    · rw [(commitT_len _ _).2, hk, hW]; omega
    · rw [(commitT_len _ _).2, hk, hW]; omega
    · rw [(commitT_len _ _).1, hk, hL]
  · have e0 : errC S ps = 0 := by rw [errC_fit h1 h2 hr hf, if_neg hfit]
    have hc : commitS S ps = commitT S ps := by unfold commitS; rw [if_pos ⟨e0, hne⟩]
    have hn7 : ¬ errC S ps = 7 := by rw [e0]; decide
    refine ⟨by unfold comE; rw [if_neg hn7]; exact e0, ?_, ?_, ?_, ?_⟩ <;> unfold comS <;> rw [if_neg hn7, hc]
    · rfl
    · rw [(commitT_len _ _).2]
      exact Nat.le_refl _
    · rw [(commitT_len _ _).2]; omega
    · rw [(commitT_len _ _).1]
theorem com_nil (S : Lg) : comS S [] = S ∧ comE S [] = 0 := by
  have : errC S [] = 0 := rfl
  unfold comS comE commitS
  rw [this]
  exact ⟨rfl, rfl⟩
end Go.Proofs.YtcjklbhobmkalaaGreat
