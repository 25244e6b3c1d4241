/-
  The reference's disk.
-/
import Derived.Test.YteplajobjlehlaaBlkH
set_option linter.all false
set_option maxRecDepth 10000
namespace Go.Proofs.Yteplajobjlehlaa
open Go Hold
variable {E : World0} {w : World} {H R : HP} {K : Value → World → Prop}

/-- The reference's disk at r: the first blocks F, all writes V. -/
def rdsk (r : Nat) (F : List (List UInt8)) (V : List (Int × List UInt8)) : HP :=
  ex fun q : Value × List Value × Value × List (Int × Value) =>
    pts r (.cells [q.1, q.2.2.1].toArray 50 (0, 0)) *
    (osl 32 1 q.1 F.length q.2.1 * (osl 52 2 q.2.2.1 V.length (wcells q.2.2.2) * (pers (immAll q.2.1 F) * pers (immAll (q.2.2.2.map (·.2)) (V.map (·.2))) * pur (q.2.2.2.map (·.1) = V.map (·.1)))))
theorem sat_rdsk {r : Nat} {F : List (List UInt8)} {V : List (Int × List UInt8)} : sat E w (rdsk r F V * R) ↔
    ∃ fv vs lv ws, ws.map (·.1) = V.map (·.1) ∧ sat E w (pts r (.cells [fv, lv].toArray 50 (0, 0)) * (osl 32 1 fv F.length vs * (osl 52 2 lv V.length (wcells ws) * (pers (immAll vs F) * (pers (immAll (ws.map (·.2)) (V.map (·.2))) * R))))) := by
  unfold rdsk
  rw [sat_ex_star]
  constructor
  · rintro ⟨⟨fv, vs, lv, ws⟩, h⟩
    simp only at h
    have h2 : sat E w (pur (ws.map (·.1) = V.map (·.1)) * (pts r (.cells [fv, lv].toArray 50 (0, 0)) * (osl 32 1 fv F.length vs * (osl 52 2 lv V.length (wcells ws) * (pers (immAll vs F) * (pers (immAll (ws.map (·.2)) (V.map (·.2))) * R)))))) := h.perm (by ac_rfl)
    rw [sat_pur_star] at h2
    exact ⟨fv, vs, lv, ws, h2.1, h2.2⟩
  · rintro ⟨fv, vs, lv, ws, e, h⟩
    refine ⟨⟨fv, vs, lv, ws⟩, ?_⟩
    have h2 : sat E w (pur (ws.map (·.1) = V.map (·.1)) * (pts r (.cells [fv, lv].toArray 50 (0, 0)) * (osl 32 1 fv F.length vs * (osl 52 2 lv V.length (wcells ws) * (pers (immAll vs F) * (pers (immAll (ws.map (·.2)) (V.map (·.2))) * R)))))) := sat_pur_star.2 ⟨e, h⟩
    exact h2.perm (by ac_rfl)
class RdkS (H : HP) (r : Nat) (F : outParam (List (List UInt8))) (V : outParam (List (Int × List UInt8))) (R : outParam HP) : Prop where eq : H = rdsk r F V * R
instance (priority := 1100) RdkS.here (d : Nat) (L : List (List UInt8)) (W : List (Int × List UInt8)) (R : HP) : RdkS (rdsk d L W * R) d L W R := ⟨rfl⟩
instance (priority := 1050) RdkS.there (d : Nat) (L : List (List UInt8)) (W : List (Int × List UInt8)) (R : HP) : RdkS (R * rdsk d L W) d L W R := ⟨star_comm _ _⟩
instance (priority := 900) RdkS.right (P1 P2 : HP) (d : Nat) (L : List (List UInt8)) (W : List (Int × List UInt8)) (R : HP) [h : RdkS P2 d L W R] : RdkS (P1 * P2) d L W (P1 * R) := ⟨by rw [h.eq, star_left_comm]⟩
instance (priority := 800) RdkS.left (P1 P2 : HP) (d : Nat) (L : List (List UInt8)) (W : List (Int × List UInt8)) (R : HP) [h : RdkS P1 d L W R] : RdkS (P1 * P2) d L W (R * P2) := ⟨by rw [h.eq, star_assoc]⟩
instance (priority := 100) RdkS.all (d : Nat) (L : List (List UInt8)) (W : List (Int × List UInt8)) : RdkS (rdsk d L W) d L W emp := ⟨(star_emp _).symm⟩
theorem _root_.Hold.sat.rdks (h : sat E w H) (d : Nat) {L : List (List UInt8)} {W : List (Int × List UInt8)} [s : RdkS H d L W R] : sat E w (rdsk d L W * R) := h.perm s.eq
theorem rdsk_shut (r : Nat) (F : List (List UInt8)) (V : List (Int × List UInt8)) {fv lv : Value} {vs : List Value} {ws : List (Int × Value)} {R1 R2 R3 R4 R5 : HP} {m m2 : Nat} (hm : m = F.length) (hm2 : m2 = V.length) (e : ws.map (·.1) = V.map (·.1)) (h : sat E w H)
    [s1 : Own H r (.cells [fv, lv].toArray 50 (0, 0)) R1] [s2 : OwnS R1 fv 32 1 m vs R2] [s3 : OwnS R2 lv 52 2 m2 (wcells ws) R3]
    [s4 : Split R3 (pers (immAll vs F)) R4] [s5 : Split R4 (pers (immAll (ws.map (·.2)) (V.map (·.2)))) R5] : sat E w (rdsk r F V * R5) := by
  subst hm; subst hm2
  exact sat_rdsk.2 ⟨fv, vs, lv, ws, e, by rw [← s5.eq, ← s4.eq, ← s3.eq, ← s2.eq, ← s1.eq]; exact h⟩
theorem wcells_one {ws : List (Int × List UInt8)} {I : Hp} {us : List (Int × Value)} (h : (immAll (us.map (·.2)) (ws.map (·.2))).p I) : ∀ x ∈ wcells us, x.oneCell' = true := by
  intro x hx
  obtain ⟨p, hp, hx⟩ := List.mem_flatMap.1 hx
  simp at hx
  rcases hx with rfl | rfl
  · rfl
  · obtain ⟨i, hi, hp⟩ := List.mem_iff_getElem.1 hp
    have hl := h.1
    simp at hl
    obtain ⟨a, c, e, _⟩ := h.2 i p.2 (ws[i]'(by omega)).2 (by simp [List.getElem?_eq_getElem hi, hp]) (by simp [List.getElem?_eq_getElem (show i < ws.length by omega)])
    rw [e]; rfl

theorem rNew_bad {n : Int} (hn : n < 1 ∨ 1024 < n) (k : K (.tuple #[.pointer none, .int .i64 2]) w) : Calls prog 38 #[.int .i64 n] w (Ret K) := by
  refine c38 ?_
  unfold B38
  by_cases h1 : n < 1
  · simp only [↓o_nil, ↓o_field, ↓o_add, ↓o_sub, ↓o_mul, ↓o_lss, ↓o_leq, ↓o_gtr, ↓o_geq, ↓o_not, ↓o_pick, ↓o_eqInt, ↓o_neInt, ↓o_eqBool, ↓o_neBool, ↓o_eqPtr, ↓o_nePtr, ↓o_eqPtr', ↓o_eqSl, ↓o_neSl, ↓o_eqStr, ↓o_neStr, ↓o_len, ↓o_lenS, ↓o_min, ↓o_max, ↓o_extract, ↓o_convInt, ↓cd_true, ↓cd_false, ↓gate_tt, ↓gate_ff, ↓gate_tf, ↓gate_ft, ↓gate_undef, ↓pop_cons, ↓fin_nil, Option.isNone_none, Option.isNone_some, Bool.not_true, Bool.not_false, Nat.zero_add, decide_true, decide_false, if_true, if_false, Bool.false_eq_true, ↓reduceIte, h1]; exact k
  · have h2 : 1024 < n := by omega
    simp only [↓o_nil, ↓o_field, ↓o_add, ↓o_sub, ↓o_mul, ↓o_lss, ↓o_leq, ↓o_gtr, ↓o_geq, ↓o_not, ↓o_pick, ↓o_eqInt, ↓o_neInt, ↓o_eqBool, ↓o_neBool, ↓o_eqPtr, ↓o_nePtr, ↓o_eqPtr', ↓o_eqSl, ↓o_neSl, ↓o_eqStr, ↓o_neStr, ↓o_len, ↓o_lenS, ↓o_min, ↓o_max, ↓o_extract, ↓o_convInt, ↓cd_true, ↓cd_false, ↓gate_tt, ↓gate_ff, ↓gate_tf, ↓gate_ft, ↓gate_undef, ↓pop_cons, ↓fin_nil, Option.isNone_none, Option.isNone_some, Bool.not_true, Bool.not_false, Nat.zero_add, decide_true, decide_false, if_true, if_false, Bool.false_eq_true, ↓reduceIte, h1, h2]; exact k
theorem rNew_spec (h : sat E w H) {n : Int} (h1 : 1 ≤ n) (h2 : n ≤ 1024)
    (k : ∀ r w', sat E w' (rdsk r (List.replicate n.toNat zeros) [] * H) → K (.tuple #[.pointer (some ⟨r, 0, none⟩), .int .i64 0]) w') : Calls prog 38 #[.int .i64 n] w (Ret K) := by
  obtain ⟨n, rfl⟩ := Int.eq_ofNat_of_zero_le (show 0 ≤ n by omega)
  refine c38 ?_
  unfold B38
  have e1 : ¬ (n : Int) < 1 := by omega
  have e2 : ¬ (1024 : Int) < n := by omega
  simp only [↓o_nil, ↓o_field, ↓o_add, ↓o_sub, ↓o_mul, ↓o_lss, ↓o_leq, ↓o_gtr, ↓o_geq, ↓o_not, ↓o_pick, ↓o_eqInt, ↓o_neInt, ↓o_eqBool, ↓o_neBool, ↓o_eqPtr, ↓o_nePtr, ↓o_eqPtr', ↓o_eqSl, ↓o_neSl, ↓o_eqStr, ↓o_neStr, ↓o_len, ↓o_lenS, ↓o_min, ↓o_max, ↓o_extract, ↓o_convInt, ↓cd_true, ↓cd_false, ↓gate_tt, ↓gate_ff, ↓gate_tf, ↓gate_ft, ↓gate_undef, ↓pop_cons, ↓fin_nil, Option.isNone_none, Option.isNone_some, Bool.not_true, Bool.not_false, Nat.zero_add, decide_true, decide_false, if_true, if_false, Bool.false_eq_true, ↓reduceIte, e1, e2]
  refine pvv_of (v := .agg #[.slice none 0 0, .slice none 0 0]) (fun _ => by kernel_rfl) ?_
  refine box_sl h fun r w h => ?_
  have h : sat E w (pts r (.cells [Value.slice none 0 0, .slice none 0 0].toArray 50 (0, 0)) * H) := h
  have h := immAll_nil (osl_nil h 32 1)
  refine lp_nat (fun m σ w => ∃ (i : Nat) (fv : Value) (us : List Value), σ = [.int .i64 i] ∧ m = n - i ∧ i ≤ n ∧
    sat E w (pers (immAll us (List.replicate i zeros)) * (osl 32 1 fv i us * (pts r (.cells [fv, .slice none 0 0].toArray 50 (0, 0)) * H)))) n ⟨0, _, [], rfl, rfl, by omega, h⟩ ?_
  rintro m σ w again ⟨i, fv, us, rfl, rfl, hi, h⟩ hag
  simp only [↓o_nil, ↓o_field, ↓o_add, ↓o_sub, ↓o_mul, ↓o_lss, ↓o_leq, ↓o_gtr, ↓o_geq, ↓o_not, ↓o_pick, ↓o_eqInt, ↓o_neInt, ↓o_eqBool, ↓o_neBool, ↓o_eqPtr, ↓o_nePtr, ↓o_eqPtr', ↓o_eqSl, ↓o_neSl, ↓o_eqStr, ↓o_neStr, ↓o_len, ↓o_lenS, ↓o_min, ↓o_max, ↓o_extract, ↓o_convInt, ↓cd_true, ↓cd_false, ↓gate_tt, ↓gate_ff, ↓gate_tf, ↓gate_ft, ↓gate_undef, ↓pop_cons, ↓fin_nil, Option.isNone_none, Option.isNone_some, Bool.not_true, Bool.not_false, Nat.zero_add, decide_true, decide_false, if_true, if_false, Bool.false_eq_true, ↓reduceIte]
  refine cd_dec (fun hlt => ?_) (fun hge => ?_)
  · have hlt : i < n := by omega
    refine dr_sl h fun w h _ => ?_
    refine ld_at h ?_
    refine make_sl h rfl (by omega) (by omega) (by omega) (by omega) fun b w h => ?_
    have e3 : (256 : Int).toNat = 256 := rfl
    rw [e3] at h ⊢
    rw [zeros_map] at h
    have h := osl_freeze (osl_of (n := 256) (sz := 1) h (by simp [zeros]) (by omega))
    refine st_at h ?_
    refine buildSlice_sl (e := 32) (cs := #[.slice (some ⟨b, 0, none⟩) 256 256]) h (fun w => by kernel_rfl) fun b1 w h => ?_
    refine st_at h ?_
    refine append_sl h [.slice (some ⟨b, 0, none⟩) 256 256] rfl (.inr ⟨b1, 0, _, 32, (0, 0), rfl, h.pts_get, fun j v hj => by simpa using hj⟩) (by simp [Value.oneCell']) (by omega) (by omega) fun fv' w h => ?_
    obtain ⟨a4, c4, rfl, _, _, _⟩ := osl_shape h
    refine store_at h rfl (by simp) fun w h => ?_
    rw [i64_of (by omega) (by omega)]
    refine hag _ _ _ (by omega) ⟨i + 1, .slice a4 (i + 1) c4, us ++ [.slice (some ⟨b, 0, none⟩) 256 256], rfl, rfl, by omega, ?_⟩
    have h := sat_imp2 (h.lose b1) (immS (.slice (some ⟨b, 0, none⟩) 256 256) 256 (zeros.map bv)) (immAll us (List.replicate i zeros)) (χ := immAll (us ++ [.slice (some ⟨b, 0, none⟩) 256 256]) (List.replicate i zeros ++ [zeros])) (fun I h1 h2 => immAll_snoc (v := .slice (some ⟨b, 0, none⟩) 256 256) (l := zeros) h2 h1)
    rw [← List.replicate_succ'] at h
    exact h.perm (by ac_rfl)
  · have : i = n := by omega
    subst this
    have h := osl_nil h 52 2
    have h : sat E w (pers (immAll (List.map (·.2) ([] : List (Int × Value))) (List.map (·.2) ([] : List (Int × List UInt8)))) * _) := immAll_nil h
    exact k r w ((rdsk_shut (fv := fv) (lv := .slice none 0 0) (vs := us) (ws := []) r (List.replicate i zeros) [] (by simp) rfl rfl h).perm (by ac_rfl))

/-! ### Write -/
theorem rWrite_nil {n v : Value} (k : K (.int .i64 1) w) : Calls prog 39 #[.pointer none, n, v] w (Ret K) := by
  refine c39 ?_
  unfold B39
  simp only [↓o_nil, ↓o_field, ↓o_add, ↓o_sub, ↓o_mul, ↓o_lss, ↓o_leq, ↓o_gtr, ↓o_geq, ↓o_not, ↓o_pick, ↓o_eqInt, ↓o_neInt, ↓o_eqBool, ↓o_neBool, ↓o_eqPtr, ↓o_nePtr, ↓o_eqPtr', ↓o_eqSl, ↓o_neSl, ↓o_eqStr, ↓o_neStr, ↓o_len, ↓o_lenS, ↓o_min, ↓o_max, ↓o_extract, ↓o_convInt, ↓cd_true, ↓cd_false, ↓gate_tt, ↓gate_ff, ↓gate_tf, ↓gate_ft, ↓gate_undef, ↓pop_cons, ↓fin_nil, Option.isNone_none, Option.isNone_some, Bool.not_true, Bool.not_false, Nat.zero_add, decide_true, decide_false, if_true, if_false, Bool.false_eq_true, ↓reduceIte]
  exact k
theorem rWrite_range {d : Nat} {L : List (List UInt8)} {W : List (Int × List UInt8)} (h : sat E w H) [s : RdkS H d L W R] {n : Int} {v : Value} (hn : n < 0 ∨ (L.length : Int) ≤ n)
    (k : K (.int .i64 2) w) : Calls prog 39 #[.pointer (some ⟨d, 0, none⟩), .int .i64 n, v] w (Ret K) := by
  obtain ⟨lv, vs, wv, ws, e, hd⟩ := sat_rdsk.1 (h.rdks d)
  obtain ⟨a, c, rfl, hc, hl, ha⟩ := osl_shape hd.drop
  refine c39 ?_
  unfold B39
  by_cases h1 : n < 0
  · simp only [↓o_nil, ↓o_field, ↓o_add, ↓o_sub, ↓o_mul, ↓o_lss, ↓o_leq, ↓o_gtr, ↓o_geq, ↓o_not, ↓o_pick, ↓o_eqInt, ↓o_neInt, ↓o_eqBool, ↓o_neBool, ↓o_eqPtr, ↓o_nePtr, ↓o_eqPtr', ↓o_eqSl, ↓o_neSl, ↓o_eqStr, ↓o_neStr, ↓o_len, ↓o_lenS, ↓o_min, ↓o_max, ↓o_extract, ↓o_convInt, ↓cd_true, ↓cd_false, ↓gate_tt, ↓gate_ff, ↓gate_tf, ↓gate_ft, ↓gate_undef, ↓pop_cons, ↓fin_nil, Option.isNone_none, Option.isNone_some, Bool.not_true, Bool.not_false, Nat.zero_add, decide_true, decide_false, if_true, if_false, Bool.false_eq_true, ↓reduceIte, h1]; exact k
  · have h2 : (L.length : Int) ≤ n := by omega
    simp only [↓o_nil, ↓o_field, ↓o_add, ↓o_sub, ↓o_mul, ↓o_lss, ↓o_leq, ↓o_gtr, ↓o_geq, ↓o_not, ↓o_pick, ↓o_eqInt, ↓o_neInt, ↓o_eqBool, ↓o_neBool, ↓o_eqPtr, ↓o_nePtr, ↓o_eqPtr', ↓o_eqSl, ↓o_neSl, ↓o_eqStr, ↓o_neStr, ↓o_len, ↓o_lenS, ↓o_min, ↓o_max, ↓o_extract, ↓o_convInt, ↓cd_true, ↓cd_false, ↓gate_tt, ↓gate_ff, ↓gate_tf, ↓gate_ft, ↓gate_undef, ↓pop_cons, ↓fin_nil, Option.isNone_none, Option.isNone_some, Bool.not_true, Bool.not_false, Nat.zero_add, decide_true, decide_false, if_true, if_false, Bool.false_eq_true, ↓reduceIte, h1]
    refine ld_at hd ?_
    simp only [↓o_nil, ↓o_field, ↓o_add, ↓o_sub, ↓o_mul, ↓o_lss, ↓o_leq, ↓o_gtr, ↓o_geq, ↓o_not, ↓o_pick, ↓o_eqInt, ↓o_neInt, ↓o_eqBool, ↓o_neBool, ↓o_eqPtr, ↓o_nePtr, ↓o_eqPtr', ↓o_eqSl, ↓o_neSl, ↓o_eqStr, ↓o_neStr, ↓o_len, ↓o_lenS, ↓o_min, ↓o_max, ↓o_extract, ↓o_convInt, ↓cd_true, ↓cd_false, ↓gate_tt, ↓gate_ff, ↓gate_tf, ↓gate_ft, ↓gate_undef, ↓pop_cons, ↓fin_nil, Option.isNone_none, Option.isNone_some, Bool.not_true, Bool.not_false, Nat.zero_add, decide_true, decide_false, if_true, if_false, Bool.false_eq_true, ↓reduceIte, h2]
    exact k
theorem rWrite_form {d : Nat} {L : List (List UInt8)} {W : List (Int × List UInt8)} (h : sat E w H) [s : RdkS H d L W R] {n : Nat} {a : Option Addr} {m c : Nat} (hn : n < L.length) (hm : m ≠ 256)
    (k : K (.int .i64 3) w) : Calls prog 39 #[.pointer (some ⟨d, 0, none⟩), .int .i64 n, .slice a m c] w (Ret K) := by
  obtain ⟨lv, vs, wv, ws, e, hd⟩ := sat_rdsk.1 (h.rdks d)
  obtain ⟨a, c, rfl, hc, hl, ha⟩ := osl_shape hd.drop
  refine c39 ?_
  unfold B39
  have h1 : ¬ (n : Int) < 0 := by omega
  have h2 : ¬ (L.length : Int) ≤ n := by omega
  have h3 : ¬ (m : Int) = 256 := by omega
  simp only [↓o_nil, ↓o_field, ↓o_add, ↓o_sub, ↓o_mul, ↓o_lss, ↓o_leq, ↓o_gtr, ↓o_geq, ↓o_not, ↓o_pick, ↓o_eqInt, ↓o_neInt, ↓o_eqBool, ↓o_neBool, ↓o_eqPtr, ↓o_nePtr, ↓o_eqPtr', ↓o_eqSl, ↓o_neSl, ↓o_eqStr, ↓o_neStr, ↓o_len, ↓o_lenS, ↓o_min, ↓o_max, ↓o_extract, ↓o_convInt, ↓cd_true, ↓cd_false, ↓gate_tt, ↓gate_ff, ↓gate_tf, ↓gate_ft, ↓gate_undef, ↓pop_cons, ↓fin_nil, Option.isNone_none, Option.isNone_some, Bool.not_true, Bool.not_false, Nat.zero_add, decide_true, decide_false, if_true, if_false, Bool.false_eq_true, ↓reduceIte, h1]
  refine ld_at hd ?_
  simp only [↓o_nil, ↓o_field, ↓o_add, ↓o_sub, ↓o_mul, ↓o_lss, ↓o_leq, ↓o_gtr, ↓o_geq, ↓o_not, ↓o_pick, ↓o_eqInt, ↓o_neInt, ↓o_eqBool, ↓o_neBool, ↓o_eqPtr, ↓o_nePtr, ↓o_eqPtr', ↓o_eqSl, ↓o_neSl, ↓o_eqStr, ↓o_neStr, ↓o_len, ↓o_lenS, ↓o_min, ↓o_max, ↓o_extract, ↓o_convInt, ↓cd_true, ↓cd_false, ↓gate_tt, ↓gate_ff, ↓gate_tf, ↓gate_ft, ↓gate_undef, ↓pop_cons, ↓fin_nil, Option.isNone_none, Option.isNone_some, Bool.not_true, Bool.not_false, Nat.zero_add, decide_true, decide_false, if_true, if_false, Bool.false_eq_true, ↓reduceIte, h2, h3]
  exact k
theorem rWrite_spec {d : Nat} {L : List (List UInt8)} {W : List (Int × List UInt8)} (h : sat E w H) [s : RdkS H d L W R] {n : Nat} {v : Value} {l : List UInt8} (hn : n < L.length) (hl : l.length = 256) (hW : W.length ≤ 1000000)
    (hv : Rds R v l.length (l.map bv))
    (k : ∀ w', sat E w' (rdsk d L (W ++ [((n : Int), l)]) * R) → K (.int .i64 0) w') : Calls prog 39 #[.pointer (some ⟨d, 0, none⟩), .int .i64 n, v] w (Ret K) := by
  obtain ⟨fv, vs, lv, ws, e, hd⟩ := sat_rdsk.1 (h.rdks d)
  obtain ⟨av, cv, rfl, hcv, hv, ha⟩ := hv.shape hd.drop.drop.drop.drop.drop
  obtain ⟨af, cf, rfl, hcf, hfl, _⟩ := osl_shape hd.drop
  obtain ⟨aw, cw, rfl, hcw, hwl, _⟩ := osl_shape hd.drop.drop
  have hL2 : ws.length = W.length := by simpa using hd.drop.drop.drop.drop.pers_get.1
  have hone := wcells_one hd.drop.drop.drop.drop.pers_get
  refine c39 ?_
  unfold B39
  have h1 : ¬ (n : Int) < 0 := by omega
  have h2 : ¬ (L.length : Int) ≤ n := by omega
  have h3 : (l.length : Int) = 256 := by omega
  simp only [↓o_nil, ↓o_field, ↓o_add, ↓o_sub, ↓o_mul, ↓o_lss, ↓o_leq, ↓o_gtr, ↓o_geq, ↓o_not, ↓o_pick, ↓o_eqInt, ↓o_neInt, ↓o_eqBool, ↓o_neBool, ↓o_eqPtr, ↓o_nePtr, ↓o_eqPtr', ↓o_eqSl, ↓o_neSl, ↓o_eqStr, ↓o_neStr, ↓o_len, ↓o_lenS, ↓o_min, ↓o_max, ↓o_extract, ↓o_convInt, ↓cd_true, ↓cd_false, ↓gate_tt, ↓gate_ff, ↓gate_tf, ↓gate_ft, ↓gate_undef, ↓pop_cons, ↓fin_nil, Option.isNone_none, Option.isNone_some, Bool.not_true, Bool.not_false, Nat.zero_add, decide_true, decide_false, if_true, if_false, Bool.false_eq_true, ↓reduceIte, h1]
  refine ld_at hd ?_
  simp only [↓o_nil, ↓o_field, ↓o_add, ↓o_sub, ↓o_mul, ↓o_lss, ↓o_leq, ↓o_gtr, ↓o_geq, ↓o_not, ↓o_pick, ↓o_eqInt, ↓o_neInt, ↓o_eqBool, ↓o_neBool, ↓o_eqPtr, ↓o_nePtr, ↓o_eqPtr', ↓o_eqSl, ↓o_neSl, ↓o_eqStr, ↓o_neStr, ↓o_len, ↓o_lenS, ↓o_min, ↓o_max, ↓o_extract, ↓o_convInt, ↓cd_true, ↓cd_false, ↓gate_tt, ↓gate_ff, ↓gate_tf, ↓gate_ft, ↓gate_undef, ↓pop_cons, ↓fin_nil, Option.isNone_none, Option.isNone_some, Bool.not_true, Bool.not_false, Nat.zero_add, decide_true, decide_false, if_true, if_false, Bool.false_eq_true, ↓reduceIte, h2, h3]
  refine ld_at hd ?_
  have hwin : win (hp w) aw (wcells ws) := by
    obtain ⟨a', c', e', _, hw⟩ := osl_rd (hd.owns (.slice aw W.length cw))
    cases e'; exact hw
  refine append_sl (osl_nil hd 52 2) (wcells ws) hwl hwin hone (by omega) (by omega) fun v1 w hd => ?_
  refine Copy_spec hd (v := .slice av l.length cv) (l := l) (Rds.under hv) (by omega) fun v2 w hd => ?_
  have hd := osl_freeze hd
  obtain ⟨a2, c2, rfl, _, _⟩ := hd.pers_get
  refine pvv_of (v := .agg #[.int .i64 n, .slice a2 l.length c2]) (fun _ => by kernel_rfl) ?_
  refine buildSlice_sl (e := 52) (cs := #[.int .i64 n, .slice a2 l.length c2]) hd (fun w => by kernel_rfl) fun b1 w hd => ?_
  refine append_sl hd [.int .i64 n, .slice a2 l.length c2] rfl (.inr ⟨b1, 0, _, 52, (0, 0), rfl, hd.pts_get, fun j v hj => by simpa using hj⟩) (by simp [Value.oneCell']) (by omega) (by omega) fun v3 w hd => ?_
  simp only [Nat.zero_add] at hd ⊢
  obtain ⟨a3, c3, rfl, _, _, _⟩ := osl_shape hd
  refine store_at hd rfl (by simp) fun w hd => k w ?_
  have hd := sat_imp2 (hd.lose b1) (immS (.slice a2 l.length c2) l.length (l.map bv)) (immAll (ws.map (·.2)) (W.map (·.2))) (χ := immAll (ws.map (·.2) ++ [.slice a2 l.length c2]) (W.map (·.2) ++ [l])) (fun I h1 h2 => immAll_snoc (v := .slice a2 l.length c2) h2 h1)
  have e1 : ([] ++ wcells ws ++ [Value.int .i64 n, .slice a2 l.length c2]) = wcells (ws ++ [((n : Int), .slice a2 l.length c2)]) := by simp [wcells]
  have e2 : (ws.map (·.2) ++ [Value.slice a2 l.length c2]) = (ws ++ [((n : Int), Value.slice a2 l.length c2)]).map (·.2) := by simp
  have e3 : (W.map (·.2) ++ [l]) = (W ++ [((n : Int), l)]).map (·.2) := by simp
  rw [e1, e2, e3] at hd
  have hd := rdsk_shut d L (W ++ [((n : Int), l)]) (ws := ws ++ [((n : Int), .slice a2 l.length c2)]) rfl (by simp) (by simp [e]) hd
  exact (hd.perm (Q := osl 52 2 (.slice aw W.length cw) W.length (wcells ws) * (rdsk d L (W ++ [((n : Int), l)]) * R)) (by ac_rfl)).drop
end Go.Proofs.Yteplajobjlehlaa
