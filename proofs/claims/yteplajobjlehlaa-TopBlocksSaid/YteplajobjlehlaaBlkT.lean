/-
  What is compared, and what is told of both disks.
-/
import Derived.Test.YteplajobjlehlaaBlkS
set_option linter.all false
set_option maxRecDepth 10000
namespace Go.Proofs.Yteplajobjlehlaa
open Go Hold
variable {E : World0} {w : World} {H R : HP} {K : Value → World → Prop}

theorem SameAll_spec (h : sat E w H) {v u : Value} {L M : List (List UInt8)} (hv : Rdd H v L) (hu : Rdd H u M) (hL : L.length ≤ 1000000) (hl : ∀ l ∈ L, l.length ≤ 140737488355328) (k : ∀ w', sat E w' H → K (.bool (decide (L = M))) w') :
    Calls prog 27 #[v, u] w (Ret K) := by
  obtain ⟨vs, hv, hvl, hva⟩ := hv
  obtain ⟨us, hu, hul, hua⟩ := hu
  obtain ⟨a, c, rfl, hc, hv, _⟩ := hv.shape h
  obtain ⟨a', c', rfl, hc', hu, _⟩ := hu.shape h
  refine c27 ?_
  unfold B27
  simp only [↓o_nil, ↓o_field, ↓o_add, ↓o_sub, ↓o_mul, ↓o_lss, ↓o_leq, ↓o_gtr, ↓o_geq, ↓o_not, ↓o_pick, ↓o_eqInt, ↓o_neInt, ↓o_eqBool, ↓o_neBool, ↓o_eqPtr, ↓o_nePtr, ↓o_eqPtr', ↓o_eqSl, ↓o_neSl, ↓o_eqStr, ↓o_neStr, ↓o_len, ↓o_lenS, ↓o_min, ↓o_max, ↓o_extract, ↓o_convInt, ↓cd_true, ↓cd_false, ↓gate_tt, ↓gate_ff, ↓gate_tf, ↓gate_ft, ↓gate_undef, ↓pop_cons, ↓fin_nil, Option.isNone_none, Option.isNone_some, Bool.not_true, Bool.not_false, Nat.zero_add, decide_true, decide_false, if_true, if_false, Bool.false_eq_true, ↓reduceIte]
  refine cd_dec' (fun he => ?_) (fun hne => ?_)
  · have he : L.length = M.length := by omega
    refine lp_nat (fun n σ w => ∃ i : Nat, σ = [.int .i64 i] ∧ n = L.length - i ∧ i ≤ L.length ∧ L.take i = M.take i ∧ sat E w H) L.length ⟨0, rfl, rfl, by omega, rfl, h⟩ ?_
    rintro n σ w again ⟨i, rfl, rfl, hi, heq, h⟩ hag
    simp only [↓o_nil, ↓o_field, ↓o_add, ↓o_sub, ↓o_mul, ↓o_lss, ↓o_leq, ↓o_gtr, ↓o_geq, ↓o_not, ↓o_pick, ↓o_eqInt, ↓o_neInt, ↓o_eqBool, ↓o_neBool, ↓o_eqPtr, ↓o_nePtr, ↓o_eqPtr', ↓o_eqSl, ↓o_neSl, ↓o_eqStr, ↓o_neStr, ↓o_len, ↓o_lenS, ↓o_min, ↓o_max, ↓o_extract, ↓o_convInt, ↓cd_true, ↓cd_false, ↓gate_tt, ↓gate_ff, ↓gate_tf, ↓gate_ft, ↓gate_undef, ↓pop_cons, ↓fin_nil, Option.isNone_none, Option.isNone_some, Bool.not_true, Bool.not_false, Nat.zero_add, decide_true, decide_false, if_true, if_false, Bool.false_eq_true, ↓reduceIte]
    refine cd_dec (fun hlt => ?_) (fun hge => ?_)
    · have hlt : i < L.length := by omega
      refine dr_sl h fun w h _ => ?_
      obtain ⟨b1, o1, rfl, hb1⟩ := win_cell (hv.win h) (j := i) (by omega)
      obtain ⟨b2, o2, rfl, hb2⟩ := win_cell (hu.win h) (j := i) (by omega)
      rw [o_index (by omega) (by omega)]
      simp only [Int.toNat_natCast, Nat.mul_one]
      rw [o_index (by omega) (by omega)]
      simp only [Int.toNat_natCast, Nat.mul_one]
      refine ld_cell hb1 ?_
      refine ld_cell hb2 ?_
      refine SameBytes_spec h (hva i vs[i] L[i] (List.getElem?_eq_getElem (by omega)) (List.getElem?_eq_getElem hlt)) (hua i us[i] M[i] (List.getElem?_eq_getElem (by omega)) (List.getElem?_eq_getElem (by omega))) (hl _ (List.getElem_mem _)) fun w h => ?_
      simp only [↓o_nil, ↓o_field, ↓o_add, ↓o_sub, ↓o_mul, ↓o_lss, ↓o_leq, ↓o_gtr, ↓o_geq, ↓o_not, ↓o_pick, ↓o_eqInt, ↓o_neInt, ↓o_eqBool, ↓o_neBool, ↓o_eqPtr, ↓o_nePtr, ↓o_eqPtr', ↓o_eqSl, ↓o_neSl, ↓o_eqStr, ↓o_neStr, ↓o_len, ↓o_lenS, ↓o_min, ↓o_max, ↓o_extract, ↓o_convInt, ↓cd_true, ↓cd_false, ↓gate_tt, ↓gate_ff, ↓gate_tf, ↓gate_ft, ↓gate_undef, ↓pop_cons, ↓fin_nil, Option.isNone_none, Option.isNone_some, Bool.not_true, Bool.not_false, Nat.zero_add, decide_true, decide_false, if_true, if_false, Bool.false_eq_true, ↓reduceIte]
      refine cd_dec' (fun he2 => ?_) (fun hne => ?_)
      · rw [i64_of (by omega) (by omega)]
        refine hag _ _ _ (by omega) ⟨i + 1, rfl, rfl, by omega, ?_, h⟩
        rw [List.take_succ_eq_append_getElem hlt, List.take_succ_eq_append_getElem (by omega), heq, he2]
      · have : L ≠ M := by rintro rfl; exact hne rfl
        have := k w h
        simpa [*] using this
    · have : L = M := by
        have hi2 : i = L.length := by omega
        rw [hi2, List.take_length, he, List.take_length] at heq
        exact heq
      subst this
      simpa using k w h
  · have : L ≠ M := by rintro rfl; exact hne rfl
    simpa [this] using k w h

def iv (n : Int) : Value := .int .i64 n
theorem SameInts_spec (h : sat E w H) {v u : Value} {l m : List Int} (hv : Rds H v l.length (l.map iv)) (hu : Rds H u m.length (m.map iv)) (hl : l.length ≤ 140737488355328)
    (k : ∀ w', sat E w' H → K (.bool (decide (l = m))) w') : Calls prog 24 #[v, u] w (Ret K) := by
  obtain ⟨a, c, rfl, hc, hv, _⟩ := hv.shape h
  obtain ⟨a', c', rfl, hc', hu, _⟩ := hu.shape h
  refine c24 ?_
  unfold B24
  simp only [↓o_nil, ↓o_field, ↓o_add, ↓o_sub, ↓o_mul, ↓o_lss, ↓o_leq, ↓o_gtr, ↓o_geq, ↓o_not, ↓o_pick, ↓o_eqInt, ↓o_neInt, ↓o_eqBool, ↓o_neBool, ↓o_eqPtr, ↓o_nePtr, ↓o_eqPtr', ↓o_eqSl, ↓o_neSl, ↓o_eqStr, ↓o_neStr, ↓o_len, ↓o_lenS, ↓o_min, ↓o_max, ↓o_extract, ↓o_convInt, ↓cd_true, ↓cd_false, ↓gate_tt, ↓gate_ff, ↓gate_tf, ↓gate_ft, ↓gate_undef, ↓pop_cons, ↓fin_nil, Option.isNone_none, Option.isNone_some, Bool.not_true, Bool.not_false, Nat.zero_add, decide_true, decide_false, if_true, if_false, Bool.false_eq_true, ↓reduceIte]
  refine cd_dec' (fun he => ?_) (fun hne => ?_)
  · have he : l.length = m.length := by omega
    refine lp_nat (fun n σ w => ∃ i : Nat, σ = [.int .i64 i] ∧ n = l.length - i ∧ i ≤ l.length ∧ l.take i = m.take i ∧ sat E w H) l.length ⟨0, rfl, rfl, by omega, rfl, h⟩ ?_
    rintro n σ w again ⟨i, rfl, rfl, hi, heq, h⟩ hag
    simp only [↓o_nil, ↓o_field, ↓o_add, ↓o_sub, ↓o_mul, ↓o_lss, ↓o_leq, ↓o_gtr, ↓o_geq, ↓o_not, ↓o_pick, ↓o_eqInt, ↓o_neInt, ↓o_eqBool, ↓o_neBool, ↓o_eqPtr, ↓o_nePtr, ↓o_eqPtr', ↓o_eqSl, ↓o_neSl, ↓o_eqStr, ↓o_neStr, ↓o_len, ↓o_lenS, ↓o_min, ↓o_max, ↓o_extract, ↓o_convInt, ↓cd_true, ↓cd_false, ↓gate_tt, ↓gate_ff, ↓gate_tf, ↓gate_ft, ↓gate_undef, ↓pop_cons, ↓fin_nil, Option.isNone_none, Option.isNone_some, Bool.not_true, Bool.not_false, Nat.zero_add, decide_true, decide_false, if_true, if_false, Bool.false_eq_true, ↓reduceIte]
    refine cd_dec (fun hlt => ?_) (fun hge => ?_)
    · have hlt : i < l.length := by omega
      refine dr_sl h fun w h _ => ?_
      obtain ⟨b1, o1, rfl, hb1⟩ := win_cell (hv.win h) (j := i) (by simp; omega)
      obtain ⟨b2, o2, rfl, hb2⟩ := win_cell (hu.win h) (j := i) (by simp; omega)
      rw [o_index (by omega) (by omega)]
      simp only [Int.toNat_natCast, Nat.mul_one]
      rw [o_index (by omega) (by omega)]
      simp only [Int.toNat_natCast, Nat.mul_one]
      refine ld_cell hb1 ?_
      refine ld_cell hb2 ?_
      simp only [List.getElem_map, iv, ↓o_nil, ↓o_field, ↓o_add, ↓o_sub, ↓o_mul, ↓o_lss, ↓o_leq, ↓o_gtr, ↓o_geq, ↓o_not, ↓o_pick, ↓o_eqInt, ↓o_neInt, ↓o_eqBool, ↓o_neBool, ↓o_eqPtr, ↓o_nePtr, ↓o_eqPtr', ↓o_eqSl, ↓o_neSl, ↓o_eqStr, ↓o_neStr, ↓o_len, ↓o_lenS, ↓o_min, ↓o_max, ↓o_extract, ↓o_convInt, ↓cd_true, ↓cd_false, ↓gate_tt, ↓gate_ff, ↓gate_tf, ↓gate_ft, ↓gate_undef, ↓pop_cons, ↓fin_nil, Option.isNone_none, Option.isNone_some, Bool.not_true, Bool.not_false, Nat.zero_add, decide_true, decide_false, if_true, if_false, Bool.false_eq_true, ↓reduceIte]
      refine cd_dec' (fun he2 => ?_) (fun hne => ?_)
      · rw [i64_of (by omega) (by omega)]
        refine hag _ _ _ (by omega) ⟨i + 1, rfl, rfl, by omega, ?_, h⟩
        rw [List.take_succ_eq_append_getElem hlt, List.take_succ_eq_append_getElem (by omega), heq, he2]
      · have : l ≠ m := by rintro rfl; exact hne rfl
        have := k w h
        simpa [*] using this
    · have : l = m := by
        have hi2 : i = l.length := by omega
        rw [hi2, List.take_length, he, List.take_length] at heq
        exact heq
      subst this
      simpa using k w h
  · have : l ≠ m := by rintro rfl; exact hne rfl
    simpa [this] using k w h

/-! ### Writes -/
theorem Writes_nil (k : K (.slice none 0 0) w) : Calls prog 25 #[.pointer none] w (Ret K) := by
  refine c25 ?_
  unfold B25
  refine jn_cut (fun σ w' => σ = [.slice none 0 0] ∧ w' = w) ?_ ?_
  · intro kk hk
    simp only [↓o_nil, ↓o_field, ↓o_add, ↓o_sub, ↓o_mul, ↓o_lss, ↓o_leq, ↓o_gtr, ↓o_geq, ↓o_not, ↓o_pick, ↓o_eqInt, ↓o_neInt, ↓o_eqBool, ↓o_neBool, ↓o_eqPtr, ↓o_nePtr, ↓o_eqPtr', ↓o_eqSl, ↓o_neSl, ↓o_eqStr, ↓o_neStr, ↓o_len, ↓o_lenS, ↓o_min, ↓o_max, ↓o_extract, ↓o_convInt, ↓cd_true, ↓cd_false, ↓gate_tt, ↓gate_ff, ↓gate_tf, ↓gate_ft, ↓gate_undef, ↓pop_cons, ↓fin_nil, Option.isNone_none, Option.isNone_some, Bool.not_true, Bool.not_false, Nat.zero_add, decide_true, decide_false, if_true, if_false, Bool.false_eq_true, ↓reduceIte]
    exact hk _ _ ⟨rfl, rfl⟩
  · rintro σ w' ⟨rfl, rfl⟩
    simp only [↓o_nil, ↓o_field, ↓o_add, ↓o_sub, ↓o_mul, ↓o_lss, ↓o_leq, ↓o_gtr, ↓o_geq, ↓o_not, ↓o_pick, ↓o_eqInt, ↓o_neInt, ↓o_eqBool, ↓o_neBool, ↓o_eqPtr, ↓o_nePtr, ↓o_eqPtr', ↓o_eqSl, ↓o_neSl, ↓o_eqStr, ↓o_neStr, ↓o_len, ↓o_lenS, ↓o_min, ↓o_max, ↓o_extract, ↓o_convInt, ↓cd_true, ↓cd_false, ↓gate_tt, ↓gate_ff, ↓gate_tf, ↓gate_ft, ↓gate_undef, ↓pop_cons, ↓fin_nil, Option.isNone_none, Option.isNone_some, Bool.not_true, Bool.not_false, Nat.zero_add, decide_true, decide_false, if_true, if_false, Bool.false_eq_true, ↓reduceIte]
    exact k
theorem Writes_spec {d : Nat} {L : List (List UInt8)} {W : List (Int × List UInt8)} (h : sat E w H) [s : DskS H d L W R] (hW : W.length ≤ 1000000)
    (k : ∀ v' w', sat E w' (osl 3 1 v' (W.map (·.1)).length ((W.map (·.1)).map iv) * H) → K v' w') : Calls prog 25 #[.pointer (some ⟨d, 0, none⟩)] w (Ret K) := by
  obtain ⟨lv, vs, wv, ws, e, hd⟩ := sat_dsk.1 (h.dsks d)
  have hL2 : ws.length = W.length := by simpa using hd.drop.drop.drop.drop.pers_get.1
  have hwl := wcells_length ws
  have hone := wcells_one hd.drop.drop.drop.drop.pers_get
  obtain ⟨al, cl, rfl, hcl, hll, _⟩ := osl_shape hd.drop.drop
  refine c25 ?_
  unfold B25
  refine jn_cut (fun σ w' => ∃ v', σ = [v'] ∧ sat E w' (osl 3 1 v' (W.map (·.1)).length ((W.map (·.1)).map iv) * H)) ?_ ?_
  · intro kk hk
    simp only [↓o_nil, ↓o_field, ↓o_add, ↓o_sub, ↓o_mul, ↓o_lss, ↓o_leq, ↓o_gtr, ↓o_geq, ↓o_not, ↓o_pick, ↓o_eqInt, ↓o_neInt, ↓o_eqBool, ↓o_neBool, ↓o_eqPtr, ↓o_nePtr, ↓o_eqPtr', ↓o_eqSl, ↓o_neSl, ↓o_eqStr, ↓o_neStr, ↓o_len, ↓o_lenS, ↓o_min, ↓o_max, ↓o_extract, ↓o_convInt, ↓cd_true, ↓cd_false, ↓gate_tt, ↓gate_ff, ↓gate_tf, ↓gate_ft, ↓gate_undef, ↓pop_cons, ↓fin_nil, Option.isNone_none, Option.isNone_some, Bool.not_true, Bool.not_false, Nat.zero_add, decide_true, decide_false, if_true, if_false, Bool.false_eq_true, ↓reduceIte]
    refine ld_at hd ?_
    simp only [↓o_nil, ↓o_field, ↓o_add, ↓o_sub, ↓o_mul, ↓o_lss, ↓o_leq, ↓o_gtr, ↓o_geq, ↓o_not, ↓o_pick, ↓o_eqInt, ↓o_neInt, ↓o_eqBool, ↓o_neBool, ↓o_eqPtr, ↓o_nePtr, ↓o_eqPtr', ↓o_eqSl, ↓o_neSl, ↓o_eqStr, ↓o_neStr, ↓o_len, ↓o_lenS, ↓o_min, ↓o_max, ↓o_extract, ↓o_convInt, ↓cd_true, ↓cd_false, ↓gate_tt, ↓gate_ff, ↓gate_tf, ↓gate_ft, ↓gate_undef, ↓pop_cons, ↓fin_nil, Option.isNone_none, Option.isNone_some, Bool.not_true, Bool.not_false, Nat.zero_add, decide_true, decide_false, if_true, if_false, Bool.false_eq_true, ↓reduceIte]
    refine lp_nat (fun m σ w => ∃ (i : Nat) (ov : Value), σ = [ov, .int .i64 i] ∧ m = W.length - i ∧ i ≤ W.length ∧
      sat E w (osl 3 1 ov i (((ws.map (·.1)).take i).map iv) * (pts d (.cells [lv, .slice al W.length cl, .int .i64 W.length].toArray 79 (0, 0)) * (osl 32 1 lv L.length vs * (osl 81 2 (.slice al W.length cl) W.length (wcells ws) * (pers (immAll vs L) * (pers (immAll (ws.map (·.2)) (W.map (·.2))) * R))))))) W.length ⟨0, _, rfl, rfl, by omega, osl_nil hd 3 1⟩ ?_
    rintro m σ w again ⟨i, ov, rfl, rfl, hi, h⟩ hag
    simp only [↓o_nil, ↓o_field, ↓o_add, ↓o_sub, ↓o_mul, ↓o_lss, ↓o_leq, ↓o_gtr, ↓o_geq, ↓o_not, ↓o_pick, ↓o_eqInt, ↓o_neInt, ↓o_eqBool, ↓o_neBool, ↓o_eqPtr, ↓o_nePtr, ↓o_eqPtr', ↓o_eqSl, ↓o_neSl, ↓o_eqStr, ↓o_neStr, ↓o_len, ↓o_lenS, ↓o_min, ↓o_max, ↓o_extract, ↓o_convInt, ↓cd_true, ↓cd_false, ↓gate_tt, ↓gate_ff, ↓gate_tf, ↓gate_ft, ↓gate_undef, ↓pop_cons, ↓fin_nil, Option.isNone_none, Option.isNone_some, Bool.not_true, Bool.not_false, Nat.zero_add, decide_true, decide_false, if_true, if_false, Bool.false_eq_true, ↓reduceIte]
    refine cd_dec (fun hlt => ?_) (fun hge => ?_)
    · have hlt : i < W.length := by omega
      have hj : i < ws.length := by omega
      obtain ⟨g1, g2⟩ := wcells_get ws i hj
      obtain ⟨bl, cl', sp, hvl, _, _, hP, _⟩ := osl_open (h.owns (.slice al W.length cl)) (by omega)
      cases hvl
      rw [o_index (by omega) (by omega)]
      simp only [Int.toNat_natCast, Nat.zero_add, ↓o_nil, ↓o_field, ↓o_add, ↓o_sub, ↓o_mul, ↓o_lss, ↓o_leq, ↓o_gtr, ↓o_geq, ↓o_not, ↓o_pick, ↓o_eqInt, ↓o_neInt, ↓o_eqBool, ↓o_neBool, ↓o_eqPtr, ↓o_nePtr, ↓o_eqPtr', ↓o_eqSl, ↓o_neSl, ↓o_eqStr, ↓o_neStr, ↓o_len, ↓o_lenS, ↓o_min, ↓o_max, ↓o_extract, ↓o_convInt, ↓cd_true, ↓cd_false, ↓gate_tt, ↓gate_ff, ↓gate_tf, ↓gate_ft, ↓gate_undef, ↓pop_cons, ↓fin_nil, Option.isNone_none, Option.isNone_some, Bool.not_true, Bool.not_false, Nat.zero_add, decide_true, decide_false, if_true, if_false, Bool.false_eq_true, ↓reduceIte]
      have hwin := (Rds.own (v := .slice (some ⟨bl, 0, none⟩) W.length cl)).win h
      have k1 := hwin.cell bl 0 rfl _ _ g1
      have k2 := hwin.cell bl 0 rfl _ _ g2
      refine ldv_of (run_loadN (n := 2) (cs := [.int .i64 ws[i].1, ws[i].2]) rfl ?_) ?_
      · intro j v hj
        match j, hj with
        | 0, hj => simp at hj; subst hj; simpa using k1
        | 1, hj => simp at hj; subst hj; simpa [Nat.add_assoc] using k2
        | j + 2, hj => simp at hj
      refine alloc_sl h fun wb w h => ?_
      have h : sat E w (pts wb (.cells [Value.int .i64 0, .slice none 0 0].toArray 81 (0, 0)) * _) := h
      have ho : ws[i].2.oneCell' = true := hone _ (List.mem_of_getElem? g2)
      have hcs : ws[i].2.cells.toList = [ws[i].2] := cells_one ho
      refine storeN_sl (n := 2) h (by kernel_rfl) (vs := [.int .i64 ws[i].1, ws[i].2]) (by simp [Value.cells, hcs]) rfl (by intro x hx; simp only [List.mem_cons, List.not_mem_nil, or_false] at hx; rcases hx with rfl | rfl; rfl; exact ho) (by simp) fun w h => ?_
      simp only [List.take_zero, List.nil_append, List.length_cons, List.length_nil, List.drop_succ_cons, List.drop_zero, List.append_nil, Nat.zero_add] at h
      simp only [↓o_nil, ↓o_field, ↓o_add, ↓o_sub, ↓o_mul, ↓o_lss, ↓o_leq, ↓o_gtr, ↓o_geq, ↓o_not, ↓o_pick, ↓o_eqInt, ↓o_neInt, ↓o_eqBool, ↓o_neBool, ↓o_eqPtr, ↓o_nePtr, ↓o_eqPtr', ↓o_eqSl, ↓o_neSl, ↓o_eqStr, ↓o_neStr, ↓o_len, ↓o_lenS, ↓o_min, ↓o_max, ↓o_extract, ↓o_convInt, ↓cd_true, ↓cd_false, ↓gate_tt, ↓gate_ff, ↓gate_tf, ↓gate_ft, ↓gate_undef, ↓pop_cons, ↓fin_nil, Option.isNone_none, Option.isNone_some, Bool.not_true, Bool.not_false, Nat.zero_add, decide_true, decide_false, if_true, if_false, Bool.false_eq_true, ↓reduceIte]
      refine ld_at h ?_
      refine buildSlice_sl (e := 3) (cs := #[.int .i64 ws[i].1]) h (fun w => by kernel_rfl) fun b1 w h => ?_
      refine append_sl h [.int .i64 ws[i].1] rfl (.inr ⟨b1, 0, _, 3, (0, 0), rfl, h.pts_get, fun j v hj => by simpa using hj⟩) (by simp [Value.oneCell']) (by omega) (by omega) fun ov' w h => ?_
      rw [i64_of (by omega) (by omega)]
      refine hag _ _ _ (by omega) ⟨i + 1, ov', rfl, rfl, by omega, ?_⟩
      have e1 : ((ws.map (·.1)).take i).map iv ++ [Value.int .i64 ws[i].1] = ((ws.map (·.1)).take (i + 1)).map iv := by
        rw [List.take_succ_eq_append_getElem (by simpa using hj)]; simp [iv]
      rw [e1] at h
      exact ((h.lose b1).lose wb).perm (by ac_rfl)
    · have hi2 : i = W.length := by omega
      subst hi2
      refine hk _ _ ⟨ov, rfl, ?_⟩
      have e1 : (ws.map (·.1)).take W.length = W.map (·.1) := by rw [List.take_of_length_le (by simp; omega), e]
      rw [e1] at h
      have h := dsk_shut d L W e h
      rw [List.length_map]
      exact h.perm (by rw [s.eq]; ac_rfl)
  · rintro σ w' ⟨v', rfl, h⟩
    simp only [↓o_nil, ↓o_field, ↓o_add, ↓o_sub, ↓o_mul, ↓o_lss, ↓o_leq, ↓o_gtr, ↓o_geq, ↓o_not, ↓o_pick, ↓o_eqInt, ↓o_neInt, ↓o_eqBool, ↓o_neBool, ↓o_eqPtr, ↓o_nePtr, ↓o_eqPtr', ↓o_eqSl, ↓o_neSl, ↓o_eqStr, ↓o_neStr, ↓o_len, ↓o_lenS, ↓o_min, ↓o_max, ↓o_extract, ↓o_convInt, ↓cd_true, ↓cd_false, ↓gate_tt, ↓gate_ff, ↓gate_tf, ↓gate_ft, ↓gate_undef, ↓pop_cons, ↓fin_nil, Option.isNone_none, Option.isNone_some, Bool.not_true, Bool.not_false, Nat.zero_add, decide_true, decide_false, if_true, if_false, Bool.false_eq_true, ↓reduceIte]
    exact k _ _ h
theorem rWrites_spec {d : Nat} {L : List (List UInt8)} {W : List (Int × List UInt8)} (h : sat E w H) [s : RdkS H d L W R] (hW : W.length ≤ 1000000)
    (k : ∀ v' w', sat E w' (osl 3 1 v' (W.map (·.1)).length ((W.map (·.1)).map iv) * H) → K v' w') : Calls prog 26 #[.pointer (some ⟨d, 0, none⟩)] w (Ret K) := by
  obtain ⟨fv, vs, lv, ws, e, hd⟩ := sat_rdsk.1 (h.rdks d)
  have hL2 : ws.length = W.length := by simpa using hd.drop.drop.drop.drop.pers_get.1
  have hwl := wcells_length ws
  obtain ⟨al, cl, rfl, hcl, hll, _⟩ := osl_shape hd.drop.drop
  refine c26 ?_
  unfold B26
  refine lp_nat (fun m σ w => ∃ (i : Nat) (ov : Value), σ = [ov, .int .i64 i] ∧ m = W.length - i ∧ i ≤ W.length ∧
      sat E w (osl 3 1 ov i (((ws.map (·.1)).take i).map iv) * (pts d (.cells [fv, .slice al W.length cl].toArray 50 (0, 0)) * (osl 32 1 fv L.length vs * (osl 52 2 (.slice al W.length cl) W.length (wcells ws) * (pers (immAll vs L) * (pers (immAll (ws.map (·.2)) (W.map (·.2))) * R))))))) W.length ⟨0, _, rfl, rfl, by omega, osl_nil hd 3 1⟩ ?_
  rintro m σ w again ⟨i, ov, rfl, rfl, hi, h⟩ hag
  simp only [↓o_nil, ↓o_field, ↓o_add, ↓o_sub, ↓o_mul, ↓o_lss, ↓o_leq, ↓o_gtr, ↓o_geq, ↓o_not, ↓o_pick, ↓o_eqInt, ↓o_neInt, ↓o_eqBool, ↓o_neBool, ↓o_eqPtr, ↓o_nePtr, ↓o_eqPtr', ↓o_eqSl, ↓o_neSl, ↓o_eqStr, ↓o_neStr, ↓o_len, ↓o_lenS, ↓o_min, ↓o_max, ↓o_extract, ↓o_convInt, ↓cd_true, ↓cd_false, ↓gate_tt, ↓gate_ff, ↓gate_tf, ↓gate_ft, ↓gate_undef, ↓pop_cons, ↓fin_nil, Option.isNone_none, Option.isNone_some, Bool.not_true, Bool.not_false, Nat.zero_add, decide_true, decide_false, if_true, if_false, Bool.false_eq_true, ↓reduceIte]
  refine ld_at h ?_
  simp only [↓o_nil, ↓o_field, ↓o_add, ↓o_sub, ↓o_mul, ↓o_lss, ↓o_leq, ↓o_gtr, ↓o_geq, ↓o_not, ↓o_pick, ↓o_eqInt, ↓o_neInt, ↓o_eqBool, ↓o_neBool, ↓o_eqPtr, ↓o_nePtr, ↓o_eqPtr', ↓o_eqSl, ↓o_neSl, ↓o_eqStr, ↓o_neStr, ↓o_len, ↓o_lenS, ↓o_min, ↓o_max, ↓o_extract, ↓o_convInt, ↓cd_true, ↓cd_false, ↓gate_tt, ↓gate_ff, ↓gate_tf, ↓gate_ft, ↓gate_undef, ↓pop_cons, ↓fin_nil, Option.isNone_none, Option.isNone_some, Bool.not_true, Bool.not_false, Nat.zero_add, decide_true, decide_false, if_true, if_false, Bool.false_eq_true, ↓reduceIte]
  refine cd_dec (fun hlt => ?_) (fun hge => ?_)
  · have hlt : i < W.length := by omega
    have hj : i < ws.length := by omega
    obtain ⟨g1, g2⟩ := wcells_get ws i hj
    obtain ⟨bl, cl', sp, hvl, _, _, hP, _⟩ := osl_open (h.owns (.slice al W.length cl)) (by omega)
    cases hvl
    refine ld_at h ?_
    rw [o_index (by omega) (by omega)]
    simp only [Int.toNat_natCast, Nat.zero_add, ↓o_nil, ↓o_field, ↓o_add, ↓o_sub, ↓o_mul, ↓o_lss, ↓o_leq, ↓o_gtr, ↓o_geq, ↓o_not, ↓o_pick, ↓o_eqInt, ↓o_neInt, ↓o_eqBool, ↓o_neBool, ↓o_eqPtr, ↓o_nePtr, ↓o_eqPtr', ↓o_eqSl, ↓o_neSl, ↓o_eqStr, ↓o_neStr, ↓o_len, ↓o_lenS, ↓o_min, ↓o_max, ↓o_extract, ↓o_convInt, ↓cd_true, ↓cd_false, ↓gate_tt, ↓gate_ff, ↓gate_tf, ↓gate_ft, ↓gate_undef, ↓pop_cons, ↓fin_nil, Option.isNone_none, Option.isNone_some, Bool.not_true, Bool.not_false, Nat.zero_add, decide_true, decide_false, if_true, if_false, Bool.false_eq_true, ↓reduceIte]
    have hwin := (Rds.own (v := .slice (some ⟨bl, 0, none⟩) W.length cl)).win h
    refine ld_cell (v := .int .i64 ws[i].1) (by simpa using hwin.cell bl 0 rfl _ _ g1) ?_
    refine buildSlice_sl (e := 3) (cs := #[.int .i64 ws[i].1]) h (fun w => by kernel_rfl) fun b1 w h => ?_
    refine append_sl h [.int .i64 ws[i].1] rfl (.inr ⟨b1, 0, _, 3, (0, 0), rfl, h.pts_get, fun j v hj => by simpa using hj⟩) (by simp [Value.oneCell']) (by omega) (by omega) fun ov' w h => ?_
    rw [i64_of (by omega) (by omega)]
    refine hag _ _ _ (by omega) ⟨i + 1, ov', rfl, rfl, by omega, ?_⟩
    have e1 : ((ws.map (·.1)).take i).map iv ++ [Value.int .i64 ws[i].1] = ((ws.map (·.1)).take (i + 1)).map iv := by
      rw [List.take_succ_eq_append_getElem (by simpa using hj)]; simp [iv]
    rw [e1] at h
    exact (h.lose b1).perm (by ac_rfl)
  · have hi2 : i = W.length := by omega
    subst hi2
    refine k ov _ ?_
    have e1 : (ws.map (·.1)).take W.length = W.map (·.1) := by rw [List.take_of_length_le (by simp; omega), e]
    rw [e1] at h
    have h := rdsk_shut d L W rfl rfl e h
    rw [List.length_map]
    exact h.perm (by rw [s.eq]; ac_rfl)
theorem rBlocks_spec {d : Nat} {L : List (List UInt8)} {W : List (Int × List UInt8)} (h : sat E w H) [s : RdkS H d L W R] (k : K (.int .i64 L.length) w) : Calls prog 21 #[.pointer (some ⟨d, 0, none⟩)] w (Ret K) := by
  obtain ⟨lv, vs, wv, ws, e, hd⟩ := sat_rdsk.1 (h.rdks d)
  obtain ⟨a, c, rfl, hc, hl, ha⟩ := osl_shape hd.drop
  refine c21 ?_
  unfold B21
  simp only [↓o_nil, ↓o_field, ↓o_add, ↓o_sub, ↓o_mul, ↓o_lss, ↓o_leq, ↓o_gtr, ↓o_geq, ↓o_not, ↓o_pick, ↓o_eqInt, ↓o_neInt, ↓o_eqBool, ↓o_neBool, ↓o_eqPtr, ↓o_nePtr, ↓o_eqPtr', ↓o_eqSl, ↓o_neSl, ↓o_eqStr, ↓o_neStr, ↓o_len, ↓o_lenS, ↓o_min, ↓o_max, ↓o_extract, ↓o_convInt, ↓cd_true, ↓cd_false, ↓gate_tt, ↓gate_ff, ↓gate_tf, ↓gate_ft, ↓gate_undef, ↓pop_cons, ↓fin_nil, Option.isNone_none, Option.isNone_some, Bool.not_true, Bool.not_false, Nat.zero_add, decide_true, decide_false, if_true, if_false, Bool.false_eq_true, ↓reduceIte]
  refine ld_at hd ?_
  simp only [↓o_nil, ↓o_field, ↓o_add, ↓o_sub, ↓o_mul, ↓o_lss, ↓o_leq, ↓o_gtr, ↓o_geq, ↓o_not, ↓o_pick, ↓o_eqInt, ↓o_neInt, ↓o_eqBool, ↓o_neBool, ↓o_eqPtr, ↓o_nePtr, ↓o_eqPtr', ↓o_eqSl, ↓o_neSl, ↓o_eqStr, ↓o_neStr, ↓o_len, ↓o_lenS, ↓o_min, ↓o_max, ↓o_extract, ↓o_convInt, ↓cd_true, ↓cd_false, ↓gate_tt, ↓gate_ff, ↓gate_tf, ↓gate_ft, ↓gate_undef, ↓pop_cons, ↓fin_nil, Option.isNone_none, Option.isNone_some, Bool.not_true, Bool.not_false, Nat.zero_add, decide_true, decide_false, if_true, if_false, Bool.false_eq_true, ↓reduceIte]
  exact k
theorem rCount_spec {d : Nat} {L : List (List UInt8)} {W : List (Int × List UInt8)} (h : sat E w H) [s : RdkS H d L W R] (k : K (.int .i64 W.length) w) : Calls prog 23 #[.pointer (some ⟨d, 0, none⟩)] w (Ret K) := by
  obtain ⟨lv, vs, wv, ws, e, hd⟩ := sat_rdsk.1 (h.rdks d)
  obtain ⟨a, c, rfl, hc, hl, ha⟩ := osl_shape hd.drop.drop
  refine c23 ?_
  unfold B23
  simp only [↓o_nil, ↓o_field, ↓o_add, ↓o_sub, ↓o_mul, ↓o_lss, ↓o_leq, ↓o_gtr, ↓o_geq, ↓o_not, ↓o_pick, ↓o_eqInt, ↓o_neInt, ↓o_eqBool, ↓o_neBool, ↓o_eqPtr, ↓o_nePtr, ↓o_eqPtr', ↓o_eqSl, ↓o_neSl, ↓o_eqStr, ↓o_neStr, ↓o_len, ↓o_lenS, ↓o_min, ↓o_max, ↓o_extract, ↓o_convInt, ↓cd_true, ↓cd_false, ↓gate_tt, ↓gate_ff, ↓gate_tf, ↓gate_ft, ↓gate_undef, ↓pop_cons, ↓fin_nil, Option.isNone_none, Option.isNone_some, Bool.not_true, Bool.not_false, Nat.zero_add, decide_true, decide_false, if_true, if_false, Bool.false_eq_true, ↓reduceIte]
  refine ld_at hd ?_
  simp only [↓o_nil, ↓o_field, ↓o_add, ↓o_sub, ↓o_mul, ↓o_lss, ↓o_leq, ↓o_gtr, ↓o_geq, ↓o_not, ↓o_pick, ↓o_eqInt, ↓o_neInt, ↓o_eqBool, ↓o_neBool, ↓o_eqPtr, ↓o_nePtr, ↓o_eqPtr', ↓o_eqSl, ↓o_neSl, ↓o_eqStr, ↓o_neStr, ↓o_len, ↓o_lenS, ↓o_min, ↓o_max, ↓o_extract, ↓o_convInt, ↓cd_true, ↓cd_false, ↓gate_tt, ↓gate_ff, ↓gate_tf, ↓gate_ft, ↓gate_undef, ↓pop_cons, ↓fin_nil, Option.isNone_none, Option.isNone_some, Bool.not_true, Bool.not_false, Nat.zero_add, decide_true, decide_false, if_true, if_false, Bool.false_eq_true, ↓reduceIte]
  exact k
theorem rImage_nil (k : K (.slice none 0 0) w) : Calls prog 28 #[.pointer none] w (Ret K) := by
  refine c28 ?_
  unfold B28
  simp only [↓o_nil, ↓o_field, ↓o_add, ↓o_sub, ↓o_mul, ↓o_lss, ↓o_leq, ↓o_gtr, ↓o_geq, ↓o_not, ↓o_pick, ↓o_eqInt, ↓o_neInt, ↓o_eqBool, ↓o_neBool, ↓o_eqPtr, ↓o_nePtr, ↓o_eqPtr', ↓o_eqSl, ↓o_neSl, ↓o_eqStr, ↓o_neStr, ↓o_len, ↓o_lenS, ↓o_min, ↓o_max, ↓o_extract, ↓o_convInt, ↓cd_true, ↓cd_false, ↓gate_tt, ↓gate_ff, ↓gate_tf, ↓gate_ft, ↓gate_undef, ↓pop_cons, ↓fin_nil, Option.isNone_none, Option.isNone_some, Bool.not_true, Bool.not_false, Nat.zero_add, decide_true, decide_false, if_true, if_false, Bool.false_eq_true, ↓reduceIte]
  exact k
theorem rImage_spec {r : Nat} {F : List (List UInt8)} {V : List (Int × List UInt8)} (h : sat E w H) [s : RdkS H r F V R] (wf : Wf F V) (hV : V.length ≤ 1000000)
    (k : ∀ v' vs' w', sat E w' (osl 32 1 v' F.length vs' * (pers (immAll vs' (redo F V)) * H)) → K v' w') : Calls prog 28 #[.pointer (some ⟨r, 0, none⟩)] w (Ret K) := by
  obtain ⟨lv, vs, wv, ws, e, hd⟩ := sat_rdsk.1 (h.rdks r)
  obtain ⟨a, c, rfl, hc, hl, ha⟩ := osl_shape hd.drop.drop
  refine c28 ?_
  unfold B28
  simp only [↓o_nil, ↓o_field, ↓o_add, ↓o_sub, ↓o_mul, ↓o_lss, ↓o_leq, ↓o_gtr, ↓o_geq, ↓o_not, ↓o_pick, ↓o_eqInt, ↓o_neInt, ↓o_eqBool, ↓o_neBool, ↓o_eqPtr, ↓o_nePtr, ↓o_eqPtr', ↓o_eqSl, ↓o_neSl, ↓o_eqStr, ↓o_neStr, ↓o_len, ↓o_lenS, ↓o_min, ↓o_max, ↓o_extract, ↓o_convInt, ↓cd_true, ↓cd_false, ↓gate_tt, ↓gate_ff, ↓gate_tf, ↓gate_ft, ↓gate_undef, ↓pop_cons, ↓fin_nil, Option.isNone_none, Option.isNone_some, Bool.not_true, Bool.not_false, Nat.zero_add, decide_true, decide_false, if_true, if_false, Bool.false_eq_true, ↓reduceIte]
  refine ld_at hd ?_
  simp only [↓o_nil, ↓o_field, ↓o_add, ↓o_sub, ↓o_mul, ↓o_lss, ↓o_leq, ↓o_gtr, ↓o_geq, ↓o_not, ↓o_pick, ↓o_eqInt, ↓o_neInt, ↓o_eqBool, ↓o_neBool, ↓o_eqPtr, ↓o_nePtr, ↓o_eqPtr', ↓o_eqSl, ↓o_neSl, ↓o_eqStr, ↓o_neStr, ↓o_len, ↓o_lenS, ↓o_min, ↓o_max, ↓o_extract, ↓o_convInt, ↓cd_true, ↓cd_false, ↓gate_tt, ↓gate_ff, ↓gate_tf, ↓gate_ft, ↓gate_undef, ↓pop_cons, ↓fin_nil, Option.isNone_none, Option.isNone_some, Bool.not_true, Bool.not_false, Nat.zero_add, decide_true, decide_false, if_true, if_false, Bool.false_eq_true, ↓reduceIte]
  refine rAt_spec h wf hV (Nat.le_refl _) fun v' vs' w' h' => k v' vs' w' ?_
  rwa [List.take_length] at h'
end Go.Proofs.Yteplajobjlehlaa
