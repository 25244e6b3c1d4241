/-
  Writes of deeds; two writes in either order.
-/
import Derived.Test.YteplajobjlehlaaBlkG
set_option linter.all false
set_option maxRecDepth 10000
namespace Go.Proofs.Yteplajobjlehlaa
open Go Hold
variable {E : World0} {w : World} {H R : HP} {K : Value → World → Prop}

def okd (L : List (List UInt8)) (x : Dd) : Prop := 0 ≤ x.n ∧ x.n < L.length ∧ x.size = 256
instance (L : List (List UInt8)) (x : Dd) : Decidable (okd L x) := by unfold okd; infer_instance
/-- The blocks behind a deed; the writes; what is told. -/
def wL (L : List (List UInt8)) (x : Dd) : List (List UInt8) := if okd L x then L.set x.n.toNat x.bytes else L
def wW (L : List (List UInt8)) (W : List (Int × List UInt8)) (x : Dd) : List (Int × List UInt8) := if okd L x then W ++ [(x.n, L.getD x.n.toNat [])] else W
def wE (L : List (List UInt8)) (x : Dd) : Int := if x.n < 0 ∨ (L.length : Int) ≤ x.n then 2 else if x.size = 256 then 0 else 3
theorem wL_length (L : List (List UInt8)) (x : Dd) : (wL L x).length = L.length := by unfold wL; split <;> simp
theorem wW_length (L : List (List UInt8)) (W : List (Int × List UInt8)) (x : Dd) : (wW L W x).length ≤ W.length + 1 := by unfold wW; split <;> simp
theorem Wf.step {L : List (List UInt8)} {W : List (Int × List UInt8)} (h : Wf L W) (x : Dd) : Wf (wL L x) (wW L W x) := by
  unfold wL wW
  by_cases hx : okd L x
  · simp only [hx, if_true]
    obtain ⟨h1, h2, h3⟩ := hx
    refine ⟨by simp; exact h.pos, by simp; exact h.le, fun l hl => ?_, fun p hp => ?_⟩
    · rcases List.mem_or_eq_of_mem_set hl with hl | rfl
      · exact h.l l hl
      · rw [x.bytes_length]; exact h3
    · rw [List.length_set]
      rcases List.mem_append.1 hp with hp | hp
      · exact h.w p hp
      · simp at hp; subst hp
        refine ⟨h1, h2, ?_⟩
        have : x.n.toNat < L.length := by omega
        simp only [List.getElem?_eq_getElem this, Option.getD_some]
        exact h.l _ (List.getElem_mem _)
  · simp only [hx, if_false]
    exact h

theorem Write_any {d : Nat} {L : List (List UInt8)} {W : List (Int × List UInt8)} (h : sat E w H) [s : DskS H d L W R] (x : Dd) {v : Value} (hW : W.length ≤ 1000000) (hv : Rds R v x.bytes.length (x.bytes.map bv))
    (k : ∀ w', sat E w' (dsk d (wL L x) (wW L W x) * R) → K (.int .i64 (wE L x)) w') : Calls prog 16 #[.pointer (some ⟨d, 0, none⟩), .int .i64 x.n, v] w (Ret K) := by
  by_cases h1 : x.n < 0 ∨ (L.length : Int) ≤ x.n
  · refine Write_range h h1 ?_
    have hx : ¬ okd L x := by unfold okd; omega
    have := k w (by simpa [wL, wW, hx] using h.dsks d)
    simpa [wE, h1] using this
  · obtain ⟨n, hn⟩ := Int.eq_ofNat_of_zero_le (show 0 ≤ x.n by omega)
    by_cases h2 : x.size = 256
    · have hx : okd L x := ⟨by omega, by omega, h2⟩
      rw [hn]
      refine Write_spec h (l := x.bytes) (by omega) (by rw [x.bytes_length]; exact h2) hW hv fun w' h' => ?_
      have := k w' (by
        have hnl : n < L.length := by omega
        simpa [wL, wW, hx, hn, List.getElem?_eq_getElem hnl] using h')
      have h1' : ¬ (x.n < 0 ∨ (L.length : Int) ≤ x.n) := h1
      simpa [wE, h1', h2] using this
    · have hx : ¬ okd L x := by unfold okd; omega
      obtain ⟨a, c, rfl, _, _, _⟩ := hv.shape (h.dsks d).drop
      rw [hn]
      refine Write_form h (by omega) (by rw [x.bytes_length]; exact h2) ?_
      have := k w (by simpa [wL, wW, hx] using h.dsks d)
      have h1' : ¬ (x.n < 0 ∨ (L.length : Int) ≤ x.n) := h1
      simpa [wE, h1', h2] using this

theorem swap_L (L : List (List UInt8)) (x y : Dd) (h : x.n ≠ y.n) : wL (wL L x) y = wL (wL L y) x := by
  have e1 : okd (wL L x) y ↔ okd L y := by unfold okd; rw [wL_length]
  have e2 : okd (wL L y) x ↔ okd L x := by unfold okd; rw [wL_length]
  unfold wL at e1 e2 ⊢
  by_cases h1 : okd L x <;> by_cases h2 : okd L y <;> simp [h1, h2] at e1 e2 ⊢ <;> simp [e1, e2]
  rw [List.set_comm _ _ (by unfold okd at h1 h2; omega)]
theorem swap_W (L : List (List UInt8)) (x y : Dd) : (wW (wL L x) (wW L [] x) y).length = (wW (wL L y) (wW L [] y) x).length := by
  have e1 : okd (wL L x) y ↔ okd L y := by unfold okd; rw [wL_length]
  have e2 : okd (wL L y) x ↔ okd L x := by unfold okd; rw [wL_length]
  unfold wW
  by_cases h1 : okd L x <;> by_cases h2 : okd L y <;> simp [h1, h2, e1, e2]

theorem Swaps_spec (h : sat E w H) (x y : Dd) (k : ∀ w', sat E w' H → K (.bool true) w') : Calls prog 6 #[x.val, y.val] w (Ret K) := by
  refine c6 ?_
  unfold B6
  refine box_sl h fun bx w h => ?_
  refine box_sl h fun b_y w h => ?_
  have h : sat E w (pts b_y (.cells [.int .i64 y.n, .int .i64 y.len, bv y.b].toArray 24 (0, 0)) * (pts bx (.cells [.int .i64 x.n, .int .i64 x.len, bv x.b].toArray 24 (0, 0)) * H)) := h
  refine New_spec h (n := 5) (by omega) (by omega) fun d1 w h => ?_
  simp only [↓o_nil, ↓o_field, ↓o_add, ↓o_sub, ↓o_mul, ↓o_lss, ↓o_leq, ↓o_gtr, ↓o_geq, ↓o_not, ↓o_pick, ↓o_eqInt, ↓o_neInt, ↓o_eqBool, ↓o_neBool, ↓o_eqPtr, ↓o_nePtr, ↓o_eqPtr', ↓o_eqSl, ↓o_neSl, ↓o_eqStr, ↓o_neStr, ↓o_len, ↓o_lenS, ↓o_min, ↓o_max, ↓o_extract, ↓o_convInt, ↓cd_true, ↓cd_false, ↓gate_tt, ↓gate_ff, ↓gate_tf, ↓gate_ft, ↓gate_undef, ↓pop_cons, ↓fin_nil, Option.isNone_none, Option.isNone_some, Bool.not_true, Bool.not_false, Nat.zero_add, decide_true, decide_false, if_true, if_false, Bool.false_eq_true, ↓reduceIte]
  refine New_spec h (n := 5) (by omega) (by omega) fun d2 w h => ?_
  simp only [↓o_nil, ↓o_field, ↓o_add, ↓o_sub, ↓o_mul, ↓o_lss, ↓o_leq, ↓o_gtr, ↓o_geq, ↓o_not, ↓o_pick, ↓o_eqInt, ↓o_neInt, ↓o_eqBool, ↓o_neBool, ↓o_eqPtr, ↓o_nePtr, ↓o_eqPtr', ↓o_eqSl, ↓o_neSl, ↓o_eqStr, ↓o_neStr, ↓o_len, ↓o_lenS, ↓o_min, ↓o_max, ↓o_extract, ↓o_convInt, ↓cd_true, ↓cd_false, ↓gate_tt, ↓gate_ff, ↓gate_tf, ↓gate_ft, ↓gate_undef, ↓pop_cons, ↓fin_nil, Option.isNone_none, Option.isNone_some, Bool.not_true, Bool.not_false, Nat.zero_add, decide_true, decide_false, if_true, if_false, Bool.false_eq_true, ↓reduceIte]
  refine live_spec h fun w h => ?_
  simp only [↓o_nil, ↓o_field, ↓o_add, ↓o_sub, ↓o_mul, ↓o_lss, ↓o_leq, ↓o_gtr, ↓o_geq, ↓o_not, ↓o_pick, ↓o_eqInt, ↓o_neInt, ↓o_eqBool, ↓o_neBool, ↓o_eqPtr, ↓o_nePtr, ↓o_eqPtr', ↓o_eqSl, ↓o_neSl, ↓o_eqStr, ↓o_neStr, ↓o_len, ↓o_lenS, ↓o_min, ↓o_max, ↓o_extract, ↓o_convInt, ↓cd_true, ↓cd_false, ↓gate_tt, ↓gate_ff, ↓gate_tf, ↓gate_ft, ↓gate_undef, ↓pop_cons, ↓fin_nil, Option.isNone_none, Option.isNone_some, Bool.not_true, Bool.not_false, Nat.zero_add, decide_true, decide_false, if_true, if_false, Bool.false_eq_true, ↓reduceIte]
  refine dr_sl h fun w h _ => ?_
  refine ld_at h ?_
  refine ld_agg h rfl ?_
  refine bytes_spec h x fun v1 w h => ?_
  refine st_at h ?_
  refine Write_any h x (by simp) Rds.own fun w h => ?_
  refine st_agg h rfl ?_
  refine dr_sl h fun w h _ => ?_
  refine ld_at h ?_
  refine ld_agg h rfl ?_
  refine bytes_spec h y fun v2 w h => ?_
  refine st_at h ?_
  refine Write_any h y (Nat.le_trans (wW_length _ _ _) (by simp)) Rds.own fun w h => ?_
  refine st_agg h rfl ?_
  refine dr_sl h fun w h _ => ?_
  refine ld_at h ?_
  refine ld_agg h rfl ?_
  refine bytes_spec h y fun v3 w h => ?_
  refine st_at h ?_
  refine Write_any h y (by simp) Rds.own fun w h => ?_
  refine st_agg h rfl ?_
  refine dr_sl h fun w h _ => ?_
  refine ld_at h ?_
  refine ld_agg h rfl ?_
  refine bytes_spec h x fun v4 w h => ?_
  refine st_at h ?_
  refine Write_any h x (Nat.le_trans (wW_length _ _ _) (by simp)) Rds.own fun w h => ?_
  refine st_agg h rfl ?_
  refine ld_at h ?_
  refine ld_at h ?_
  by_cases hxy : x.n = y.n
  · simp only [hxy, ↓o_nil, ↓o_field, ↓o_add, ↓o_sub, ↓o_mul, ↓o_lss, ↓o_leq, ↓o_gtr, ↓o_geq, ↓o_not, ↓o_pick, ↓o_eqInt, ↓o_neInt, ↓o_eqBool, ↓o_neBool, ↓o_eqPtr, ↓o_nePtr, ↓o_eqPtr', ↓o_eqSl, ↓o_neSl, ↓o_eqStr, ↓o_neStr, ↓o_len, ↓o_lenS, ↓o_min, ↓o_max, ↓o_extract, ↓o_convInt, ↓cd_true, ↓cd_false, ↓gate_tt, ↓gate_ff, ↓gate_tf, ↓gate_ft, ↓gate_undef, ↓pop_cons, ↓fin_nil, Option.isNone_none, Option.isNone_some, Bool.not_true, Bool.not_false, Nat.zero_add, decide_true, decide_false, if_true, if_false, Bool.false_eq_true, ↓reduceIte]
    exact k w (h.split H).drop'
  · simp only [hxy, ↓o_nil, ↓o_field, ↓o_add, ↓o_sub, ↓o_mul, ↓o_lss, ↓o_leq, ↓o_gtr, ↓o_geq, ↓o_not, ↓o_pick, ↓o_eqInt, ↓o_neInt, ↓o_eqBool, ↓o_neBool, ↓o_eqPtr, ↓o_nePtr, ↓o_eqPtr', ↓o_eqSl, ↓o_neSl, ↓o_eqStr, ↓o_neStr, ↓o_len, ↓o_lenS, ↓o_min, ↓o_max, ↓o_extract, ↓o_convInt, ↓cd_true, ↓cd_false, ↓gate_tt, ↓gate_ff, ↓gate_tf, ↓gate_ft, ↓gate_undef, ↓pop_cons, ↓fin_nil, Option.isNone_none, Option.isNone_some, Bool.not_true, Bool.not_false, Nat.zero_add, decide_true, decide_false, if_true, if_false, Bool.false_eq_true, ↓reduceIte]
    refine Same_spec h (by simp [wL_length]) fun w h => ?_
    rw [swap_L _ _ _ hxy]
    simp only [↓o_nil, ↓o_field, ↓o_add, ↓o_sub, ↓o_mul, ↓o_lss, ↓o_leq, ↓o_gtr, ↓o_geq, ↓o_not, ↓o_pick, ↓o_eqInt, ↓o_neInt, ↓o_eqBool, ↓o_neBool, ↓o_eqPtr, ↓o_nePtr, ↓o_eqPtr', ↓o_eqSl, ↓o_neSl, ↓o_eqStr, ↓o_neStr, ↓o_len, ↓o_lenS, ↓o_min, ↓o_max, ↓o_extract, ↓o_convInt, ↓cd_true, ↓cd_false, ↓gate_tt, ↓gate_ff, ↓gate_tf, ↓gate_ft, ↓gate_undef, ↓pop_cons, ↓fin_nil, Option.isNone_none, Option.isNone_some, Bool.not_true, Bool.not_false, Nat.zero_add, decide_true, decide_false, if_true, if_false, Bool.false_eq_true, ↓reduceIte]
    refine Count_spec h ?_
    refine Count_spec h ?_
    simp only [swap_W, ↓o_nil, ↓o_field, ↓o_add, ↓o_sub, ↓o_mul, ↓o_lss, ↓o_leq, ↓o_gtr, ↓o_geq, ↓o_not, ↓o_pick, ↓o_eqInt, ↓o_neInt, ↓o_eqBool, ↓o_neBool, ↓o_eqPtr, ↓o_nePtr, ↓o_eqPtr', ↓o_eqSl, ↓o_neSl, ↓o_eqStr, ↓o_neStr, ↓o_len, ↓o_lenS, ↓o_min, ↓o_max, ↓o_extract, ↓o_convInt, ↓cd_true, ↓cd_false, ↓gate_tt, ↓gate_ff, ↓gate_tf, ↓gate_ft, ↓gate_undef, ↓pop_cons, ↓fin_nil, Option.isNone_none, Option.isNone_some, Bool.not_true, Bool.not_false, Nat.zero_add, decide_true, decide_false, if_true, if_false, Bool.false_eq_true, ↓reduceIte]
    exact k w (h.split H).drop'
end Go.Proofs.Yteplajobjlehlaa
