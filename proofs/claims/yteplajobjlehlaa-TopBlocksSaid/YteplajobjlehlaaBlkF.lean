/-
  Cuts.
-/
import Derived.Test.YteplajobjlehlaaBlkE
set_option linter.all false
set_option maxRecDepth 10000
namespace Go.Proofs.Yteplajobjlehlaa
open Go Hold
variable {E : World0} {w : World} {H R : HP} {K : Value → World → Prop}

/-- What a disk holds. -/
structure Wf (L : List (List UInt8)) (W : List (Int × List UInt8)) : Prop where
  pos : 1 ≤ L.length
  le : L.length ≤ 1024
  l : ∀ l ∈ L, l.length = 256
  w : ∀ p ∈ W, 0 ≤ p.1 ∧ p.1 < L.length ∧ p.2.length = 256

theorem wcells_get : ∀ (ws : List (Int × Value)) (j : Nat) (hj : j < ws.length), (wcells ws)[j * 2]? = some (.int .i64 ws[j].1) ∧ (wcells ws)[j * 2 + 1]? = some ws[j].2
  | [], j, hj => by simp at hj
  | x :: r, 0, hj => by simp [wcells]
  | x :: r, j + 1, hj => by
    have := wcells_get r j (by simpa using hj)
    have e : wcells (x :: r) = .int .i64 x.1 :: x.2 :: wcells r := by simp [wcells]
    rw [e, show (j + 1) * 2 = j * 2 + 1 + 1 by omega]
    simpa using this
theorem wcells_drop : ∀ (ws : List (Int × Value)) (k : Nat), wcells (ws.drop k) = (wcells ws).drop (k * 2)
  | ws, 0 => by simp
  | [], k + 1 => by simp [wcells]
  | x :: r, k + 1 => by
    have e : wcells (x :: r) = .int .i64 x.1 :: x.2 :: wcells r := by simp [wcells]
    rw [e, show (k + 1) * 2 = k * 2 + 1 + 1 by omega]
    simpa using wcells_drop r k

/-- The rounds of Backward. -/
theorem Back_spec (G : Nat → HP) {m : Nat} {us : List (Int × Value)} (hm : us.length = m) (hm2 : m ≤ 1000000) {x : Nat} {sv y : Value} (h : sat E w (G m))
    (hG : ∀ j {w : World}, sat E w (G j) → w.heap[x]? = some (.cells #[sv] 72 (0, 0))) (hr : ∀ j, Rds (G j) sv m (wcells us))
    (hy : ∀ (j : Nat) (hj : j < m) (w : World) (K' : Value → World → Prop), sat E w (G (j + 1)) → (∀ w', sat E w' (G j) → K' (.bool true) w') → ef prog (oCall y #[.int .i64 j, .agg #[.int .i64 (us[j]'(by omega)).1, (us[j]'(by omega)).2]]) w K')
    (k : ∀ w', sat E w' (G 0) → K (.tuple #[]) w') : Calls prog 57 #[y, .pointer (some ⟨x, 0, none⟩)] w (Ret K) := by
  have hr0 := hr
  obtain ⟨a, c, rfl, hc, _, ha⟩ := (hr m).shape h
  refine c57 ?_
  unfold B57
  refine ld_cell (v := .slice a m c) (cell_of (hG m h) rfl) ?_
  simp only [↓o_nil, ↓o_field, ↓o_add, ↓o_sub, ↓o_mul, ↓o_lss, ↓o_leq, ↓o_gtr, ↓o_geq, ↓o_not, ↓o_pick, ↓o_eqInt, ↓o_neInt, ↓o_eqBool, ↓o_neBool, ↓o_eqPtr, ↓o_nePtr, ↓o_eqPtr', ↓o_eqSl, ↓o_neSl, ↓o_eqStr, ↓o_neStr, ↓o_len, ↓o_lenS, ↓o_min, ↓o_max, ↓o_extract, ↓o_convInt, ↓cd_true, ↓cd_false, ↓gate_tt, ↓gate_ff, ↓gate_tf, ↓gate_ft, ↓gate_undef, ↓pop_cons, ↓fin_nil, Option.isNone_none, Option.isNone_some, Bool.not_true, Bool.not_false, Nat.zero_add, decide_true, decide_false, if_true, if_false, Bool.false_eq_true, ↓reduceIte]
  refine lp_nat (fun n σ w => σ = [.int .i64 ((n : Int) - 1)] ∧ n ≤ m ∧ sat E w (G n)) m ⟨?_, Nat.le_refl _, h⟩ ?_
  · rw [i64_of (by omega) (by omega)]
  · rintro n σ w again ⟨rfl, hn, h⟩ hag
    simp only [↓o_nil, ↓o_field, ↓o_add, ↓o_sub, ↓o_mul, ↓o_lss, ↓o_leq, ↓o_gtr, ↓o_geq, ↓o_not, ↓o_pick, ↓o_eqInt, ↓o_neInt, ↓o_eqBool, ↓o_neBool, ↓o_eqPtr, ↓o_nePtr, ↓o_eqPtr', ↓o_eqSl, ↓o_neSl, ↓o_eqStr, ↓o_neStr, ↓o_len, ↓o_lenS, ↓o_min, ↓o_max, ↓o_extract, ↓o_convInt, ↓cd_true, ↓cd_false, ↓gate_tt, ↓gate_ff, ↓gate_tf, ↓gate_ft, ↓gate_undef, ↓pop_cons, ↓fin_nil, Option.isNone_none, Option.isNone_some, Bool.not_true, Bool.not_false, Nat.zero_add, decide_true, decide_false, if_true, if_false, Bool.false_eq_true, ↓reduceIte]
    refine cd_dec (fun hlt => ?_) (fun hge => ?_)
    · obtain ⟨j, rfl⟩ : ∃ j, n = j + 1 := ⟨n - 1, by omega⟩
      have e : ((j + 1 : Nat) : Int) - 1 = (j : Int) := by omega
      rw [e]
      have hlen := wcells_length us
      refine ld_cell (v := .slice a m c) (cell_of (hG _ h) rfl) ?_
      have hwin := (hr (j + 1)).win h
      obtain ⟨b, o, rfl, _⟩ := win_cell hwin (j := j * 2) (by omega)
      rw [o_index (by omega) (by omega)]
      simp only [Int.toNat_natCast]
      obtain ⟨g1, g2⟩ := wcells_get us j (by omega)
      have h1 := hwin.cell b o rfl _ _ g1
      have h2 := hwin.cell b o rfl _ _ g2
      refine ldv_of (run_loadN (n := 2) (cs := [.int .i64 us[j].1, us[j].2]) rfl ?_) ?_
      · intro i v hi
        match i, hi with
        | 0, hi => simp at hi; subst hi; exact h1
        | 1, hi => simp at hi; subst hi; exact h2
        | i + 2, hi => simp at hi
      refine hy j (by omega) w _ h fun w' h' => ?_
      simp only [↓o_nil, ↓o_field, ↓o_add, ↓o_sub, ↓o_mul, ↓o_lss, ↓o_leq, ↓o_gtr, ↓o_geq, ↓o_not, ↓o_pick, ↓o_eqInt, ↓o_neInt, ↓o_eqBool, ↓o_neBool, ↓o_eqPtr, ↓o_nePtr, ↓o_eqPtr', ↓o_eqSl, ↓o_neSl, ↓o_eqStr, ↓o_neStr, ↓o_len, ↓o_lenS, ↓o_min, ↓o_max, ↓o_extract, ↓o_convInt, ↓cd_true, ↓cd_false, ↓gate_tt, ↓gate_ff, ↓gate_tf, ↓gate_ft, ↓gate_undef, ↓pop_cons, ↓fin_nil, Option.isNone_none, Option.isNone_some, Bool.not_true, Bool.not_false, Nat.zero_add, decide_true, decide_false, if_true, if_false, Bool.false_eq_true, ↓reduceIte]
      rw [i64_of (by omega) (by omega)]
      exact hag j _ _ (by omega) ⟨rfl, by omega, h'⟩
    · have : n = 0 := by omega
      subst this
      exact k w h
/-- The blocks ahead of the writes from the k'th on. -/
def undo (L : List (List UInt8)) (W : List (Int × List UInt8)) : List (List UInt8) := W.foldr (fun p L => L.set p.1.toNat p.2) L
theorem undo_length (L : List (List UInt8)) : ∀ W, (undo L W).length = L.length
  | [] => rfl
  | p :: r => by
    have := undo_length L r
    simp [undo] at this ⊢; exact this

theorem Cut_nil {n : Value} (k : K (.tuple #[.pointer none, .int .i64 1]) w) : Calls prog 29 #[.pointer none, n] w (Ret K) := by
  refine c29 ?_
  unfold B29
  simp only [↓o_nil, ↓o_field, ↓o_add, ↓o_sub, ↓o_mul, ↓o_lss, ↓o_leq, ↓o_gtr, ↓o_geq, ↓o_not, ↓o_pick, ↓o_eqInt, ↓o_neInt, ↓o_eqBool, ↓o_neBool, ↓o_eqPtr, ↓o_nePtr, ↓o_eqPtr', ↓o_eqSl, ↓o_neSl, ↓o_eqStr, ↓o_neStr, ↓o_len, ↓o_lenS, ↓o_min, ↓o_max, ↓o_extract, ↓o_convInt, ↓cd_true, ↓cd_false, ↓gate_tt, ↓gate_ff, ↓gate_tf, ↓gate_ft, ↓gate_undef, ↓pop_cons, ↓fin_nil, Option.isNone_none, Option.isNone_some, Bool.not_true, Bool.not_false, Nat.zero_add, decide_true, decide_false, if_true, if_false, Bool.false_eq_true, ↓reduceIte]
  exact k
theorem Cut_range {d : Nat} {L : List (List UInt8)} {W : List (Int × List UInt8)} (h : sat E w H) [s : DskS H d L W R] {n : Int} (hn : n < 0 ∨ (W.length : Int) < n)
    (k : K (.tuple #[.pointer none, .int .i64 2]) w) : Calls prog 29 #[.pointer (some ⟨d, 0, none⟩), .int .i64 n] w (Ret K) := by
  obtain ⟨lv, vs, wv, ws, e, hd⟩ := sat_dsk.1 (h.dsks d)
  obtain ⟨a, c, rfl, hc, hl, ha⟩ := osl_shape hd.drop.drop
  refine c29 ?_
  unfold B29
  by_cases h1 : n < 0
  · simp only [↓o_nil, ↓o_field, ↓o_add, ↓o_sub, ↓o_mul, ↓o_lss, ↓o_leq, ↓o_gtr, ↓o_geq, ↓o_not, ↓o_pick, ↓o_eqInt, ↓o_neInt, ↓o_eqBool, ↓o_neBool, ↓o_eqPtr, ↓o_nePtr, ↓o_eqPtr', ↓o_eqSl, ↓o_neSl, ↓o_eqStr, ↓o_neStr, ↓o_len, ↓o_lenS, ↓o_min, ↓o_max, ↓o_extract, ↓o_convInt, ↓cd_true, ↓cd_false, ↓gate_tt, ↓gate_ff, ↓gate_tf, ↓gate_ft, ↓gate_undef, ↓pop_cons, ↓fin_nil, Option.isNone_none, Option.isNone_some, Bool.not_true, Bool.not_false, Nat.zero_add, decide_true, decide_false, if_true, if_false, Bool.false_eq_true, ↓reduceIte, h1]; exact k
  · have h2 : (W.length : Int) < n := by omega
    simp only [↓o_nil, ↓o_field, ↓o_add, ↓o_sub, ↓o_mul, ↓o_lss, ↓o_leq, ↓o_gtr, ↓o_geq, ↓o_not, ↓o_pick, ↓o_eqInt, ↓o_neInt, ↓o_eqBool, ↓o_neBool, ↓o_eqPtr, ↓o_nePtr, ↓o_eqPtr', ↓o_eqSl, ↓o_neSl, ↓o_eqStr, ↓o_neStr, ↓o_len, ↓o_lenS, ↓o_min, ↓o_max, ↓o_extract, ↓o_convInt, ↓cd_true, ↓cd_false, ↓gate_tt, ↓gate_ff, ↓gate_tf, ↓gate_ft, ↓gate_undef, ↓pop_cons, ↓fin_nil, Option.isNone_none, Option.isNone_some, Bool.not_true, Bool.not_false, Nat.zero_add, decide_true, decide_false, if_true, if_false, Bool.false_eq_true, ↓reduceIte, h1]
    refine ld_at hd ?_
    simp only [↓o_nil, ↓o_field, ↓o_add, ↓o_sub, ↓o_mul, ↓o_lss, ↓o_leq, ↓o_gtr, ↓o_geq, ↓o_not, ↓o_pick, ↓o_eqInt, ↓o_neInt, ↓o_eqBool, ↓o_neBool, ↓o_eqPtr, ↓o_nePtr, ↓o_eqPtr', ↓o_eqSl, ↓o_neSl, ↓o_eqStr, ↓o_neStr, ↓o_len, ↓o_lenS, ↓o_min, ↓o_max, ↓o_extract, ↓o_convInt, ↓cd_true, ↓cd_false, ↓gate_tt, ↓gate_ff, ↓gate_tf, ↓gate_ft, ↓gate_undef, ↓pop_cons, ↓fin_nil, Option.isNone_none, Option.isNone_some, Bool.not_true, Bool.not_false, Nat.zero_add, decide_true, decide_false, if_true, if_false, Bool.false_eq_true, ↓reduceIte, h2]
    exact k
theorem Cut_spec {d : Nat} {L : List (List UInt8)} {W : List (Int × List UInt8)} (h : sat E w H) [s : DskS H d L W R] (wf : Wf L W) (hW : W.length ≤ 1000000) {n : Nat} (hn : n ≤ W.length)
    (k : ∀ d' w', sat E w' (dsk d' (undo L (W.drop n)) [] * (dsk d L W * R)) → K (.tuple #[.pointer (some ⟨d', 0, none⟩), .int .i64 0]) w') : Calls prog 29 #[.pointer (some ⟨d, 0, none⟩), .int .i64 n] w (Ret K) := by
  obtain ⟨lv, vs, wv, ws, e, hd⟩ := sat_dsk.1 (h.dsks d)
  have hL2 : ws.length = W.length := by simpa using hd.drop.drop.drop.drop.pers_get.1
  obtain ⟨a, c, rfl, hc, hl, ha⟩ := osl_shape hd.drop.drop
  refine c29 ?_
  unfold B29
  have h1 : ¬ (n : Int) < 0 := by omega
  have h2 : ¬ (W.length : Int) < n := by omega
  simp only [↓o_nil, ↓o_field, ↓o_add, ↓o_sub, ↓o_mul, ↓o_lss, ↓o_leq, ↓o_gtr, ↓o_geq, ↓o_not, ↓o_pick, ↓o_eqInt, ↓o_neInt, ↓o_eqBool, ↓o_neBool, ↓o_eqPtr, ↓o_nePtr, ↓o_eqPtr', ↓o_eqSl, ↓o_neSl, ↓o_eqStr, ↓o_neStr, ↓o_len, ↓o_lenS, ↓o_min, ↓o_max, ↓o_extract, ↓o_convInt, ↓cd_true, ↓cd_false, ↓gate_tt, ↓gate_ff, ↓gate_tf, ↓gate_ft, ↓gate_undef, ↓pop_cons, ↓fin_nil, Option.isNone_none, Option.isNone_some, Bool.not_true, Bool.not_false, Nat.zero_add, decide_true, decide_false, if_true, if_false, Bool.false_eq_true, ↓reduceIte, h1]
  refine ld_at hd ?_
  simp only [↓o_nil, ↓o_field, ↓o_add, ↓o_sub, ↓o_mul, ↓o_lss, ↓o_leq, ↓o_gtr, ↓o_geq, ↓o_not, ↓o_pick, ↓o_eqInt, ↓o_neInt, ↓o_eqBool, ↓o_neBool, ↓o_eqPtr, ↓o_nePtr, ↓o_eqPtr', ↓o_eqSl, ↓o_neSl, ↓o_eqStr, ↓o_neStr, ↓o_len, ↓o_lenS, ↓o_min, ↓o_max, ↓o_extract, ↓o_convInt, ↓cd_true, ↓cd_false, ↓gate_tt, ↓gate_ff, ↓gate_tf, ↓gate_ft, ↓gate_undef, ↓pop_cons, ↓fin_nil, Option.isNone_none, Option.isNone_some, Bool.not_true, Bool.not_false, Nat.zero_add, decide_true, decide_false, if_true, if_false, Bool.false_eq_true, ↓reduceIte, h2]
  refine ld_at hd ?_
  refine copied_spec hd (rdd_of hd) wf.le (fun l hl => by rw [wf.l l hl]; omega) fun ov vs' w _ hd => ?_
  obtain ⟨ao, co, rfl, hco, hol, hoa⟩ := osl_shape hd
  refine alloc_sl hd fun ob w hd => ?_
  refine store_at hd (xs := [_]) rfl (by simp) fun w hd => ?_
  refine ld_at hd ?_
  rw [o_slice_l (by omega) (by omega)]
  simp only [Int.toNat_natCast]
  refine c46 ?_
  unfold B46
  refine box_sl hd fun xb w hd => ?_
  refine pvv_of (v := .func (.func 57) #[] #[.pointer (some ⟨xb, 0, none⟩)]) (fun _ => rfl) ?_
  refine rng_body hd Try.func57 (by kernel_rfl) (by kernel_rfl) fun rec D D1 w hd hround => ?_
  refine Back_spec (E := E) (fun j => (pts D1 (rec .ready none) * (pts D (.deferred (some [])) * (pts xb (.cells #[.slice (cutA a c n 2) (W.length - n) (c - n)] 72 (0, 0)) * (pts ob (.cells [Value.slice ao L.length co].toArray 30 (0, 0)) *
    (pts d (.cells [lv, .slice a W.length c, .int .i64 W.length].toArray 79 (0, 0)) * (osl 32 1 lv L.length vs * (osl 81 2 (.slice a W.length c) W.length (wcells ws) * (pers (immAll vs L) * (pers (immAll (ws.map (·.2)) (W.map (·.2))) * R))))))))) *
    ex fun us => osl 32 1 (.slice ao L.length co) L.length us * pers (immAll us (undo L ((W.drop n).drop j)))) (m := W.length - n) (us := ws.drop n) (by simp [hL2]) (by omega) (x := xb) (sv := .slice (cutA a c n 2) (W.length - n) (c - n)) ?_ ?_ ?_ ?_ ?_
  · rw [star_ex]
    refine sat_ex.2 ⟨vs', ?_⟩
    have : (W.drop n).drop (W.length - n) = [] := by simp; omega
    rw [this]
    exact hd.perm (by simp only [Value.cells]; ac_rfl)
  · intro j w h
    exact h.has
  · intro j E w h
    have hw := osl_rd (h.owns (.slice a W.length c))
    obtain ⟨a', c', e, hc', hw⟩ := hw
    cases e
    refine ⟨_, _, rfl, by omega, ?_⟩
    rw [wcells_drop]
    exact win_cut hw (fun hcn => by rw [wcells_length]; omega)
  · intro j hj w K' h hk
    rw [star_ex] at h
    obtain ⟨us, h⟩ := sat_ex.1 h
    have hj1 : n + j < ws.length := by omega
    have hj2 : n + j < W.length := by omega
    have e1 : (ws.drop n)[j]'(by simp; omega) = ws[n + j] := by simp
    have e2 : ws[n + j].1 = W[n + j].1 := by
      have := congrArg (fun l => l[n + j]?) e
      simp only [List.getElem?_map, List.getElem?_eq_getElem hj1, List.getElem?_eq_getElem hj2, Option.map_some, Option.some.injEq] at this
      exact this
    obtain ⟨w1, w2, w3⟩ := wf.w W[n + j] (List.getElem_mem hj2)
    have hrd : Rds (pers (immAll (ws.map (·.2)) (W.map (·.2)))) ws[n + j].2 W[n + j].2.length (W[n + j].2.map bv) :=
      immAll_rds (i := n + j) (by simp [List.getElem?_eq_getElem hj1]) (by simp [List.getElem?_eq_getElem hj2])
    obtain ⟨a2, c2, e3, hc2, hrd, _⟩ := hrd.shape (h.split (pers (immAll (ws.map (·.2)) (W.map (·.2))))).drop'
    obtain ⟨p, hp⟩ := Int.eq_ofNat_of_zero_le w1
    rw [e1, e2, e3, hp]
    have hpl : p < L.length := by omega
    refine hround [.int .i64 j, .agg #[.int .i64 p, .slice a2 W[n + j].2.length c2]] w K' rfl h.has ?_
    simp only [↓o_nil, ↓o_field, ↓o_add, ↓o_sub, ↓o_mul, ↓o_lss, ↓o_leq, ↓o_gtr, ↓o_geq, ↓o_not, ↓o_pick, ↓o_eqInt, ↓o_neInt, ↓o_eqBool, ↓o_neBool, ↓o_eqPtr, ↓o_nePtr, ↓o_eqPtr', ↓o_eqSl, ↓o_neSl, ↓o_eqStr, ↓o_neStr, ↓o_len, ↓o_lenS, ↓o_min, ↓o_max, ↓o_extract, ↓o_convInt, ↓cd_true, ↓cd_false, ↓gate_tt, ↓gate_ff, ↓gate_tf, ↓gate_ft, ↓gate_undef, ↓pop_cons, ↓fin_nil, Option.isNone_none, Option.isNone_some, Bool.not_true, Bool.not_false, Nat.zero_add, decide_true, decide_false, if_true, if_false, Bool.false_eq_true, ↓reduceIte]
    refine alloc_sl h fun wb w h => ?_
    have h : sat E w (pts wb (.cells [Value.int .i64 0, .slice none 0 0].toArray 81 (0, 0)) * _) := h
    refine storeN_sl (n := 2) h (by kernel_rfl) (vs := [.int .i64 p, .slice a2 W[n + j].2.length c2]) rfl rfl (by simp [Value.oneCell']) (by simp) fun w h => ?_
    simp only [List.take_zero, List.nil_append, List.length_cons, List.length_nil, List.drop_succ_cons, List.drop_zero, List.append_nil, Nat.zero_add] at h
    refine ⟨h.has, ?_⟩
    have h := (h.own D1).set (rec .busy none)
    refine dr_sl h fun w h _ => ?_
    simp only [↓o_nil, ↓o_field, ↓o_add, ↓o_sub, ↓o_mul, ↓o_lss, ↓o_leq, ↓o_gtr, ↓o_geq, ↓o_not, ↓o_pick, ↓o_eqInt, ↓o_neInt, ↓o_eqBool, ↓o_neBool, ↓o_eqPtr, ↓o_nePtr, ↓o_eqPtr', ↓o_eqSl, ↓o_neSl, ↓o_eqStr, ↓o_neStr, ↓o_len, ↓o_lenS, ↓o_min, ↓o_max, ↓o_extract, ↓o_convInt, ↓cd_true, ↓cd_false, ↓gate_tt, ↓gate_ff, ↓gate_tf, ↓gate_ft, ↓gate_undef, ↓pop_cons, ↓fin_nil, Option.isNone_none, Option.isNone_some, Bool.not_true, Bool.not_false, Nat.zero_add, decide_true, decide_false, if_true, if_false, Bool.false_eq_true, ↓reduceIte]
    refine ld_at h ?_
    refine ld_at h ?_
    refine ld_at h ?_
    refine Clone_spec h (v := .slice a2 W[n + j].2.length c2) (l := W[n + j].2) (Rds.under hrd) (by omega) fun v5 w h => ?_
    have h := osl_freeze h
    obtain ⟨a5, c5, rfl, hc5, _⟩ := h.pers_get
    refine st_at h ?_
    refine st_at h ?_
    obtain ⟨ob2, rfl⟩ := hoa (by omega)
    rw [o_index (by omega) (by omega)]
    simp only [Int.toNat_natCast, Nat.mul_one, Nat.zero_add]
    refine osl_store h (c := co) hpl rfl fun w h => ?_
    refine ⟨h.has, hk _ ?_⟩
    have h := (h.own D1).set (rec .ready none)
    rw [star_ex]
    refine sat_ex.2 ⟨us.set p (.slice a5 W[n + j].2.length c5), ?_⟩
    have eu : undo L ((W.drop n).drop j) = (undo L ((W.drop n).drop (j + 1))).set p W[n + j].2 := by
      have : (W.drop n).drop j = W[n + j] :: (W.drop n).drop (j + 1) := by
        rw [List.drop_drop, List.drop_drop, List.drop_eq_getElem_cons hj2]; rfl
      rw [this]
      simp [undo, hp]
    rw [eu]
    have h := sat_imp2 (h.lose wb) (immS (.slice a5 W[n + j].2.length c5) W[n + j].2.length (W[n + j].2.map bv)) (immAll us (undo L ((W.drop n).drop (j + 1))))
      (χ := immAll (us.set p (.slice a5 W[n + j].2.length c5)) ((undo L ((W.drop n).drop (j + 1))).set p W[n + j].2)) (fun I h1 h2 => immAll_set h2 h1)
    exact h.perm (by ac_rfl)
  · intro w h
    rw [star_ex] at h
    obtain ⟨us, h⟩ := sat_ex.1 h
    refine ⟨.ready, none, h.has, by simp, ?_⟩
    have h := (h.own D1).set (rec .exhausted none)
    simp only [jump]
    refine ld_at h ?_
    refine pvv_of (v := .agg #[.slice ao L.length co, .slice none 0 0, .int .i64 0]) (fun _ => by kernel_rfl) ?_
    refine box_sl h fun d2 w h => ?_
    have h : sat E w (pts d2 (.cells [Value.slice ao L.length co, .slice none 0 0, .int .i64 0].toArray 79 (0, 0)) * _) := h
    refine ⟨h.has, ?_⟩
    have h := (h.own D).set (.deferred none)
    refine k d2 _ ?_
    simp only [List.drop_zero] at h
    have h := dsk_shut d L W e (h.lose ob)
    have h := osl_nil h 81 2
    have h : sat E _ (pers (immAll (List.map (·.2) ([] : List (Int × Value))) (List.map (·.2) ([] : List (Int × List UInt8)))) * _) := immAll_nil h
    have h := dsk_shut' (lv := .slice ao L.length co) (wv := .slice none 0 0) (vs := us) (ws := []) d2 (undo L (W.drop n)) [] (undo_length L _).symm rfl h
    exact ((h.lose D).lose D1).lose xb
end Go.Proofs.Yteplajobjlehlaa
