/-
  Deeds, played on both disks.
-/
import Derived.Test.YteplajobjlehlaaBlkT
set_option linter.all false
set_option maxRecDepth 10000
namespace Go.Proofs.Yteplajobjlehlaa
open Go Hold
variable {E : World0} {w : World} {H R : HP} {K : Value → World → Prop}

/-- Blocks of noughts. -/
def Z (n : Nat) : List (List UInt8) := List.replicate n zeros
/-- What holds of both disks, whatever was written. -/
structure Inv (n : Nat) (L : List (List UInt8)) (W V : List (Int × List UInt8)) : Prop where
  wf : Wf L W
  len : L.length = n
  vlen : V.length = W.length
  fst : V.map (·.1) = W.map (·.1)
  wfv : Wf (Z n) V
  und : ∀ k, k ≤ W.length → undo L (W.drop k) = redo (Z n) (V.take k)
def wV (F : List (List UInt8)) (V : List (Int × List UInt8)) (x : Dd) : List (Int × List UInt8) := if okd F x then V ++ [(x.n, x.bytes)] else V

theorem Inv.start {n : Nat} (h1 : 1 ≤ n) (h2 : n ≤ 1024) : Inv n (Z n) [] [] := by
  have hw : Wf (Z n) [] := ⟨by simpa [Z] using h1, by simpa [Z] using h2, fun l hl => by rw [List.eq_of_mem_replicate hl]; rfl, fun p hp => by simp at hp⟩
  refine ⟨hw, by simp [Z], rfl, rfl, hw, fun k hk => ?_⟩
  simp [undo, redo]
theorem undo_snoc (L : List (List UInt8)) (W : List (Int × List UInt8)) (p : Int × List UInt8) : undo L (W ++ [p]) = undo (L.set p.1.toNat p.2) W := by simp [undo]
theorem Inv.step {n : Nat} {L : List (List UInt8)} {W V : List (Int × List UInt8)} (h : Inv n L W V) (x : Dd) : Inv n (wL L x) (wW L W x) (wV (Z n) V x) := by
  have e : okd (Z n) x ↔ okd L x := by unfold okd; rw [h.len]; simp [Z]
  have hwf := h.wf.step x
  unfold wL wW wV at *
  by_cases hx : okd L x
  · have hz := e.2 hx
    simp only [hx, hz, if_true] at hwf ⊢
    obtain ⟨x1, x2, x3⟩ := hx
    have hxl : x.n.toNat < L.length := by omega
    refine ⟨hwf, by simp [h.len], by simp [h.vlen], by simp [h.fst], ⟨h.wfv.pos, h.wfv.le, h.wfv.l, fun p hp => ?_⟩, fun k hk => ?_⟩
    · rcases List.mem_append.1 hp with hp | hp
      · exact h.wfv.w p hp
      · simp at hp; subst hp
        refine ⟨x1, by have := h.len; simp [Z]; omega, by rw [x.bytes_length]; exact x3⟩
    · simp only [List.length_append, List.length_cons, List.length_nil, Nat.zero_add] at hk
      rcases Nat.lt_or_ge W.length k with hlt | hle
      · have hk : k = W.length + 1 := by omega
        subst hk
        have h0 := h.und W.length (Nat.le_refl _)
        rw [List.drop_of_length_le (by simp)]
        rw [List.take_of_length_le (by simp [h.vlen])]
        rw [redo_snoc]
        rw [List.drop_length, ← h.vlen, List.take_length] at h0
        simp only [undo, List.foldr_nil] at h0 ⊢
        rw [h0]
      · rw [List.drop_append_of_le_length hle, undo_snoc, List.take_append_of_le_length (by rw [h.vlen]; exact hle), ← h.und k hle]
        congr 1
        simp only [List.set_set]
        rw [List.getD_eq_getElem?_getD, List.getElem?_eq_getElem hxl]
        simp
  · have hz : ¬ okd (Z n) x := fun hz => hx (e.1 hz)
    simp only [hx, hz, if_false]
    exact h

theorem rWrite_any {d : Nat} {L : List (List UInt8)} {W : List (Int × List UInt8)} (h : sat E w H) [s : RdkS H d L W R] (x : Dd) {v : Value} (hW : W.length ≤ 1000000) (hv : Rds R v x.bytes.length (x.bytes.map bv))
    (k : ∀ w', sat E w' (rdsk d L (wV L W x) * R) → K (.int .i64 (wE L x)) w') : Calls prog 39 #[.pointer (some ⟨d, 0, none⟩), .int .i64 x.n, v] w (Ret K) := by
  by_cases h1 : x.n < 0 ∨ (L.length : Int) ≤ x.n
  · refine rWrite_range h h1 ?_
    have hx : ¬ okd L x := by unfold okd; omega
    have := k w (by simpa [wV, hx] using h.rdks d)
    simpa [wE, h1] using this
  · obtain ⟨n, hn⟩ := Int.eq_ofNat_of_zero_le (show 0 ≤ x.n by omega)
    by_cases h2 : x.size = 256
    · have hx : okd L x := ⟨by omega, by omega, h2⟩
      rw [hn]
      refine rWrite_spec h (l := x.bytes) (by omega) (by rw [x.bytes_length]; exact h2) hW hv fun w' h' => ?_
      have := k w' (by simpa [wV, hx, hn] using h')
      have h1' : ¬ (x.n < 0 ∨ (L.length : Int) ≤ x.n) := h1
      simpa [wE, h1', h2] using this
    · have hx : ¬ okd L x := by unfold okd; omega
      obtain ⟨a, c, rfl, _, _, _⟩ := hv.shape (h.rdks d).drop
      rw [hn]
      refine rWrite_form h (by omega) (by rw [x.bytes_length]; exact h2) ?_
      have := k w (by simpa [wV, hx] using h.rdks d)
      have h1' : ¬ (x.n < 0 ∨ (L.length : Int) ≤ x.n) := h1
      simpa [wE, h1', h2] using this

/-- The cells of deeds. -/
def dcells (ds : List Dd) : List Value := ds.flatMap fun x => [.int .i64 x.n, .int .i64 x.len, bv x.b]
theorem dcells_get : ∀ (ds : List Dd) (j : Nat) (hj : j < ds.length), (dcells ds)[j * 3]? = some (.int .i64 ds[j].n) ∧ (dcells ds)[j * 3 + 1]? = some (.int .i64 ds[j].len) ∧ (dcells ds)[j * 3 + 2]? = some (bv ds[j].b)
  | [], j, hj => by simp at hj
  | x :: r, 0, hj => by simp [dcells]
  | x :: r, j + 1, hj => by
    have := dcells_get r j (by simpa using hj)
    have e : dcells (x :: r) = .int .i64 x.n :: .int .i64 x.len :: bv x.b :: dcells r := by simp [dcells]
    rw [e, show (j + 1) * 3 = j * 3 + 1 + 1 + 1 by omega]
    simpa using this
theorem dcells_length (ds : List Dd) : (dcells ds).length = ds.length * 3 := by
  induction ds with
  | nil => rfl
  | cons x r ih => simp [dcells] at ih ⊢; omega
/-- A deed of the slice, loaded. -/
theorem ld_dd {lv : Value} {ds : List Dd} {b o c : Nat} (hw : win (hp w) (some ⟨b, o, none⟩) (dcells ds)) {i : Nat} (hi : i < ds.length) (k : K ds[i].val w) : ldv prog (Instr.loadAt 24 (.pointer (some ⟨b, o + i * 3, none⟩))) w K := by
  obtain ⟨g0, g1, g2⟩ := dcells_get ds i hi
  refine ldv_of (run_loadN (n := 3) (cs := [.int .i64 ds[i].n, .int .i64 ds[i].len, bv ds[i].b]) rfl ?_) k
  intro j v hj
  match j, hj with
  | 0, hj => simp at hj; subst hj; simpa using hw.cell b o rfl _ _ g0
  | 1, hj => simp at hj; subst hj; simpa [Nat.add_assoc] using hw.cell b o rfl _ _ g1
  | 2, hj => simp at hj; subst hj; simpa [Nat.add_assoc] using hw.cell b o rfl _ _ g2
  | j + 3, hj => simp at hj

theorem play_spec (h : sat E w H) {n : Nat} (h1 : 1 ≤ n) (h2 : n ≤ 1024) {lv : Value} {ds : List Dd} (hl : Rds H lv ds.length (dcells ds)) (hm : ds.length ≤ 9223372036854775807)
    (k : ∀ d r L W V w', Inv n L W V → W.length ≤ 40 → sat E w' (dsk d L W * (rdsk r (Z n) V * H)) → K (.tuple #[.pointer (some ⟨d, 0, none⟩), .pointer (some ⟨r, 0, none⟩), .bool true]) w') :
    Calls prog 12 #[.int .i64 n, lv] w (Ret K) := by
  obtain ⟨a, c, rfl, hc, hl, ha⟩ := hl.shape h
  refine c12 ?_
  unfold B12
  refine New_spec h (by omega) (by omega) fun d w h => ?_
  simp only [Int.toNat_natCast] at h
  simp only [↓o_nil, ↓o_field, ↓o_add, ↓o_sub, ↓o_mul, ↓o_lss, ↓o_leq, ↓o_gtr, ↓o_geq, ↓o_not, ↓o_pick, ↓o_eqInt, ↓o_neInt, ↓o_eqBool, ↓o_neBool, ↓o_eqPtr, ↓o_nePtr, ↓o_eqPtr', ↓o_eqSl, ↓o_neSl, ↓o_eqStr, ↓o_neStr, ↓o_len, ↓o_lenS, ↓o_min, ↓o_max, ↓o_extract, ↓o_convInt, ↓cd_true, ↓cd_false, ↓gate_tt, ↓gate_ff, ↓gate_tf, ↓gate_ft, ↓gate_undef, ↓pop_cons, ↓fin_nil, Option.isNone_none, Option.isNone_some, Bool.not_true, Bool.not_false, Nat.zero_add, decide_true, decide_false, if_true, if_false, Bool.false_eq_true, ↓reduceIte]
  refine rNew_spec h (by omega) (by omega) fun r w h => ?_
  simp only [Int.toNat_natCast] at h
  simp only [↓o_nil, ↓o_field, ↓o_add, ↓o_sub, ↓o_mul, ↓o_lss, ↓o_leq, ↓o_gtr, ↓o_geq, ↓o_not, ↓o_pick, ↓o_eqInt, ↓o_neInt, ↓o_eqBool, ↓o_neBool, ↓o_eqPtr, ↓o_nePtr, ↓o_eqPtr', ↓o_eqSl, ↓o_neSl, ↓o_eqStr, ↓o_neStr, ↓o_len, ↓o_lenS, ↓o_min, ↓o_max, ↓o_extract, ↓o_convInt, ↓cd_true, ↓cd_false, ↓gate_tt, ↓gate_ff, ↓gate_tf, ↓gate_ft, ↓gate_undef, ↓pop_cons, ↓fin_nil, Option.isNone_none, Option.isNone_some, Bool.not_true, Bool.not_false, Nat.zero_add, decide_true, decide_false, if_true, if_false, Bool.false_eq_true, ↓reduceIte, Option.isNone_some, bne_self_eq_false, Bool.not_true, beq_self_eq_true]
  refine lp_nat (fun m σ w => ∃ (i : Nat) (L : List (List UInt8)) (W V : List (Int × List UInt8)), σ = [.int .i64 i] ∧ m = 40 - i ∧ i ≤ 40 ∧ W.length ≤ i ∧ Inv n L W V ∧
    sat E w (dsk d L W * (rdsk r (Z n) V * H))) 40 ⟨0, Z n, [], [], rfl, rfl, by omega, by simp, Inv.start h1 h2, ?_⟩ ?_
  · exact h.perm (star_left_comm _ _ _)
  rintro m σ w again ⟨i, L, W, V, rfl, rfl, hi, hWi, inv, h⟩ hag
  simp only [↓o_nil, ↓o_field, ↓o_add, ↓o_sub, ↓o_mul, ↓o_lss, ↓o_leq, ↓o_gtr, ↓o_geq, ↓o_not, ↓o_pick, ↓o_eqInt, ↓o_neInt, ↓o_eqBool, ↓o_neBool, ↓o_eqPtr, ↓o_nePtr, ↓o_eqPtr', ↓o_eqSl, ↓o_neSl, ↓o_eqStr, ↓o_neStr, ↓o_len, ↓o_lenS, ↓o_min, ↓o_max, ↓o_extract, ↓o_convInt, ↓cd_true, ↓cd_false, ↓gate_tt, ↓gate_ff, ↓gate_tf, ↓gate_ft, ↓gate_undef, ↓pop_cons, ↓fin_nil, Option.isNone_none, Option.isNone_some, Bool.not_true, Bool.not_false, Nat.zero_add, decide_true, decide_false, if_true, if_false, Bool.false_eq_true, ↓reduceIte]
  by_cases hlt : (i : Int) < (ds.length : Nat)
  · simp only [hlt, ↓o_nil, ↓o_field, ↓o_add, ↓o_sub, ↓o_mul, ↓o_lss, ↓o_leq, ↓o_gtr, ↓o_geq, ↓o_not, ↓o_pick, ↓o_eqInt, ↓o_neInt, ↓o_eqBool, ↓o_neBool, ↓o_eqPtr, ↓o_nePtr, ↓o_eqPtr', ↓o_eqSl, ↓o_neSl, ↓o_eqStr, ↓o_neStr, ↓o_len, ↓o_lenS, ↓o_min, ↓o_max, ↓o_extract, ↓o_convInt, ↓cd_true, ↓cd_false, ↓gate_tt, ↓gate_ff, ↓gate_tf, ↓gate_ft, ↓gate_undef, ↓pop_cons, ↓fin_nil, Option.isNone_none, Option.isNone_some, Bool.not_true, Bool.not_false, Nat.zero_add, decide_true, decide_false, if_true, if_false, Bool.false_eq_true, ↓reduceIte]
    refine cd_dec (fun h40 => ?_) (fun h40 => ?_)
    · have hlt : i < ds.length := by omega
      have hwin := hl.win h.drop.drop
      obtain ⟨b, o, rfl, _⟩ := win_cell hwin (j := i * 3) (by rw [dcells_length]; omega)
      rw [o_index (by omega) (by omega)]
      simp only [Int.toNat_natCast]
      refine ld_dd (lv := .bool true) (c := 0) hwin hlt ?_
      refine bytes_spec h ds[i] fun v w h => ?_
      refine dr_sl h fun w h _ => ?_
      rw [o_index (by omega) (by omega)]
      simp only [Int.toNat_natCast, ↓o_nil, ↓o_field, ↓o_add, ↓o_sub, ↓o_mul, ↓o_lss, ↓o_leq, ↓o_gtr, ↓o_geq, ↓o_not, ↓o_pick, ↓o_eqInt, ↓o_neInt, ↓o_eqBool, ↓o_neBool, ↓o_eqPtr, ↓o_nePtr, ↓o_eqPtr', ↓o_eqSl, ↓o_neSl, ↓o_eqStr, ↓o_neStr, ↓o_len, ↓o_lenS, ↓o_min, ↓o_max, ↓o_extract, ↓o_convInt, ↓cd_true, ↓cd_false, ↓gate_tt, ↓gate_ff, ↓gate_tf, ↓gate_ft, ↓gate_undef, ↓pop_cons, ↓fin_nil, Option.isNone_none, Option.isNone_some, Bool.not_true, Bool.not_false, Nat.zero_add, decide_true, decide_false, if_true, if_false, Bool.false_eq_true, ↓reduceIte]
      rw [o_index (by omega) (by omega)]
      simp only [Int.toNat_natCast, ↓o_nil, ↓o_field, ↓o_add, ↓o_sub, ↓o_mul, ↓o_lss, ↓o_leq, ↓o_gtr, ↓o_geq, ↓o_not, ↓o_pick, ↓o_eqInt, ↓o_neInt, ↓o_eqBool, ↓o_neBool, ↓o_eqPtr, ↓o_nePtr, ↓o_eqPtr', ↓o_eqSl, ↓o_neSl, ↓o_eqStr, ↓o_neStr, ↓o_len, ↓o_lenS, ↓o_min, ↓o_max, ↓o_extract, ↓o_convInt, ↓cd_true, ↓cd_false, ↓gate_tt, ↓gate_ff, ↓gate_tf, ↓gate_ft, ↓gate_undef, ↓pop_cons, ↓fin_nil, Option.isNone_none, Option.isNone_some, Bool.not_true, Bool.not_false, Nat.zero_add, decide_true, decide_false, if_true, if_false, Bool.false_eq_true, ↓reduceIte, Nat.add_zero]
      obtain ⟨g0, _, _⟩ := dcells_get ds i hlt
      have c0 := (hl.win h.drop.drop.drop).cell b o rfl _ _ g0
      refine ld_cell c0 ?_
      refine ld_cell c0 ?_
      refine Write_any h ds[i] (by omega) Rds.own fun w h => ?_
      have c0 := (hl.win ((h.split H).drop')).cell b o rfl _ _ g0
      refine st_cell c0 ?_
      refine rWrite_any h ds[i] (by rw [inv.vlen]; omega) Rds.own fun w h => ?_
      have c0 := (hl.win ((h.split H).drop')).cell b o rfl _ _ g0
      refine st_cell c0 ?_
      have ee : wE (Z n) ds[i] = wE L ds[i] := by unfold wE; rw [inv.len]; simp [Z]
      rw [ee]
      simp only [↓o_nil, ↓o_field, ↓o_add, ↓o_sub, ↓o_mul, ↓o_lss, ↓o_leq, ↓o_gtr, ↓o_geq, ↓o_not, ↓o_pick, ↓o_eqInt, ↓o_neInt, ↓o_eqBool, ↓o_neBool, ↓o_eqPtr, ↓o_nePtr, ↓o_eqPtr', ↓o_eqSl, ↓o_neSl, ↓o_eqStr, ↓o_neStr, ↓o_len, ↓o_lenS, ↓o_min, ↓o_max, ↓o_extract, ↓o_convInt, ↓cd_true, ↓cd_false, ↓gate_tt, ↓gate_ff, ↓gate_tf, ↓gate_ft, ↓gate_undef, ↓pop_cons, ↓fin_nil, Option.isNone_none, Option.isNone_some, Bool.not_true, Bool.not_false, Nat.zero_add, decide_true, decide_false, if_true, if_false, Bool.false_eq_true, ↓reduceIte]
      have hs := ds[i].size_le
      have hbl := ds[i].bytes_length
      obtain ⟨av, cv, rfl, hcv, _, hav⟩ := osl_shape (h.owns v)
      refine lp_nat (fun m σ w => ∃ (j : Nat) (xs : List Value), σ = [.int .i64 j] ∧ m = ds[i].bytes.length - j ∧ j ≤ ds[i].bytes.length ∧
        sat E w (osl 5 1 (.slice av ds[i].bytes.length cv) ds[i].bytes.length xs * (dsk d (wL L ds[i]) (wW L W ds[i]) * (rdsk r (Z n) (wV (Z n) V ds[i]) * H)))) ds[i].bytes.length ⟨0, _, rfl, rfl, by omega, h.perm (by ac_rfl)⟩ ?_
      rintro m σ w again2 ⟨j, xs, rfl, rfl, hj, h⟩ hag2
      simp only [↓o_nil, ↓o_field, ↓o_add, ↓o_sub, ↓o_mul, ↓o_lss, ↓o_leq, ↓o_gtr, ↓o_geq, ↓o_not, ↓o_pick, ↓o_eqInt, ↓o_neInt, ↓o_eqBool, ↓o_neBool, ↓o_eqPtr, ↓o_nePtr, ↓o_eqPtr', ↓o_eqSl, ↓o_neSl, ↓o_eqStr, ↓o_neStr, ↓o_len, ↓o_lenS, ↓o_min, ↓o_max, ↓o_extract, ↓o_convInt, ↓cd_true, ↓cd_false, ↓gate_tt, ↓gate_ff, ↓gate_tf, ↓gate_ft, ↓gate_undef, ↓pop_cons, ↓fin_nil, Option.isNone_none, Option.isNone_some, Bool.not_true, Bool.not_false, Nat.zero_add, decide_true, decide_false, if_true, if_false, Bool.false_eq_true, ↓reduceIte]
      refine cd_dec (fun hjl => ?_) (fun hjl => ?_)
      · have hjl : j < ds[i].bytes.length := by omega
        obtain ⟨bb, rfl⟩ := hav (by omega)
        rw [o_index (by omega) (by omega)]
        simp only [Int.toNat_natCast, Nat.mul_one, Nat.zero_add]
        refine osl_store h (c := cv) hjl rfl fun w h => ?_
        rw [i64_of (by omega) (by omega)]
        exact hag2 _ _ _ (by omega) ⟨j + 1, _, rfl, rfl, by omega, h⟩
      · rw [i64_of (by omega) (by omega)]
        exact hag _ _ _ (by omega) ⟨i + 1, _, _, _, rfl, rfl, by omega, Nat.le_trans (wW_length _ _ _) (by omega), inv.step ds[i], h.drop⟩
    · exact k d r L W V w inv (by omega) h
  · simp only [hlt, ↓o_nil, ↓o_field, ↓o_add, ↓o_sub, ↓o_mul, ↓o_lss, ↓o_leq, ↓o_gtr, ↓o_geq, ↓o_not, ↓o_pick, ↓o_eqInt, ↓o_neInt, ↓o_eqBool, ↓o_neBool, ↓o_eqPtr, ↓o_nePtr, ↓o_eqPtr', ↓o_eqSl, ↓o_neSl, ↓o_eqStr, ↓o_neStr, ↓o_len, ↓o_lenS, ↓o_min, ↓o_max, ↓o_extract, ↓o_convInt, ↓cd_true, ↓cd_false, ↓gate_tt, ↓gate_ff, ↓gate_tf, ↓gate_ft, ↓gate_undef, ↓pop_cons, ↓fin_nil, Option.isNone_none, Option.isNone_some, Bool.not_true, Bool.not_false, Nat.zero_add, decide_true, decide_false, if_true, if_false, Bool.false_eq_true, ↓reduceIte]
    exact k d r L W V w inv (by omega) h
end Go.Proofs.Yteplajobjlehlaa
