/-
  The reference's rows.
-/
import Derived.Test.YtjeiojibnmfibaaGreatDoorNumOrd
set_option linter.all false
set_option maxRecDepth 10000
namespace Go.Proofs.YtjeiojibnmfibaaGreatDoor
open Go Hold
variable {E : World0} {w : World} {H R : HP} {K : Value → World → Prop}
theorem text_spec (h : sat E w H) {l : List UInt8} (hl : l.length = 32) (k : ∀ w', sat E w' H → K (tv l) w') : Calls prog 24 #[.agg (l.map bv).toArray] w (Ret K) := by
  refine c24 ?_
  unfold B24
  refine box_sl h fun b1 w h => ?_
  have h : sat E w (pts b1 (.cells (l.map bv).toArray 44 (0, 0)) * H) := h
  refine ld_agg (b := b1) h (by simpa using hl) ?_
  refine c40 ?_
  unfold B40
  refine box_sl h fun b2 w h => ?_
  have h : sat E w (pts b2 (.cells (l.map bv).toArray 44 (0, 0)) * (pts b1 (.cells (l.map bv).toArray 44 (0, 0)) * H)) := h
  refine ld_agg (b := b2) h (by simpa using hl) ?_
  refine bytesOf_spec h hl fun v w h => ?_
  refine conv_bs (l := l) (by rw [hl]; exact osl_rd h) ?_
  exact k _ h.drop.drop.drop
/-- The keys rise. -/
theorem keys_rise {s : Ch} {m : Nat} (ok : Ok s m) (hm : m ≤ 1000000000000000) (rs : Risen s) {l : List RV} (hl : l.map RV.said = rowsOf s) : ∀ (i : Nat) (x y : RV), l[i]? = some x → l[i + 1]? = some y → lexB x.key y.key = true := by
  intro i x y hx hy
  have := ok.top; have := ok.b0
  have hkx : ((rowsOf s)[i]?).map (·.1) = some x.key := by rw [← hl, List.getElem?_map, hx]; rfl
  have hky : ((rowsOf s)[i + 1]?).map (·.1) = some y.key := by rw [← hl, List.getElem?_map, hy]; rfl
  have hlen : (heads s).length = 4 := rfl
  unfold rowsOf at hkx hky
  by_cases h4 : i < 3
  · have : i = 0 ∨ i = 1 ∨ i = 2 := by omega
    rcases this with rfl | rfl | rfl
    all_goals
      simp [heads] at hkx hky
      rw [← hkx, ← hky]
      rfl
  · rw [List.getElem?_append_right (by omega), hlen, List.getElem?_map, Option.map_map] at hky
    obtain ⟨b, hb, eb⟩ := Option.map_eq_some_iff.1 hky
    have eb : 110 :: numT b.n = y.key := eb
    by_cases h5 : i = 3
    · subst h5
      simp [heads] at hkx
      rw [← hkx, ← eb]
      rfl
    · rw [List.getElem?_append_right (by omega), hlen, List.getElem?_map, Option.map_map] at hkx
      obtain ⟨a, ha, ea⟩ := Option.map_eq_some_iff.1 hkx
      have ea : 110 :: numT a.n = x.key := ea
      obtain ⟨na, _⟩ := rs.num _ _ ha
      obtain ⟨nb, _⟩ := rs.num _ _ hb
      have hla := (List.getElem?_eq_some_iff.1 ha).1
      have hlb := (List.getElem?_eq_some_iff.1 hb).1
      rw [← ea, ← eb]
      obtain ⟨ka, hka⟩ := Int.eq_ofNat_of_zero_le (show 0 ≤ a.n by omega)
      obtain ⟨kb, hkb⟩ := Int.eq_ofNat_of_zero_le (show 0 ≤ b.n by omega)
      have e : ∀ n : Nat, n ≤ 4611686018427387904 → numT (n : Int) = numText n := fun n hn => by
        unfold numT number
        rw [if_neg (by omega)]
        rfl
      rw [hka, hkb, e ka (by omega), e kb (by omega)]
      have := number_lex (a := ka) (b := kb) (by omega) (by omega)
      simp only [lexB, if_true, this, decide_eq_true_eq]
      omega
def φR (s : Ch) : Nat → Value → PP
  | 1, v => ppOf (v = tv s.ah)
  | 5, v => ppOf (v = tv s.bh)
  | 8, v => ppOf (v = tv s.hd)
  | 0, v => immS v 3 ([numT s.bn, numT s.an, numT s.last].map tv)
  | 3, v => immS v 1 ([s.ah].map tv)
  | 6, v => immS v 1 ([s.bh].map tv)
  | 9, v => immS v 1 ([s.hd].map tv)
  | 2, v => ⟨fun I => ∃ u, v = .agg (rvc ⟨[35], u, [numT s.bn, numT s.an, numT s.last]⟩).toArray ∧ RdS I u 3 ([numT s.bn, numT s.an, numT s.last].map tv), fun hI ⟨u, h1, h2⟩ => ⟨u, h1, h2.mono hI⟩⟩
  | 4, v => ⟨fun I => ∃ u, v = .agg (rvc ⟨[97], u, [s.ah]⟩).toArray ∧ RdS I u 1 ([s.ah].map tv), fun hI ⟨u, h1, h2⟩ => ⟨u, h1, h2.mono hI⟩⟩
  | 7, v => ⟨fun I => ∃ u, v = .agg (rvc ⟨[98], u, [s.bh]⟩).toArray ∧ RdS I u 1 ([s.bh].map tv), fun hI ⟨u, h1, h2⟩ => ⟨u, h1, h2.mono hI⟩⟩
  | 10, v => ⟨fun I => ∃ u, v = .agg (rvc ⟨[104], u, [s.hd]⟩).toArray ∧ RdS I u 1 ([s.hd].map tv), fun hI ⟨u, h1, h2⟩ => ⟨u, h1, h2.mono hI⟩⟩
  | _, _ => ppOf True
theorem RRows_spec {p m : Nat} {s : Ch} {v : Value} (ok : Ok s m) (hm : m ≤ 1000000000000000) (rs : Risen s) (h : sat E w (chR p s v R))
    (k : ∀ u l w', l.map RV.said = rowsOf s → sat E w' (osl 35 2 u l.length (rvs l) * (pers (colsP l) * chR p s v R)) → K u w') : Calls prog 8 #[.pointer (some ⟨p, 0, none⟩)] w (Ret K) := by
  have := ok.few; have := ok.top; have := ok.b0
  obtain ⟨a, c, rfl, hc, hv, _⟩ := (rds_evsR (s := s)).shape h
  have q16 : ∀ {w : World} {A : Prop}, w.heap[p]? = some (.cells (rcells s (.slice a s.l.length c)).toArray 54 (0, 0)) → A → stv prog none (Instr.loadAt 3 (.pointer (some ⟨p, 0, none⟩))) (.int .i64 s.bn) w A := fun hb k => st_cell (cell_of hb (by rfl)) k
  have q18 : ∀ {w : World} {A : Prop}, w.heap[p]? = some (.cells (rcells s (.slice a s.l.length c)).toArray 54 (0, 0)) → A → stv prog none (Instr.loadAt 3 (.pointer (some ⟨p, 2, none⟩))) (.int .i64 s.last) w A := fun hb k => st_cell (cell_of hb (by rfl)) k
  have q20 : ∀ {w : World} {A : Prop}, w.heap[p]? = some (.cells (rcells s (.slice a s.l.length c)).toArray 54 (0, 0)) → A → stv prog none (Instr.loadAt 44 (.pointer (some ⟨p, 35, none⟩))) (.agg (s.ah.map bv).toArray) w A := fun hb k => stv_of (run_loadN (by simp [ok.a]) fun j v hj => cell_of hb (by simpa using take_cell (rc_ah ok) hj)) k
  have q22 : ∀ {w : World} {A : Prop}, w.heap[p]? = some (.cells (rcells s (.slice a s.l.length c)).toArray 54 (0, 0)) → A → stv prog none (Instr.loadAt 44 (.pointer (some ⟨p, 3, none⟩))) (.agg (s.bh.map bv).toArray) w A := fun hb k => stv_of (run_loadN (by simp [ok.b]) fun j v hj => cell_of hb (by simpa using take_cell (rc_bh ok) hj)) k
  have q24 : ∀ {w : World} {A : Prop}, w.heap[p]? = some (.cells (rcells s (.slice a s.l.length c)).toArray 54 (0, 0)) → A → stv prog none (Instr.loadAt 44 (.pointer (some ⟨p, 67, none⟩))) (.agg (s.hd.map bv).toArray) w A := fun hb k => stv_of (run_loadN (by simp [ok.h]) fun j v hj => cell_of hb (by simpa using take_cell (rc_hd ok) hj)) k
  have hpR : ∀ {w : World} {X : HP}, sat E w (X * chR p s (.slice a s.l.length c) R) → w.heap[p]? = some (.cells (rcells s (.slice a s.l.length c)).toArray 54 (0, 0)) := fun h => sat.has (P := chR p s (.slice a s.l.length c) R) h.drop
  have hp0 : ∀ {w : World}, sat E w (chR p s (.slice a s.l.length c) R) → w.heap[p]? = some (.cells (rcells s (.slice a s.l.length c)).toArray 54 (0, 0)) := fun h => sat.has (P := chR p s (.slice a s.l.length c) R) h
  refine c8 ?_
  unfold B8
  simp only [↓o_eqPtr, Option.isNone_some, ↓cd_false]
  rw [o_nil, o_field]
  refine ld_in (b := p) (v := .int .i64 s.an) h rfl ?_
  refine Num_spec h fun w h => ?_
  refine dr_sl h fun w h _ => ?_
  try simp only [↓o_nil, ↓o_field, ↓o_add, ↓o_sub, ↓o_mul, ↓o_lss, ↓o_leq, ↓o_gtr, ↓o_geq, ↓o_not, ↓o_pick, ↓o_eqInt, ↓o_neInt, ↓o_eqBool, ↓o_neBool, ↓o_eqPtr, ↓o_nePtr, ↓o_eqPtr', ↓o_eqSl, ↓o_neSl, ↓o_eqStr, ↓o_neStr, ↓o_len, ↓o_lenS, ↓o_min, ↓o_max, ↓o_extract, ↓o_convInt, ↓cd_true, ↓cd_false, ↓gate_tt, ↓gate_ff, ↓gate_tf, ↓gate_ft, ↓gate_undef, ↓o_bind, ↓stay_v, ↓pop_cons, ↓fin_nil, Option.isNone_none, Option.isNone_some, Bool.not_true, Bool.not_false, Nat.zero_add, decide_true, decide_false, if_true, if_false, Bool.false_eq_true, ↓reduceIte]
  refine ld_in (b := p) (v := .int .i64 s.bn) h rfl ?_
  refine ld_in (b := p) (v := .int .i64 s.last) h rfl ?_
  refine ld_part (b := p) h (s.ah.map bv) (by simp [ok.a]) (rc_ah ok) ?_
  refine ld_part (b := p) h (s.bh.map bv) (by simp [ok.b]) (rc_bh ok) ?_
  refine ld_part (b := p) h (s.hd.map bv) (by simp [ok.h]) (rc_hd ok) ?_
  refine Num_spec h fun w h => ?_
  refine q24 (hp0 h) (q22 (hp0 h) (q20 (hp0 h) (q18 (hp0 h) ?_)))
  refine Num_spec h fun w h => ?_
  refine q24 (hp0 h) (q22 (hp0 h) (q20 (hp0 h) (q16 (hp0 h) ?_)))
  refine par_sl (φR s) h ?_
  clear h
  have sn : ∀ {σ : List (Option Value)} {w : World}, sat E w (slots (φR s) σ (chR p s (.slice a s.l.length c) R)) → w.heap[p]? = some (.cells (rcells s (.slice a s.l.length c)).toArray 54 (0, 0)) := fun h => hp0 (slots.old h)
  refine ⟨?_, ?_, ?_, ?_, ?_, ?_, ?_, ?_, ?_, ?_, ?_, ?_⟩
  · intro σ w h hu
    refine buildSlice_sl (e := 9) (cs := #[tv (numT s.bn), tv (numT s.an), tv (numT s.last)]) h (fun w => by kernel_rfl) fun b w h => ?_
    refine q24 (sn h.drop) (q22 (sn h.drop) (q20 (sn h.drop) (q18 (sn h.drop) (q16 (sn h.drop) ?_))))
    exact slots.keepb (xs := [numT s.bn, numT s.an, numT s.last].map tv) h (by omega) rfl fun I hI => hI
  · intro σ w h hu
    refine text_spec h ok.a fun w h => ?_
    refine q24 (sn h) (q22 (sn h) (q18 (sn h) (q16 (sn h) (?_))))
    exact slots.put h rfl
  · intro σ w h hu t ht
    obtain ⟨ta, tc, rfl, _, _⟩ : RdS (hp w) t _ _ := slots.get h ht
    refine pvv_of (v := .agg (rvc ⟨[35], .slice ta 3 tc, [numT s.bn, numT s.an, numT s.last]⟩).toArray) (fun w => by kernel_rfl) ?_
    refine slots.add (h.pers_dup.mono fun I h' hp' => ?_)
    rw [pers_star_p] at hp' ⊢
    exact ⟨⟨_, rfl, hp'.1 0 _ ht⟩, hp'.2⟩
  · intro σ w h hu t ht
    obtain rfl : t = tv s.ah := slots.get h ht
    refine buildSlice_sl (e := 9) (cs := #[tv s.ah]) h (fun w => by kernel_rfl) fun b w h => ?_
    refine q24 (sn h.drop) (q22 (sn h.drop) (q20 (sn h.drop) (q18 (sn h.drop) (q16 (sn h.drop) ?_))))
    exact slots.keepb (xs := [s.ah].map tv) h (by omega) rfl fun I hI => hI
  · intro σ w h hu t ht
    obtain ⟨ta, tc, rfl, _, _⟩ : RdS (hp w) t _ _ := slots.get h ht
    refine pvv_of (v := .agg (rvc ⟨[97], .slice ta 1 tc, [s.ah]⟩).toArray) (fun w => by kernel_rfl) ?_
    refine slots.add (h.pers_dup.mono fun I h' hp' => ?_)
    rw [pers_star_p] at hp' ⊢
    exact ⟨⟨_, rfl, hp'.1 3 _ ht⟩, hp'.2⟩
  · intro σ w h hu
    refine text_spec h ok.b fun w h => ?_
    refine q24 (sn h) (q20 (sn h) (q18 (sn h) (q16 (sn h) (?_))))
    exact slots.put h rfl
  · intro σ w h hu t ht
    obtain rfl : t = tv s.bh := slots.get h ht
    refine buildSlice_sl (e := 9) (cs := #[tv s.bh]) h (fun w => by kernel_rfl) fun b w h => ?_
    refine q24 (sn h.drop) (q22 (sn h.drop) (q20 (sn h.drop) (q18 (sn h.drop) (q16 (sn h.drop) ?_))))
    exact slots.keepb (xs := [s.bh].map tv) h (by omega) rfl fun I hI => hI
  · intro σ w h hu t ht
    obtain ⟨ta, tc, rfl, _, _⟩ : RdS (hp w) t _ _ := slots.get h ht
    refine pvv_of (v := .agg (rvc ⟨[98], .slice ta 1 tc, [s.bh]⟩).toArray) (fun w => by kernel_rfl) ?_
    refine slots.add (h.pers_dup.mono fun I h' hp' => ?_)
    rw [pers_star_p] at hp' ⊢
    exact ⟨⟨_, rfl, hp'.1 6 _ ht⟩, hp'.2⟩
  · intro σ w h hu
    refine text_spec h ok.h fun w h => ?_
    refine q22 (sn h) (q20 (sn h) (q18 (sn h) (q16 (sn h) (?_))))
    exact slots.put h rfl
  · intro σ w h hu t ht
    obtain rfl : t = tv s.hd := slots.get h ht
    refine buildSlice_sl (e := 9) (cs := #[tv s.hd]) h (fun w => by kernel_rfl) fun b w h => ?_
    refine q24 (sn h.drop) (q22 (sn h.drop) (q20 (sn h.drop) (q18 (sn h.drop) (q16 (sn h.drop) ?_))))
    exact slots.keepb (xs := [s.hd].map tv) h (by omega) rfl fun I hI => hI
  · intro σ w h hu t ht
    obtain ⟨ta, tc, rfl, _, _⟩ : RdS (hp w) t _ _ := slots.get h ht
    refine pvv_of (v := .agg (rvc ⟨[104], .slice ta 1 tc, [s.hd]⟩).toArray) (fun w => by kernel_rfl) ?_
    refine slots.add (h.pers_dup.mono fun I h' hp' => ?_)
    rw [pers_star_p] at hp' ⊢
    exact ⟨⟨_, rfl, hp'.1 9 _ ht⟩, hp'.2⟩
  · intro σ w h t0 h0 t1 h1 t2 h2 t3 h3 t4 h4 t5 h5 t6 h6 t7 h7 t8 h8 t9 h9 t10 h10
    obtain ⟨u7, e7, ⟨a7, c7', rfl, _, _⟩⟩ : ∃ u, t2 = .agg (rvc ⟨[35], u, [numT s.bn, numT s.an, numT s.last]⟩).toArray ∧ RdS (hp w) u 3 _ := slots.get h h2
    obtain ⟨u9, e9, ⟨a9, c9', rfl, _, _⟩⟩ : ∃ u, t4 = .agg (rvc ⟨[97], u, [s.ah]⟩).toArray ∧ RdS (hp w) u 1 _ := slots.get h h4
    obtain ⟨u11, e11, ⟨a11, c11', rfl, _, _⟩⟩ : ∃ u, t7 = .agg (rvc ⟨[98], u, [s.bh]⟩).toArray ∧ RdS (hp w) u 1 _ := slots.get h h7
    obtain ⟨u13, e13, ⟨a13, c13', rfl, _, _⟩⟩ : ∃ u, t10 = .agg (rvc ⟨[104], u, [s.hd]⟩).toArray ∧ RdS (hp w) u 1 _ := slots.get h h10
    subst e7 e9 e11 e13
    have inj : ∀ {k : List UInt8} {u u' : Value} {cs : List (List UInt8)}, (.agg (rvc ⟨k, u, cs⟩).toArray : Value) = .agg (rvc ⟨k, u', cs⟩).toArray → u = u' := by
      intro k u u' cs he
      simpa [rvc] using he
    have h : sat E w (pers (colsP [⟨[35], .slice a7 3 c7', [numT s.bn, numT s.an, numT s.last]⟩, ⟨[97], .slice a9 1 c9', [s.ah]⟩, ⟨[98], .slice a11 1 c11', [s.bh]⟩, ⟨[104], .slice a13 1 c13', [s.hd]⟩]) * chR p s (.slice a s.l.length c) R) := by
      refine h.pers_mono fun I hI => ?_
      obtain ⟨u, q1, q2⟩ := hI 2 _ h2
      obtain rfl := inj q1
      obtain ⟨u, q1, q3⟩ := hI 4 _ h4
      obtain rfl := inj q1
      obtain ⟨u, q1, q4⟩ := hI 7 _ h7
      obtain rfl := inj q1
      obtain ⟨u, q1, q5⟩ := hI 10 _ h10
      obtain rfl := inj q1
      intro x hx
      simp only [List.mem_cons, List.not_mem_nil, or_false] at hx
      rcases hx with rfl | rfl | rfl | rfl
      · exact q2
      · exact q3
      · exact q4
      · exact q5
    have hsd : ([⟨[35], .slice a7 3 c7', [numT s.bn, numT s.an, numT s.last]⟩, ⟨[97], .slice a9 1 c9', [s.ah]⟩, ⟨[98], .slice a11 1 c11', [s.bh]⟩, ⟨[104], .slice a13 1 c13', [s.hd]⟩] : List RV).map RV.said = heads s := rfl
    refine buildSlice_sl (e := 35) (cs := (rvs [⟨[35], .slice a7 3 c7', [numT s.bn, numT s.an, numT s.last]⟩, ⟨[97], .slice a9 1 c9', [s.ah]⟩, ⟨[98], .slice a11 1 c11', [s.bh]⟩, ⟨[104], .slice a13 1 c13', [s.hd]⟩]).toArray) h (fun w => by kernel_rfl) fun b w h => ?_
    have h : sat E w (osl 35 2 (.slice (some ⟨b, 0, none⟩) 4 4) 4 (rvs _) * _) := osl_of h rfl (by omega)
    generalize hl0 : ([⟨[35], .slice a7 3 c7', [numT s.bn, numT s.an, numT s.last]⟩, ⟨[97], .slice a9 1 c9', [s.ah]⟩, ⟨[98], .slice a11 1 c11', [s.bh]⟩, ⟨[104], .slice a13 1 c13', [s.hd]⟩] : List RV) = l0 at h hsd
    have hl4 : l0.length = 4 := by rw [← hl0]; rfl
    clear hl0 h0 h1 h2 h3 h4 h5 h6 h7 h8 h9 h10 sn
    refine q24 (hpR h.drop) (q22 (hpR h.drop) (q20 (hpR h.drop) (q18 (hpR h.drop) (q16 (hpR h.drop) ?_))))
    refine lp_nat (fun q σ w => ∃ (j : Nat) (out : Value) (l : List RV), σ = [out, .int .i64 (j : Int)] ∧ q = s.l.length - j ∧ j ≤ s.l.length ∧ l.map RV.said = heads s ++ (s.l.take j).map evRow ∧ sat E w (osl 35 2 out l.length (rvs l) * (pers (colsP l) * chR p s (.slice a s.l.length c) R))) s.l.length
      ⟨0, _, l0, rfl, by omega, by omega, by rw [hsd]; simp, by rw [hl4]; exact h⟩ ?_
    clear h
    rintro q σ w again ⟨j, out, l, rfl, rfl, hj, hsl, h⟩ hag
    have hll : l.length = 4 + j := by
      have := congrArg List.length hsl
      simp [heads] at this
      omega
    rw [pop_cons, pop_cons, fin_nil]
    try simp only [↓o_nil, ↓o_field, ↓o_add, ↓o_sub, ↓o_mul, ↓o_lss, ↓o_leq, ↓o_gtr, ↓o_geq, ↓o_not, ↓o_pick, ↓o_eqInt, ↓o_neInt, ↓o_eqBool, ↓o_neBool, ↓o_eqPtr, ↓o_nePtr, ↓o_eqPtr', ↓o_eqSl, ↓o_neSl, ↓o_eqStr, ↓o_neStr, ↓o_len, ↓o_lenS, ↓o_min, ↓o_max, ↓o_extract, ↓o_convInt, ↓cd_true, ↓cd_false, ↓gate_tt, ↓gate_ff, ↓gate_tf, ↓gate_ft, ↓gate_undef, ↓o_bind, ↓stay_v, ↓pop_cons, ↓fin_nil, Option.isNone_none, Option.isNone_some, Bool.not_true, Bool.not_false, Nat.zero_add, decide_true, decide_false, if_true, if_false, Bool.false_eq_true, ↓reduceIte]
    refine ld_in (b := p) (v := .slice a s.l.length c) h (rc_l ok) ?_
    try simp only [↓o_nil, ↓o_field, ↓o_add, ↓o_sub, ↓o_mul, ↓o_lss, ↓o_leq, ↓o_gtr, ↓o_geq, ↓o_not, ↓o_pick, ↓o_eqInt, ↓o_neInt, ↓o_eqBool, ↓o_neBool, ↓o_eqPtr, ↓o_nePtr, ↓o_eqPtr', ↓o_eqSl, ↓o_neSl, ↓o_eqStr, ↓o_neStr, ↓o_len, ↓o_lenS, ↓o_min, ↓o_max, ↓o_extract, ↓o_convInt, ↓cd_true, ↓cd_false, ↓gate_tt, ↓gate_ff, ↓gate_tf, ↓gate_ft, ↓gate_undef, ↓o_bind, ↓stay_v, ↓pop_cons, ↓fin_nil, Option.isNone_none, Option.isNone_some, Bool.not_true, Bool.not_false, Nat.zero_add, decide_true, decide_false, if_true, if_false, Bool.false_eq_true, ↓reduceIte]
    refine cd_dec (fun hlt => ?_) (fun hge => ?_)
    · have hj2 : j < s.l.length := by omega
      try simp only [↓o_nil, ↓o_field, ↓o_add, ↓o_sub, ↓o_mul, ↓o_lss, ↓o_leq, ↓o_gtr, ↓o_geq, ↓o_not, ↓o_pick, ↓o_eqInt, ↓o_neInt, ↓o_eqBool, ↓o_neBool, ↓o_eqPtr, ↓o_nePtr, ↓o_eqPtr', ↓o_eqSl, ↓o_neSl, ↓o_eqStr, ↓o_neStr, ↓o_len, ↓o_lenS, ↓o_min, ↓o_max, ↓o_extract, ↓o_convInt, ↓cd_true, ↓cd_false, ↓gate_tt, ↓gate_ff, ↓gate_tf, ↓gate_ft, ↓gate_undef, ↓o_bind, ↓stay_v, ↓pop_cons, ↓fin_nil, Option.isNone_none, Option.isNone_some, Bool.not_true, Bool.not_false, Nat.zero_add, decide_true, decide_false, if_true, if_false, Bool.false_eq_true, ↓reduceIte]
      refine ld_in (b := p) (v := .slice a s.l.length c) h (rc_l ok) ?_
      obtain ⟨b', o, c', e, hc', hrd⟩ := hv.opened h.drop.drop (by rw [evs_length]; omega)
      cases e
      rw [o_index (by omega) (by omega)]
      refine ld_el h (Rds.right (Rds.right hrd)) (j * 4) (by simp) (ecells s.l[j]) rfl (evs_at (by simp [hj2])) ?_
      refine alloc_sl h fun x w h => ?_
      have h : sat E w (pts x (.cells (ecells zeroE).toArray 56 (0, 0)) * (osl 35 2 out l.length (rvs l) * (pers (colsP l) * chR p s (.slice _ s.l.length c) R))) := h
      refine store_all (b := x) h (xs := ecells zeroE) (vs := ecells s.l[j]) rfl rfl (ecells_one _) fun w h => ?_
      refine dr_sl h fun w h _ => ?_
      generalize hx : s.l[j] = y at h
      have hxb : ∀ {w : World} {X : HP}, sat E w (X * (pts x (.cells (ecells y).toArray 56 (0, 0)) * (osl 35 2 out l.length (rvs l) * (pers (colsP l) * chR p s (.slice (some ⟨b', o, none⟩) s.l.length c) R)))) → w.heap[x]? = some (.cells (ecells y).toArray 56 (0, 0)) := fun h => h.drop.pts_get
      try simp only [↓o_nil, ↓o_field, ↓o_add, ↓o_sub, ↓o_mul, ↓o_lss, ↓o_leq, ↓o_gtr, ↓o_geq, ↓o_not, ↓o_pick, ↓o_eqInt, ↓o_neInt, ↓o_eqBool, ↓o_neBool, ↓o_eqPtr, ↓o_nePtr, ↓o_eqPtr', ↓o_eqSl, ↓o_neSl, ↓o_eqStr, ↓o_neStr, ↓o_len, ↓o_lenS, ↓o_min, ↓o_max, ↓o_extract, ↓o_convInt, ↓cd_true, ↓cd_false, ↓gate_tt, ↓gate_ff, ↓gate_tf, ↓gate_ft, ↓gate_undef, ↓o_bind, ↓stay_v, ↓pop_cons, ↓fin_nil, Option.isNone_none, Option.isNone_some, Bool.not_true, Bool.not_false, Nat.zero_add, decide_true, decide_false, if_true, if_false, Bool.false_eq_true, ↓reduceIte]
      refine ld_in (b := x) (v := .int .i64 y.n) h rfl ?_
      refine ld_in (b := x) (v := .int .i64 y.t) h rfl ?_
      refine ld_in (b := x) (v := tv y.what) h rfl ?_
      refine ld_in (b := x) (v := tv y.who) h rfl ?_
      have h := h.perm (emp_star _).symm
      have g0 : ∀ {w : World} {A : Prop} {X : HP}, sat E w (X * (pts x (.cells (ecells y).toArray 56 (0, 0)) * (osl 35 2 out l.length (rvs l) * (pers (colsP l) * chR p s (.slice (some ⟨b', o, none⟩) s.l.length c) R)))) → A → stv prog none (Instr.loadAt 3 (.pointer (some ⟨x, 0, none⟩))) (.int .i64 y.n) w A := fun h k => st_cell (cell_of (hxb h) (by rfl)) k
      have g1 : ∀ {w : World} {A : Prop} {X : HP}, sat E w (X * (pts x (.cells (ecells y).toArray 56 (0, 0)) * (osl 35 2 out l.length (rvs l) * (pers (colsP l) * chR p s (.slice (some ⟨b', o, none⟩) s.l.length c) R)))) → A → stv prog none (Instr.loadAt 3 (.pointer (some ⟨x, 1, none⟩))) (.int .i64 y.t) w A := fun h k => st_cell (cell_of (hxb h) (by rfl)) k
      have g2 : ∀ {w : World} {A : Prop} {X : HP}, sat E w (X * (pts x (.cells (ecells y).toArray 56 (0, 0)) * (osl 35 2 out l.length (rvs l) * (pers (colsP l) * chR p s (.slice (some ⟨b', o, none⟩) s.l.length c) R)))) → A → stv prog none (Instr.loadAt 9 (.pointer (some ⟨x, 2, none⟩))) (tv y.what) w A := fun h k => st_cell (cell_of (hxb h) (by rfl)) k
      have g3 : ∀ {w : World} {A : Prop} {X : HP}, sat E w (X * (pts x (.cells (ecells y).toArray 56 (0, 0)) * (osl 35 2 out l.length (rvs l) * (pers (colsP l) * chR p s (.slice (some ⟨b', o, none⟩) s.l.length c) R)))) → A → stv prog none (Instr.loadAt 9 (.pointer (some ⟨x, 3, none⟩))) (tv y.who) w A := fun h k => st_cell (cell_of (hxb h) (by rfl)) k
      refine Num_spec h fun w h => ?_
      refine g3 h (g2 h (g1 h ?_))
      have e0 : (.string ⟨#[110]⟩ : Value) = tv [110] := rfl
      have l17 := numT_length y.n
      rw [e0, o_catT (by simp; omega)]
      refine Num_spec h fun w h => ?_
      refine g3 h (g2 h (g0 h ?_))
      refine buildSlice_sl (e := 9) (cs := ([numT y.t, y.what, y.who].map tv).toArray) h (fun w => by kernel_rfl) fun b4 w h => ?_
      rw [← star_assoc] at h
      refine g1 h (g0 h ?_)
      rw [star_assoc] at h
      refine pvv_of (v := .agg (rvc ⟨110 :: numT y.n, .slice (some ⟨b4, 0, none⟩) 3 3, [numT y.t, y.what, y.who]⟩).toArray) (fun w => by kernel_rfl) ?_
      have h : sat E w (osl 9 1 (.slice (some ⟨b4, 0, none⟩) 3 3) 3 ([numT y.t, y.what, y.who].map tv) * _) := osl_of h rfl (by omega)
      have h := osl_freeze h
      generalize hxv : (⟨110 :: numT y.n, .slice (some ⟨b4, 0, none⟩) 3 3, [numT y.t, y.what, y.who]⟩ : RV) = xv
      have hsx : xv.said = evRow s.l[j] := by rw [hx, ← hxv]; rfl
      have h := h.pers_mono (ψ := colsP [xv]) fun I hI z hz => by
        rw [List.mem_singleton.1 hz, ← hxv]
        exact hI
      have hu1 : ∀ q ∈ rvc xv, q.oneCell' = true := by rw [← hxv]; intro q hq; simp [rvc] at hq; rcases hq with rfl | rfl <;> rfl
      clear hxv
      refine buildSlice_sl (e := 35) (cs := (rvc xv).toArray) h (fun w => by kernel_rfl) fun b5 w h => ?_
      have hf : ∀ {w : World} {X Y Z : HP}, sat E w (X * (Y * (Z * (pts x (.cells (ecells y).toArray 56 (0, 0)) * (osl 35 2 out l.length (rvs l) * (pers (colsP l) * chR p s (.slice (some ⟨b', o, none⟩) s.l.length c) R)))))) → sat E w ((X * (Y * Z)) * (pts x (.cells (ecells y).toArray 56 (0, 0)) * (osl 35 2 out l.length (rvs l) * (pers (colsP l) * chR p s (.slice (some ⟨b', o, none⟩) s.l.length c) R)))) := fun h => h.perm (by ac_rfl)
      refine g3 (hf h) (g2 (hf h) (g1 (hf h) (g0 (hf h) ?_)))
      refine append_sl (v := out) h (rvc xv) (k' := 1) rfl (.inr ⟨b5, 0, _, _, _, rfl, h.pts_get, fun j v hj => by simpa using hj⟩) hu1 (by omega) (by omega) fun v' w h => ?_
      have hxb2 : w.heap[x]? = some (.cells (ecells y).toArray 56 (0, 0)) := sat.has h
      refine st_cell (cell_of hxb2 (by rfl)) (st_cell (cell_of hxb2 (by rfl)) (st_cell (cell_of hxb2 (by rfl)) (st_cell (cell_of hxb2 (by rfl)) ?_)))
      try rw [o_add]
      rw [i64_of (by omega) (by omega)]
      refine hag (s.l.length - (j + 1)) _ _ (by omega) ⟨j + 1, v', l ++ [xv], rfl, rfl, by omega, said_take hsl hj2 hsx, ?_⟩
      have h := (h.lose b5).lose x
      have e9 : rvs l ++ rvc xv = rvs (l ++ [xv]) := by rw [rvs_append]; simp [rvs]
      rw [e9] at h
      have h := h.perm (show _ = emp * (pers (colsP l) * (pers (colsP [xv]) * (osl 35 2 v' (l.length + 1) (rvs (l ++ [xv])) * chR p s (.slice (some ⟨b', o, none⟩) s.l.length c) R))) by unfold chR; ac_rfl)
      have h := h.drop
      rw [← star_assoc, pers_and] at h
      have h := h.pers_mono (ψ := colsP (l ++ [xv])) fun I hI => colsP_append hI.1 hI.2
      rw [List.length_append, List.length_singleton]
      exact h.perm (star_left_comm _ _ _)
    · have hj2 : j = s.l.length := by omega
      subst hj2
      rw [List.take_length] at hsl
      have hsl : l.map RV.said = rowsOf s := hsl
      have h1 := h.drop
      have hu1 : ∀ x ∈ rvs l, x.oneCell' = true := rvs_one (h1.pers_get)
      refine Sorted_spec h Rds.osl.left hu1 (by omega) (keys_rise ok hm rs hsl) fun u w h => ?_
      refine k u l w hsl ?_
      have h := h.perm (show _ = osl 35 2 out l.length (rvs l) * (osl 35 2 u l.length (rvs l) * (pers (colsP l) * chR p s (.slice a s.l.length c) R)) by ac_rfl)
      exact h.drop
end Go.Proofs.YtjeiojibnmfibaaGreatDoor
