/-
  A chain's rows.
-/
import Derived.Test.YtjeiojibnmfibaaDoorAudU
import Derived.Test.YtjeiojibnmfibaaDoorPar
import Derived.Test.YtjeiojibnmfibaaDoorPB
import Derived.Test.YtjeiojibnmfibaaDoorStructs
import Derived.Test.YtjeiojibnmfibaaDoorAudG
set_option linter.all false
set_option maxRecDepth 10000
namespace Go.Proofs.YtjeiojibnmfibaaDoor
open Go Hold
variable {E : World0} {w : World} {H R : HP} {K : Value → World → Prop}
/-- A row: its key, its columns, and the slice that they lie in. -/
structure RV where
  key : List UInt8
  v : Value
  cols : List (List UInt8)
def rvc (x : RV) : List Value := [tv x.key, x.v]
def RV.said (x : RV) : List UInt8 × List (List UInt8) := (x.key, x.cols)
def rvs (l : List RV) : List Value := l.flatMap rvc
/-- All columns stay. -/
def colsP (l : List RV) : PP := ⟨fun I => ∀ x ∈ l, RdS I x.v x.cols.length (x.cols.map tv), fun hI h x hx => (h x hx).mono hI⟩
theorem rvs_length (l : List RV) : (rvs l).length = l.length * 2 := fm_length (k := 2) (fun _ => rfl) l
theorem rvs_at {l : List RV} {i : Nat} {x : RV} (h : l[i]? = some x) : ((rvs l).drop (i * 2)).take 2 = rvc x := fm_at (k := 2) (fun _ => rfl) h
theorem rvs_append (a b : List RV) : rvs (a ++ b) = rvs a ++ rvs b := by simp [rvs]
theorem rds_one {v : Value} {n : Nat} {xs : List Value} {J : Hp} (h : RdS J v n xs) : v.oneCell' = true := by obtain ⟨_, _, rfl, _⟩ := h; rfl
theorem rvs_one {l : List RV} {J : Hp} (h : (colsP l).p J) : ∀ x ∈ rvs l, x.oneCell' = true := by
  intro x hx
  obtain ⟨y, hy, hm⟩ := List.mem_flatMap.1 hx
  simp [rvc] at hm
  rcases hm with rfl | rfl
  · rfl
  · exact rds_one (h y hy)
theorem colsP_append {a b : List RV} {I : Hp} (h1 : (colsP a).p I) (h2 : (colsP b).p I) : (colsP (a ++ b)).p I := fun x hx => by
  rcases List.mem_append.1 hx with hx | hx
  · exact h1 x hx
  · exact h2 x hx
def evRow (x : Evt) : List UInt8 × List (List UInt8) := (110 :: numT x.n, [numT x.t, x.what, x.who])
def heads (s : Ch) : List (List UInt8 × List (List UInt8)) := [([35], [numT s.bn, numT s.an, numT s.last]), ([97], [s.ah]), ([98], [s.bh]), ([104], [s.hd])]
def rowsOf (s : Ch) : List (List UInt8 × List (List UInt8)) := heads s ++ s.l.map evRow
theorem win_part {b e o n : Nat} {xs ys : List Value} {fr : Nat × Nat} (h : w.heap[b]? = some (.cells xs.toArray e fr)) (hy : (xs.drop o).take n = ys) (c : Nat) (hn : ys.length = n) (hc : n ≤ c) : RdS (hp w) (.slice (some ⟨b, o, none⟩) n c) n ys :=
  ⟨_, c, rfl, hc, .inr ⟨b, o, _, e, fr, rfl, h, fun j v hj => by simpa using take_cell hy hj⟩⟩
/-- What is known of the slots of the rows' heads. -/
def φI (s : Ch) : Nat → Value → PP
  | 0, v => ppOf (v = tv (numT s.bn))
  | 4, v => ppOf (v = tv (numT s.an))
  | 5, v => ppOf (v = tv (numT s.last))
  | 1, v => ppOf (v = tv s.ah)
  | 2, v => ppOf (v = tv s.bh)
  | 3, v => ppOf (v = tv s.hd)
  | 6, v => immS v 3 ([numT s.bn, numT s.an, numT s.last].map tv)
  | 8, v => immS v 1 ([s.ah].map tv)
  | 10, v => immS v 1 ([s.bh].map tv)
  | 12, v => immS v 1 ([s.hd].map tv)
  | 7, v => ⟨fun I => ∃ u, v = .agg (rvc ⟨[35], u, [numT s.bn, numT s.an, numT s.last]⟩).toArray ∧ RdS I u 3 ([numT s.bn, numT s.an, numT s.last].map tv), fun hI ⟨u, h1, h2⟩ => ⟨u, h1, h2.mono hI⟩⟩
  | 9, v => ⟨fun I => ∃ u, v = .agg (rvc ⟨[97], u, [s.ah]⟩).toArray ∧ RdS I u 1 ([s.ah].map tv), fun hI ⟨u, h1, h2⟩ => ⟨u, h1, h2.mono hI⟩⟩
  | 11, v => ⟨fun I => ∃ u, v = .agg (rvc ⟨[98], u, [s.bh]⟩).toArray ∧ RdS I u 1 ([s.bh].map tv), fun hI ⟨u, h1, h2⟩ => ⟨u, h1, h2.mono hI⟩⟩
  | 13, v => ⟨fun I => ∃ u, v = .agg (rvc ⟨[104], u, [s.hd]⟩).toArray ∧ RdS I u 1 ([s.hd].map tv), fun hI ⟨u, h1, h2⟩ => ⟨u, h1, h2.mono hI⟩⟩
  | _, _ => ppOf True
theorem ic_bh {s : Ch} {v : Value} {m : Nat} (ok : Ok s m) : ((icells s v).drop 1).take 32 = s.bh.map bv := part_at [.int .i64 s.bn] _ (.int .i64 s.an :: (s.ah.map bv ++ (s.hd.map bv ++ [.int .i64 s.last, v]))) (by simp [icells]) rfl (by simp [ok.b])
theorem numT_length (n : Int) : (numT n).length ≤ 17 := by
  unfold numT number
  split
  · simp
  · have := hexs_length 16 n.toNat (by show n.toNat < 16 ^ 16; omega)
    simp only [numText, List.length_cons]
    omega
theorem said_take {l : List Evt} {j : Nat} {hs : List (List UInt8 × List (List UInt8))} {r : List RV} {x : RV} (h : r.map RV.said = hs ++ (l.take j).map evRow) (hj : j < l.length) (hx : x.said = evRow l[j]) : (r ++ [x]).map RV.said = hs ++ (l.take (j + 1)).map evRow := by
  rw [List.map_append, h, List.take_succ_eq_append_getElem hj, List.map_append, List.map_singleton, List.map_singleton, hx, List.append_assoc]
theorem Rows_spec {p m : Nat} {s : Ch} {v : Value} (ok : Ok s m) (hm : m ≤ 1000000000000000) (hd : Dbt R) (h : sat E w (chI p s v R))
    (k : ∀ u l w', l.map RV.said = rowsOf s → sat E w' (osl 71 2 u l.length (rvs l) * (pers (colsP l) * chI p s v R)) → K u w') : Calls prog 24 #[.pointer (some ⟨p, 0, none⟩)] w (Ret K) := by
  have := ok.few; have := ok.top; have := ok.b0
  have hdI : Dbt (chI p s v R) := by unfold chI; exact hd.right.right
  obtain ⟨a, c, rfl, hc, hv, _⟩ := (Rds.evs (s := s)).shape h
  refine c24 ?_
  unfold B24
  simp only [↓o_eqPtr, Option.isNone_some, ↓cd_false]
  refine dr_sl h fun w h _ => ?_
  try simp only [↓o_sliceA, ↓o_nil, ↓o_field, ↓o_add, ↓o_sub, ↓o_mul, ↓o_lss, ↓o_leq, ↓o_gtr, ↓o_geq, ↓o_not, ↓o_pick, ↓o_eqInt, ↓o_neInt, ↓o_eqBool, ↓o_neBool, ↓o_eqPtr, ↓o_nePtr, ↓o_eqPtr', ↓o_eqSl, ↓o_neSl, ↓o_eqStr, ↓o_neStr, ↓o_len, ↓o_lenS, ↓o_min, ↓o_max, ↓o_extract, ↓o_convInt, ↓cd_true, ↓cd_false, ↓gate_tt, ↓gate_ff, ↓gate_tf, ↓gate_ft, ↓gate_undef, ↓o_bind, ↓stay_v, ↓pop_cons, ↓fin_nil, Option.isNone_none, Option.isNone_some, Bool.not_true, Bool.not_false, Nat.zero_add, decide_true, decide_false, if_true, if_false, Bool.false_eq_true, ↓reduceIte]
  refine ld_in (b := p) (v := .int .i64 s.bn) h rfl ?_
  refine ld_in (b := p) (v := .int .i64 s.an) h (ic_an ok) ?_
  refine ld_in (b := p) (v := .int .i64 s.last) h (ic_last ok) ?_
  have sn : ∀ (φ : Nat → Value → PP) (σ : List (Option Value)) (w : World), sat E w (slots φ σ (chI p s (.slice a s.l.length c) R)) → w.heap[p]? = some (.cells (icells s (.slice a s.l.length c)).toArray 59 (0, 0)) := fun φ σ w h => sat.has (slots.old h)
  refine par_sl (φI s) h ?_
  clear h
  have st1 : ∀ {w : World} {A : Prop} {X : HP} {σ : List (Option Value)}, sat E w (X * slots (φI s) σ (chI p s (.slice a s.l.length c) R)) → A → stv prog none (Instr.loadAt 3 (.pointer (some ⟨p, 0, none⟩))) (.int .i64 s.bn) w A := fun h k => st_cell (cell_of (sn _ _ _ h.drop) (by rfl)) k
  have st2 : ∀ {w : World} {A : Prop} {X : HP} {σ : List (Option Value)}, sat E w (X * slots (φI s) σ (chI p s (.slice a s.l.length c) R)) → A → stv prog none (Instr.loadAt 3 (.pointer (some ⟨p, 33, none⟩))) (.int .i64 s.an) w A := fun h k => st_cell (cell_of (sn _ _ _ h.drop) (by simpa using ic_an ok)) k
  have st3 : ∀ {w : World} {A : Prop} {X : HP} {σ : List (Option Value)}, sat E w (X * slots (φI s) σ (chI p s (.slice a s.l.length c) R)) → A → stv prog none (Instr.loadAt 3 (.pointer (some ⟨p, 98, none⟩))) (.int .i64 s.last) w A := fun h k => st_cell (cell_of (sn _ _ _ h.drop) (by simpa using ic_last ok)) k
  have e1 : ∀ {w : World} {σ : List (Option Value)}, sat E w (slots (φI s) σ (chI p s (.slice a s.l.length c) R)) → sat E w (emp * slots (φI s) σ (chI p s (.slice a s.l.length c) R)) := fun h => h.perm (emp_star _).symm
  refine ⟨?_, ?_, ?_, ?_, ?_, ?_, ?_, ?_, ?_, ?_, ?_, ?_, ?_, ?_, ?_⟩
  · intro σ w h hu
    refine num_spec h (fun E w hs => hdI E w (slots.old hs)) fun w h => ?_
    refine st3 (e1 h) (st2 (e1 h) ?_)
    exact slots.put h rfl
  · intro σ w h hu
    refine conv_bs (l := s.ah) (by rw [ok.a]; exact win_part (sn _ _ _ h) (ic_ah ok) 32 (by simp [ok.a]) (Nat.le_refl _)) ?_
    refine st3 (e1 h) (st2 (e1 h) (st1 (e1 h) ?_))
    exact slots.put h rfl
  · intro σ w h hu
    refine conv_bs (l := s.bh) (by rw [ok.b]; exact win_part (sn _ _ _ h) (ic_bh ok) 32 (by simp [ok.b]) (Nat.le_refl _)) ?_
    refine st3 (e1 h) (st2 (e1 h) (st1 (e1 h) ?_))
    exact slots.put h rfl
  · intro σ w h hu
    refine conv_bs (l := s.hd) (by rw [ok.h]; exact win_part (sn _ _ _ h) (ic_hd ok) 32 (by simp [ok.h]) (Nat.le_refl _)) ?_
    refine st3 (e1 h) (st2 (e1 h) (st1 (e1 h) ?_))
    exact slots.put h rfl
  · intro σ w h hu
    refine num_spec h (fun E w hs => hdI E w (slots.old hs)) fun w h => ?_
    refine st3 (e1 h) (st1 (e1 h) ?_)
    exact slots.put h rfl
  · intro σ w h hu
    refine num_spec h (fun E w hs => hdI E w (slots.old hs)) fun w h => ?_
    refine st2 (e1 h) (st1 (e1 h) ?_)
    exact slots.put h rfl
  · intro σ w h hu t0 h0 t1 h1 t2 h2
    obtain rfl : t0 = tv (numT s.bn) := slots.get h h0
    obtain rfl : t1 = tv (numT s.an) := slots.get h h1
    obtain rfl : t2 = tv (numT s.last) := slots.get h h2
    refine buildSlice_sl (e := 9) (cs := #[tv (numT s.bn), tv (numT s.an), tv (numT s.last)]) h (fun w => by kernel_rfl) fun b w h => ?_
    refine st3 h (st2 h (st1 h ?_))
    exact slots.keepb (xs := [numT s.bn, numT s.an, numT s.last].map tv) h (by omega) rfl fun I hI => hI
  · intro σ w h hu t ht
    obtain ⟨ta, tc, rfl, _, _⟩ : RdS (hp w) t _ _ := slots.get h ht
    refine pvv_of (v := .agg (rvc ⟨[35], .slice ta 3 tc, [numT s.bn, numT s.an, numT s.last]⟩).toArray) (fun w => by kernel_rfl) ?_
    refine slots.add (h.pers_dup.mono fun I h' hp' => ?_)
    rw [pers_star_p] at hp' ⊢
    exact ⟨⟨_, rfl, hp'.1 6 _ ht⟩, hp'.2⟩
  · intro σ w h hu t ht
    obtain rfl : t = tv s.ah := slots.get h ht
    refine buildSlice_sl (e := 9) (cs := #[tv s.ah]) h (fun w => by kernel_rfl) fun b w h => ?_
    refine st3 h (st2 h (st1 h ?_))
    exact slots.keepb (xs := [s.ah].map tv) h (by omega) rfl fun I hI => hI
  · intro σ w h hu t ht
    obtain ⟨ta, tc, rfl, _, _⟩ : RdS (hp w) t _ _ := slots.get h ht
    refine pvv_of (v := .agg (rvc ⟨[97], .slice ta 1 tc, [s.ah]⟩).toArray) (fun w => by kernel_rfl) ?_
    refine slots.add (h.pers_dup.mono fun I h' hp' => ?_)
    rw [pers_star_p] at hp' ⊢
    exact ⟨⟨_, rfl, hp'.1 8 _ ht⟩, hp'.2⟩
  · intro σ w h hu t ht
    obtain rfl : t = tv s.bh := slots.get h ht
    refine buildSlice_sl (e := 9) (cs := #[tv s.bh]) h (fun w => by kernel_rfl) fun b w h => ?_
    refine st3 h (st2 h (st1 h ?_))
    exact slots.keepb (xs := [s.bh].map tv) h (by omega) rfl fun I hI => hI
  · intro σ w h hu t ht
    obtain ⟨ta, tc, rfl, _, _⟩ : RdS (hp w) t _ _ := slots.get h ht
    refine pvv_of (v := .agg (rvc ⟨[98], .slice ta 1 tc, [s.bh]⟩).toArray) (fun w => by kernel_rfl) ?_
    refine slots.add (h.pers_dup.mono fun I h' hp' => ?_)
    rw [pers_star_p] at hp' ⊢
    exact ⟨⟨_, rfl, hp'.1 10 _ ht⟩, hp'.2⟩
  · intro σ w h hu t ht
    obtain rfl : t = tv s.hd := slots.get h ht
    refine buildSlice_sl (e := 9) (cs := #[tv s.hd]) h (fun w => by kernel_rfl) fun b w h => ?_
    refine st3 h (st2 h (st1 h ?_))
    exact slots.keepb (xs := [s.hd].map tv) h (by omega) rfl fun I hI => hI
  · intro σ w h hu t ht
    obtain ⟨ta, tc, rfl, _, _⟩ : RdS (hp w) t _ _ := slots.get h ht
    refine pvv_of (v := .agg (rvc ⟨[104], .slice ta 1 tc, [s.hd]⟩).toArray) (fun w => by kernel_rfl) ?_
    refine slots.add (h.pers_dup.mono fun I h' hp' => ?_)
    rw [pers_star_p] at hp' ⊢
    exact ⟨⟨_, rfl, hp'.1 12 _ ht⟩, hp'.2⟩
  · intro σ w h t0 h0 t1 h1 t2 h2 t3 h3 t4 h4 t5 h5 t6 h6 t7 h7 t8 h8 t9 h9 t10 h10 t11 h11 t12 h12 t13 h13
    obtain ⟨u7, e7, ⟨a7, c7', rfl, _, _⟩⟩ : ∃ u, t7 = .agg (rvc ⟨[35], u, [numT s.bn, numT s.an, numT s.last]⟩).toArray ∧ RdS (hp w) u 3 _ := slots.get h h7
    obtain ⟨u9, e9, ⟨a9, c9', rfl, _, _⟩⟩ : ∃ u, t9 = .agg (rvc ⟨[97], u, [s.ah]⟩).toArray ∧ RdS (hp w) u 1 _ := slots.get h h9
    obtain ⟨u11, e11, ⟨a11, c11', rfl, _, _⟩⟩ : ∃ u, t11 = .agg (rvc ⟨[98], u, [s.bh]⟩).toArray ∧ RdS (hp w) u 1 _ := slots.get h h11
    obtain ⟨u13, e13, ⟨a13, c13', rfl, _, _⟩⟩ : ∃ u, t13 = .agg (rvc ⟨[104], u, [s.hd]⟩).toArray ∧ RdS (hp w) u 1 _ := slots.get h h13
    subst e7 e9 e11 e13
    have inj : ∀ {k : List UInt8} {u u' : Value} {cs : List (List UInt8)}, (.agg (rvc ⟨k, u, cs⟩).toArray : Value) = .agg (rvc ⟨k, u', cs⟩).toArray → u = u' := by
      intro k u u' cs he
      simpa [rvc] using he
    have h : sat E w (pers (colsP [⟨[35], .slice a7 3 c7', [numT s.bn, numT s.an, numT s.last]⟩, ⟨[97], .slice a9 1 c9', [s.ah]⟩, ⟨[98], .slice a11 1 c11', [s.bh]⟩, ⟨[104], .slice a13 1 c13', [s.hd]⟩]) * chI p s (.slice a s.l.length c) R) := by
      refine h.pers_mono fun I hI => ?_
      obtain ⟨u, q1, q2⟩ := hI 7 _ h7
      obtain rfl := inj q1
      obtain ⟨u, q1, q3⟩ := hI 9 _ h9
      obtain rfl := inj q1
      obtain ⟨u, q1, q4⟩ := hI 11 _ h11
      obtain rfl := inj q1
      obtain ⟨u, q1, q5⟩ := hI 13 _ h13
      obtain rfl := inj q1
      intro x hx
      simp only [List.mem_cons, List.not_mem_nil, or_false] at hx
      rcases hx with rfl | rfl | rfl | rfl
      · exact q2
      · exact q3
      · exact q4
      · exact q5
    have hsd : ([⟨[35], .slice a7 3 c7', [numT s.bn, numT s.an, numT s.last]⟩, ⟨[97], .slice a9 1 c9', [s.ah]⟩, ⟨[98], .slice a11 1 c11', [s.bh]⟩, ⟨[104], .slice a13 1 c13', [s.hd]⟩] : List RV).map RV.said = heads s := rfl
    refine buildSlice_sl (e := 71) (cs := (rvs [⟨[35], .slice a7 3 c7', [numT s.bn, numT s.an, numT s.last]⟩, ⟨[97], .slice a9 1 c9', [s.ah]⟩, ⟨[98], .slice a11 1 c11', [s.bh]⟩, ⟨[104], .slice a13 1 c13', [s.hd]⟩]).toArray) h (fun w => by kernel_rfl) fun b w h => ?_
    have h : sat E w (osl 71 2 (.slice (some ⟨b, 0, none⟩) 4 4) 4 (rvs _) * _) := osl_of h rfl (by omega)
    generalize hl0 : ([⟨[35], .slice a7 3 c7', [numT s.bn, numT s.an, numT s.last]⟩, ⟨[97], .slice a9 1 c9', [s.ah]⟩, ⟨[98], .slice a11 1 c11', [s.bh]⟩, ⟨[104], .slice a13 1 c13', [s.hd]⟩] : List RV) = l0 at h hsd
    have hl4 : l0.length = 4 := by rw [← hl0]; rfl
    clear hl0 h0 h1 h2 h3 h4 h5 h6 h7 h8 h9 h10 h11 h12 h13 st1 st2 st3 e1 sn
    have hpI : ∀ {w : World} {X : HP}, sat E w (X * chI p s (.slice a s.l.length c) R) → w.heap[p]? = some (.cells (icells s (.slice a s.l.length c)).toArray 59 (0, 0)) := fun h => sat.has (P := chI p s (.slice a s.l.length c) R) h.drop
    refine st_cell (cell_of (hpI h.drop) (by simpa using ic_last ok)) ?_
    refine st_cell (cell_of (hpI h.drop) (by simpa using ic_an ok)) ?_
    refine st_cell (cell_of (hpI h.drop) (by rfl)) ?_
    try simp only [↓o_nil, ↓o_field, ↓o_add, ↓o_sub, ↓o_mul, ↓o_lss, ↓o_leq, ↓o_gtr, ↓o_geq, ↓o_not, ↓o_pick, ↓o_eqInt, ↓o_neInt, ↓o_eqBool, ↓o_neBool, ↓o_eqPtr, ↓o_nePtr, ↓o_eqPtr', ↓o_eqSl, ↓o_neSl, ↓o_eqStr, ↓o_neStr, ↓o_len, ↓o_lenS, ↓o_min, ↓o_max, ↓o_extract, ↓o_convInt, ↓cd_true, ↓cd_false, ↓gate_tt, ↓gate_ff, ↓gate_tf, ↓gate_ft, ↓gate_undef, ↓o_bind, ↓stay_v, ↓pop_cons, ↓fin_nil, Option.isNone_none, Option.isNone_some, Bool.not_true, Bool.not_false, Nat.zero_add, decide_true, decide_false, if_true, if_false, Bool.false_eq_true, ↓reduceIte]
    refine ld_in (b := p) (v := .slice a s.l.length c) h (ic_l ok) ?_
    rw [o_len]
    refine lp_nat (fun q σ w => ∃ (j : Nat) (out : Value) (l : List RV), σ = [out, .int .i64 (j : Int)] ∧ q = s.l.length - j ∧ j ≤ s.l.length ∧ l.map RV.said = heads s ++ (s.l.take j).map evRow ∧ sat E w (osl 71 2 out l.length (rvs l) * (pers (colsP l) * chI p s (.slice a s.l.length c) R))) s.l.length
      ⟨0, _, l0, rfl, by omega, by omega, by rw [hsd]; simp, by rw [hl4]; exact h⟩ ?_
    clear h
    rintro q σ w again ⟨j, out, l, rfl, rfl, hj, hsl, h⟩ hag
    have hll : l.length = 4 + j := by
      have := congrArg List.length hsl
      simp [heads] at this
      omega
    rw [pop_cons, pop_cons, fin_nil, o_lss]
    refine cd_dec (fun hlt => ?_) (fun hge => ?_)
    · have hj2 : j < s.l.length := by omega
      obtain ⟨b', o, c', e, hc', hrd⟩ := hv.opened h.drop.drop (by rw [evs_length]; omega)
      cases e
      rw [o_index (by omega) (by omega)]
      refine ld_el h (Rds.right (Rds.right hrd)) (j * 4) (by simp) (ecells s.l[j]) rfl (evs_at (by simp [hj2])) ?_
      refine alloc_sl h fun x w h => ?_
      have h : sat E w (pts x (.cells (ecells zeroE).toArray 34 (0, 0)) * (osl 71 2 out l.length (rvs l) * (pers (colsP l) * chI p s (.slice _ s.l.length c) R))) := h
      refine store_all (b := x) h (xs := ecells zeroE) (vs := ecells s.l[j]) rfl rfl (ecells_one _) fun w h => ?_
      refine dr_sl h fun w h _ => ?_
      generalize hx : s.l[j] = y at h
      have hxb : ∀ {w : World} {X : HP}, sat E w (X * (pts x (.cells (ecells y).toArray 34 (0, 0)) * (osl 71 2 out l.length (rvs l) * (pers (colsP l) * chI p s (.slice (some ⟨b', o, none⟩) s.l.length c) R)))) → w.heap[x]? = some (.cells (ecells y).toArray 34 (0, 0)) := fun h => h.drop.pts_get
      try simp only [↓o_nil, ↓o_field, ↓o_add, ↓o_sub, ↓o_mul, ↓o_lss, ↓o_leq, ↓o_gtr, ↓o_geq, ↓o_not, ↓o_pick, ↓o_eqInt, ↓o_neInt, ↓o_eqBool, ↓o_neBool, ↓o_eqPtr, ↓o_nePtr, ↓o_eqPtr', ↓o_eqSl, ↓o_neSl, ↓o_eqStr, ↓o_neStr, ↓o_len, ↓o_lenS, ↓o_min, ↓o_max, ↓o_extract, ↓o_convInt, ↓cd_true, ↓cd_false, ↓gate_tt, ↓gate_ff, ↓gate_tf, ↓gate_ft, ↓gate_undef, ↓o_bind, ↓stay_v, ↓pop_cons, ↓fin_nil, Option.isNone_none, Option.isNone_some, Bool.not_true, Bool.not_false, Nat.zero_add, decide_true, decide_false, if_true, if_false, Bool.false_eq_true, ↓reduceIte]
      refine ld_in (b := x) (v := .int .i64 y.n) h rfl ?_
      refine ld_in (b := x) (v := .int .i64 y.t) h rfl ?_
      refine ld_in (b := x) (v := tv y.what) h rfl ?_
      refine ld_in (b := x) (v := tv y.who) h rfl ?_
      have h := h.perm (emp_star _).symm
      have g0 : ∀ {w : World} {A : Prop} {X : HP}, sat E w (X * (pts x (.cells (ecells y).toArray 34 (0, 0)) * (osl 71 2 out l.length (rvs l) * (pers (colsP l) * chI p s (.slice (some ⟨b', o, none⟩) s.l.length c) R)))) → A → stv prog none (Instr.loadAt 3 (.pointer (some ⟨x, 0, none⟩))) (.int .i64 y.n) w A := fun h k => st_cell (cell_of (hxb h) (by rfl)) k
      have g1 : ∀ {w : World} {A : Prop} {X : HP}, sat E w (X * (pts x (.cells (ecells y).toArray 34 (0, 0)) * (osl 71 2 out l.length (rvs l) * (pers (colsP l) * chI p s (.slice (some ⟨b', o, none⟩) s.l.length c) R)))) → A → stv prog none (Instr.loadAt 3 (.pointer (some ⟨x, 1, none⟩))) (.int .i64 y.t) w A := fun h k => st_cell (cell_of (hxb h) (by rfl)) k
      have g2 : ∀ {w : World} {A : Prop} {X : HP}, sat E w (X * (pts x (.cells (ecells y).toArray 34 (0, 0)) * (osl 71 2 out l.length (rvs l) * (pers (colsP l) * chI p s (.slice (some ⟨b', o, none⟩) s.l.length c) R)))) → A → stv prog none (Instr.loadAt 9 (.pointer (some ⟨x, 2, none⟩))) (tv y.what) w A := fun h k => st_cell (cell_of (hxb h) (by rfl)) k
      have g3 : ∀ {w : World} {A : Prop} {X : HP}, sat E w (X * (pts x (.cells (ecells y).toArray 34 (0, 0)) * (osl 71 2 out l.length (rvs l) * (pers (colsP l) * chI p s (.slice (some ⟨b', o, none⟩) s.l.length c) R)))) → A → stv prog none (Instr.loadAt 9 (.pointer (some ⟨x, 3, none⟩))) (tv y.who) w A := fun h k => st_cell (cell_of (hxb h) (by rfl)) k
      refine num_spec h hdI.up fun w h => ?_
      refine g3 h (g2 h (g1 h ?_))
      have e0 : (.string ⟨#[110]⟩ : Value) = tv [110] := rfl
      have l17 := numT_length y.n
      rw [e0, o_catT (by simp; omega)]
      refine num_spec h hdI.up fun w h => ?_
      refine g3 h (g2 h (g0 h ?_))
      refine buildSlice_sl (e := 9) (cs := ([numT y.t, y.what, y.who].map tv).toArray) h (fun w => by kernel_rfl) fun b4 w h => ?_
      rw [← star_assoc] at h
      refine g1 h (g0 h ?_)
      rw [star_assoc] at h
      refine pvv_of (v := .agg (rvc ⟨110 :: numT y.n, .slice (some ⟨b4, 0, none⟩) 3 3, [numT y.t, y.what, y.who]⟩).toArray) (fun w => by kernel_rfl) ?_
      have h : sat E w (osl 9 1 (.slice (some ⟨b4, 0, none⟩) 3 3) 3 ([numT y.t, y.what, y.who].map tv) * _) := osl_of h rfl (by omega)
      have h := osl_freeze h
      generalize hxv : (⟨110 :: numT y.n, .slice (some ⟨b4, 0, none⟩) 3 3, [numT y.t, y.what, y.who]⟩ : RV) = xv
      have hsx : xv.said = evRow s.l[j] := by rw [hx, ← hxv]; rfl
      have h := h.pers_mono (ψ := colsP [xv]) fun I hI z hz => by
        rw [List.mem_singleton.1 hz, ← hxv]
        exact hI
      have hu1 : ∀ q ∈ rvc xv, q.oneCell' = true := by rw [← hxv]; intro q hq; simp [rvc] at hq; rcases hq with rfl | rfl <;> rfl
      clear hxv
      refine buildSlice_sl (e := 71) (cs := (rvc xv).toArray) h (fun w => by kernel_rfl) fun b5 w h => ?_
      have hf : ∀ {w : World} {X Y Z : HP}, sat E w (X * (Y * (Z * (pts x (.cells (ecells y).toArray 34 (0, 0)) * (osl 71 2 out l.length (rvs l) * (pers (colsP l) * chI p s (.slice (some ⟨b', o, none⟩) s.l.length c) R)))))) → sat E w ((X * (Y * Z)) * (pts x (.cells (ecells y).toArray 34 (0, 0)) * (osl 71 2 out l.length (rvs l) * (pers (colsP l) * chI p s (.slice (some ⟨b', o, none⟩) s.l.length c) R)))) := fun h => h.perm (by ac_rfl)
      refine g3 (hf h) (g2 (hf h) (g1 (hf h) (g0 (hf h) ?_)))
      refine append_sl (v := out) h (rvc xv) (k' := 1) rfl (.inr ⟨b5, 0, _, _, _, rfl, h.pts_get, fun j v hj => by simpa using hj⟩) hu1 (by omega) (by omega) fun v' w h => ?_
      have hxb2 : w.heap[x]? = some (.cells (ecells y).toArray 34 (0, 0)) := sat.has h
      refine st_cell (cell_of hxb2 (by rfl)) (st_cell (cell_of hxb2 (by rfl)) (st_cell (cell_of hxb2 (by rfl)) (st_cell (cell_of hxb2 (by rfl)) ?_)))
      try rw [o_add]
      rw [i64_of (by omega) (by omega)]
      refine hag (s.l.length - (j + 1)) _ _ (by omega) ⟨j + 1, v', l ++ [xv], rfl, rfl, by omega, said_take hsl hj2 hsx, ?_⟩
      have h := (h.lose b5).lose x
      have e9 : rvs l ++ rvc xv = rvs (l ++ [xv]) := by rw [rvs_append]; simp [rvs]
      rw [e9] at h
      have h := h.perm (show _ = emp * (pers (colsP l) * (pers (colsP [xv]) * (osl 71 2 v' (l.length + 1) (rvs (l ++ [xv])) * chI p s (.slice (some ⟨b', o, none⟩) s.l.length c) R))) by unfold chI; ac_rfl)
      have h := h.drop
      rw [← star_assoc, pers_and] at h
      have h := h.pers_mono (ψ := colsP (l ++ [xv])) fun I hI => colsP_append hI.1 hI.2
      rw [List.length_append, List.length_singleton]
      exact h.perm (star_left_comm _ _ _)
    · have hj2 : j = s.l.length := by omega
      subst hj2
      refine k out l w ?_ h
      rw [hsl, List.take_length]
      rfl
end Go.Proofs.YtjeiojibnmfibaaDoor

/-
  copy, of a text's bytes into a row of cells.
-/
set_option linter.all false
set_option maxRecDepth 100000
namespace Hold
open Go
variable {P : Program} {E : World0} {w : World} {H R : HP} {K : Value → World → Prop}
theorem bv_list (l : List UInt8) : ((l.toArray.map fun b : UInt8 => Value.int .u8 b.toNat)).toList = l.map bv := by simp [bv]
theorem copy_text (h : sat E w H) {t u ty e e' m : TypeId} {z : Value} [i : SliceT P t e 1 m z] {cs : Array Bool} {b o c : Nat} {xs : List Value} {l : List UInt8} [s : Own H b (.cells xs.toArray e' (0, 0)) R]
    (hle : o + l.length ≤ xs.length) (k : ∀ w', sat E w' (pts b (.cells (xs.take o ++ l.map bv ++ xs.drop (o + l.length)).toArray e' (0, 0)) * R) → K (.int .i64 l.length) w') :
    ef P (oBi .copy #[t, u] ty cs #[.slice (some ⟨b, o, none⟩) l.length c, tv l]) w K := by
  have hs' := h.own b
  have hbl := hs'.pts_get
  have hst := run_storeCells_at P b o e' (l.map bv) 0 xs.toArray w hbl (by simpa using hle) (by intro v hv; obtain ⟨_, _, rfl⟩ := List.mem_map.1 hv; rfl)
  have hsz : (⟨l.toArray⟩ : ByteArray).size = l.length := by simp [ByteArray.size]
  have hex : ((⟨l.toArray⟩ : ByteArray).extract 0 l.length) = ⟨l.toArray⟩ := by
    have := ByteArray.extract_zero_size (b := ⟨l.toArray⟩)
    rwa [hsz] at this
  have hr : (Builtin.copy_ #[t, u] ty #[.slice (some ⟨b, o, none⟩) l.length c, tv l]).run P w = .ok (goInt l.length) (w.setRow b (xs.toArray.toList.take o ++ l.map bv ++ xs.toArray.toList.drop (o + l.length)).toArray) := by
    simp only [Nat.add_zero, List.length_map] at hst
    have hbl2 := bv_list l
    simp [Builtin.copy_, run_underlying i.ul, Builtin.lenOf, Builtin.firstCells, run_sizeOf' i.size, tv, hsz, hex, hst]
    have e1 : List.take l.length (List.map (fun b : UInt8 => Value.int IntKind.u8 (b.toNat : Int)) l) = l.map bv := by
      rw [List.take_of_length_le (by simp)]
      rfl
    rw [e1]
    simp [hst]
  rw [setRow_putObj hbl] at hr
  have ef_bi : ∀ {v' w'}, (Builtin.copy_ #[t, u] ty #[.slice (some ⟨b, o, none⟩) l.length c, tv l]).run P w = .ok v' w' → K v' w' → ef P (oBi .copy #[t, u] ty cs #[.slice (some ⟨b, o, none⟩) l.length c, tv l]) w K := fun hr hk =>
    ef_of (by simp [oBi, builtin, hr]) hk
  exact ef_bi hr (k _ (hs'.set _))
end Hold

/-
  Numbers read out of a row; a hash taken out of one.
-/
set_option linter.all false
set_option maxRecDepth 100000
namespace Go.Proofs.YtjeiojibnmfibaaDoor
open Go Hold
variable {E : World0} {w : World} {H R : HP} {K : Value → World → Prop}
theorem read_spec (G : Nat → HP) {v u : Value} {ns : List Nat} {ps : List Addr} (hl : ns.length ≤ 1000) (hn : ∀ n ∈ ns, n ≤ 4611686018427387904) (hps : ps.length = ns.length) (h : sat E w (G 0 * R))
    (hv : Rds R v ns.length (ns.map fun n => tv (numText n))) (hu : Rds R u ns.length (ps.map fun a => Value.pointer (some a)))
    (hst : ∀ (i n : Nat) (a : Addr) (w : World) (K' : Value → World → Prop), ns[i]? = some n → ps[i]? = some a → sat E w (G i * R) → (∀ w', sat E w' (G (i + 1) * R) → K' undef w') → efu prog (Instr.storeAt 3 (.pointer (some a)) (.int .i64 (n : Int))) w K')
    (k : ∀ w', sat E w' (G ns.length * R) → K (.bool true) w') : Calls prog 40 #[v, u] w (Ret K) := by
  obtain ⟨va, vc, rfl, hvc, hv, _⟩ := hv.shape h.drop
  obtain ⟨ua, uc, rfl, huc, hu, _⟩ := hu.shape h.drop
  refine c40 ?_
  unfold B40
  rw [o_len, o_len, o_neInt, show (!decide ((ns.length : Int) = ns.length)) = false by simp, cd_false, o_len]
  refine lp_nat (fun r σ w => ∃ i : Nat, σ = [.int .i64 (i : Int)] ∧ r = ns.length - i ∧ i ≤ ns.length ∧ sat E w (G i * R)) ns.length ⟨0, rfl, rfl, by omega, h⟩ ?_
  clear h
  rintro r σ w again ⟨i, rfl, rfl, hi, h⟩ hag
  rw [pop_cons, fin_nil, o_lss]
  refine cd_dec (fun hlt => ?_) (fun hge => ?_)
  · have hi1 : i < ns.length := by omega
    have hx : ns[i]? = some ns[i] := List.getElem?_eq_getElem hi1
    have hm : ns[i] ∈ ns := List.getElem_mem hi1
    generalize ns[i] = n at hx hm
    have hi2 : i < ps.length := by omega
    have hy : ps[i]? = some ps[i] := List.getElem?_eq_getElem hi2
    generalize ps[i] = a at hy
    obtain ⟨b1, o1, _, e1, _, hv1⟩ := hv.opened h.drop (by simp; omega)
    cases e1
    obtain ⟨b2, o2, _, e2, _, hu1⟩ := hu.opened h.drop (by simp; omega)
    cases e2
    rw [o_index (by omega) (by omega)]
    refine ld_rd h hv1.right i (by simp) (v := tv (numText n)) (by rw [List.getElem?_map, hx]; rfl) ?_
    have hnl : (numText n).length ≤ 17 := by
      have := hexs_length 16 n (by have := hn n hm; show n < 16 ^ 16; omega)
      simp only [numText, List.length_cons]
      omega
    refine ToNumber_spec h (by omega) fun w h => ?_
    rw [toNum_text (hn n hm), o_extract, o_extract, o_neInt, show (!decide ((0 : Int) = 0)) = false from rfl, cd_false, o_index (by omega) (by omega)]
    refine ld_rd h hu1.right i (by simp) (v := .pointer (some a)) (by rw [List.getElem?_map, hy]; rfl) ?_
    rw [o_nil]
    refine hst i n a w _ hx hy h fun w h => ?_
    try rw [o_add]
    rw [i64_of (by omega) (by omega)]
    exact hag (ns.length - (i + 1)) _ _ (by omega) ⟨i + 1, rfl, rfl, by omega, h⟩
  · have hi2 : i = ns.length := by omega
    subst hi2
    exact k w h
theorem take_spec {b o e' : Nat} {xs : List Value} {key l : List UInt8} {v : Value} [s : Own H b (.cells xs.toArray e' (0, 0)) R] (hl : l.length = 32) (h : sat E w H) (hv : Rds R v 1 [tv l]) (hle : o + 32 ≤ xs.length)
    (k : ∀ w', sat E w' (pts b (.cells (xs.take o ++ l.map bv ++ xs.drop (o + 32)).toArray e' (0, 0)) * R) → K (.bool true) w') : Calls prog 41 #[.agg (rvc ⟨key, v, [l]⟩).toArray, tv key, .pointer (some ⟨b, o, none⟩)] w (Ret K) := by
  have h := h.own b
  obtain ⟨va, vc, rfl, hvc, hv, _⟩ := (show Rds (pts b (.cells xs.toArray e' (0, 0)) * R) v 1 [tv l] from hv.right).shape h
  rename_i hv0
  obtain ⟨b1, o1, c1, e1, _, hv⟩ := hv.opened h (by simp)
  cases e1
  refine c41 ?_
  unfold B41
  refine box_sl h fun rb w h => ?_
  have h : sat E w (pts rb (.cells (rvc ⟨key, .slice (some ⟨b1, o1, none⟩) 1 vc, [l]⟩).toArray 71 (0, 0)) * (pts b (.cells xs.toArray e' (0, 0)) * R)) := h
  simp only [↓o_nil, ↓o_field, ↓o_add, ↓o_sub, ↓o_mul, ↓o_lss, ↓o_leq, ↓o_gtr, ↓o_geq, ↓o_not, ↓o_pick, ↓o_eqInt, ↓o_neInt, ↓o_eqBool, ↓o_neBool, ↓o_eqPtr, ↓o_nePtr, ↓o_eqPtr', ↓o_eqSl, ↓o_neSl, ↓o_eqStr, ↓o_neStr, ↓o_len, ↓o_lenS, ↓o_min, ↓o_max, ↓o_extract, ↓o_convInt, ↓cd_true, ↓cd_false, ↓gate_tt, ↓gate_ff, ↓gate_tf, ↓gate_ft, ↓gate_undef, ↓o_bind, ↓stay_v, ↓pop_cons, ↓fin_nil, Option.isNone_none, Option.isNone_some, Bool.not_true, Bool.not_false, Nat.zero_add, decide_true, decide_false, if_true, if_false, Bool.false_eq_true, ↓reduceIte]
  refine ld_in (b := rb) (v := tv key) h rfl ?_
  rw [o_neT, show (!decide (key = key)) = false by simp]
  try simp only [↓o_nil, ↓o_field, ↓o_add, ↓o_sub, ↓o_mul, ↓o_lss, ↓o_leq, ↓o_gtr, ↓o_geq, ↓o_not, ↓o_pick, ↓o_eqInt, ↓o_neInt, ↓o_eqBool, ↓o_neBool, ↓o_eqPtr, ↓o_nePtr, ↓o_eqPtr', ↓o_eqSl, ↓o_neSl, ↓o_eqStr, ↓o_neStr, ↓o_len, ↓o_lenS, ↓o_min, ↓o_max, ↓o_extract, ↓o_convInt, ↓cd_true, ↓cd_false, ↓gate_tt, ↓gate_ff, ↓gate_tf, ↓gate_ft, ↓gate_undef, ↓o_bind, ↓stay_v, ↓pop_cons, ↓fin_nil, Option.isNone_none, Option.isNone_some, Bool.not_true, Bool.not_false, Nat.zero_add, decide_true, decide_false, if_true, if_false, Bool.false_eq_true, ↓reduceIte]
  refine ld_in (b := rb) (v := .slice (some ⟨b1, o1, none⟩) 1 vc) h rfl ?_
  simp only [show decide (((1 : Nat) : Int) = 1) = true from rfl, ↓o_nil, ↓o_field, ↓o_add, ↓o_sub, ↓o_mul, ↓o_lss, ↓o_leq, ↓o_gtr, ↓o_geq, ↓o_not, ↓o_pick, ↓o_eqInt, ↓o_neInt, ↓o_eqBool, ↓o_neBool, ↓o_eqPtr, ↓o_nePtr, ↓o_eqPtr', ↓o_eqSl, ↓o_neSl, ↓o_eqStr, ↓o_neStr, ↓o_len, ↓o_lenS, ↓o_min, ↓o_max, ↓o_extract, ↓o_convInt, ↓cd_true, ↓cd_false, ↓gate_tt, ↓gate_ff, ↓gate_tf, ↓gate_ft, ↓gate_undef, ↓o_bind, ↓stay_v, ↓pop_cons, ↓fin_nil, Option.isNone_none, Option.isNone_some, Bool.not_true, Bool.not_false, Nat.zero_add, decide_true, decide_false, if_true, if_false, Bool.false_eq_true, ↓reduceIte]
  refine ld_in (b := rb) (v := .slice (some ⟨b1, o1, none⟩) 1 vc) h rfl ?_
  try simp only [↓o_nil, ↓o_field, ↓o_add, ↓o_sub, ↓o_mul, ↓o_lss, ↓o_leq, ↓o_gtr, ↓o_geq, ↓o_not, ↓o_pick, ↓o_eqInt, ↓o_neInt, ↓o_eqBool, ↓o_neBool, ↓o_eqPtr, ↓o_nePtr, ↓o_eqPtr', ↓o_eqSl, ↓o_neSl, ↓o_eqStr, ↓o_neStr, ↓o_len, ↓o_lenS, ↓o_min, ↓o_max, ↓o_extract, ↓o_convInt, ↓cd_true, ↓cd_false, ↓gate_tt, ↓gate_ff, ↓gate_tf, ↓gate_ft, ↓gate_undef, ↓o_bind, ↓stay_v, ↓pop_cons, ↓fin_nil, Option.isNone_none, Option.isNone_some, Bool.not_true, Bool.not_false, Nat.zero_add, decide_true, decide_false, if_true, if_false, Bool.false_eq_true, ↓reduceIte]
  rw [o_index (by decide) (by decide)]
  try simp only [↓o_nil, ↓o_field, ↓o_add, ↓o_sub, ↓o_mul, ↓o_lss, ↓o_leq, ↓o_gtr, ↓o_geq, ↓o_not, ↓o_pick, ↓o_eqInt, ↓o_neInt, ↓o_eqBool, ↓o_neBool, ↓o_eqPtr, ↓o_nePtr, ↓o_eqPtr', ↓o_eqSl, ↓o_neSl, ↓o_eqStr, ↓o_neStr, ↓o_len, ↓o_lenS, ↓o_min, ↓o_max, ↓o_extract, ↓o_convInt, ↓cd_true, ↓cd_false, ↓gate_tt, ↓gate_ff, ↓gate_tf, ↓gate_ft, ↓gate_undef, ↓o_bind, ↓stay_v, ↓pop_cons, ↓fin_nil, Option.isNone_none, Option.isNone_some, Bool.not_true, Bool.not_false, Nat.zero_add, decide_true, decide_false, if_true, if_false, Bool.false_eq_true, ↓reduceIte]
  refine ld_rd h hv.right 0 rfl (v := tv l) rfl ?_
  try simp only [↓o_lenT, ↓o_nil, ↓o_field, ↓o_add, ↓o_sub, ↓o_mul, ↓o_lss, ↓o_leq, ↓o_gtr, ↓o_geq, ↓o_not, ↓o_pick, ↓o_eqInt, ↓o_neInt, ↓o_eqBool, ↓o_neBool, ↓o_eqPtr, ↓o_nePtr, ↓o_eqPtr', ↓o_eqSl, ↓o_neSl, ↓o_eqStr, ↓o_neStr, ↓o_len, ↓o_lenS, ↓o_min, ↓o_max, ↓o_extract, ↓o_convInt, ↓cd_true, ↓cd_false, ↓gate_tt, ↓gate_ff, ↓gate_tf, ↓gate_ft, ↓gate_undef, ↓o_bind, ↓stay_v, ↓pop_cons, ↓fin_nil, Option.isNone_none, Option.isNone_some, Bool.not_true, Bool.not_false, Nat.zero_add, decide_true, decide_false, if_true, if_false, Bool.false_eq_true, ↓reduceIte]
  rw [show (!decide ((l.length : Int) = 32)) = false by simp [hl], cd_false]
  refine dr_sl h fun w h _ => ?_
  rw [o_sliceA]
  try simp only [↓o_nil, ↓o_field, ↓o_add, ↓o_sub, ↓o_mul, ↓o_lss, ↓o_leq, ↓o_gtr, ↓o_geq, ↓o_not, ↓o_pick, ↓o_eqInt, ↓o_neInt, ↓o_eqBool, ↓o_neBool, ↓o_eqPtr, ↓o_nePtr, ↓o_eqPtr', ↓o_eqSl, ↓o_neSl, ↓o_eqStr, ↓o_neStr, ↓o_len, ↓o_lenS, ↓o_min, ↓o_max, ↓o_extract, ↓o_convInt, ↓cd_true, ↓cd_false, ↓gate_tt, ↓gate_ff, ↓gate_tf, ↓gate_ft, ↓gate_undef, ↓o_bind, ↓stay_v, ↓pop_cons, ↓fin_nil, Option.isNone_none, Option.isNone_some, Bool.not_true, Bool.not_false, Nat.zero_add, decide_true, decide_false, if_true, if_false, Bool.false_eq_true, ↓reduceIte]
  refine ld_in (b := rb) (v := .slice (some ⟨b1, o1, none⟩) 1 vc) h rfl ?_
  rw [o_index (by decide) (by decide)]
  refine ld_rd h hv.right 0 rfl (v := tv l) rfl ?_
  have e32 : (Value.slice (some ⟨b, o, none⟩) 32 32) = .slice (some ⟨b, o, none⟩) l.length 32 := by rw [hl]
  rw [e32]
  refine copy_text (b := b) h (by omega) fun w h => ?_
  rw [hl] at h
  refine st_in (b := rb) (v := .slice (some ⟨b1, o1, none⟩) 1 vc) h rfl ?_
  exact k w (h.perm (show _ = pts rb (.cells (rvc ⟨key, .slice (some ⟨b1, o1, none⟩) 1 vc, [l]⟩).toArray 71 (0, 0)) * (pts b (.cells (xs.take o ++ l.map bv ++ xs.drop (o + 32)).toArray e' (0, 0)) * R) by ac_rfl)).drop
end Go.Proofs.YtjeiojibnmfibaaDoor

/-
  A chain loaded from its own rows.
-/
set_option linter.all false
set_option maxRecDepth 100000
namespace Go.Proofs.YtjeiojibnmfibaaDoor
open Go Hold
variable {E : World0} {w : World} {H R : HP} {K : Value → World → Prop}
structure Small (s : Ch) : Prop where
  l0 : 0 ≤ s.last
  l1 : s.last ≤ 1099511627776
  ev : ∀ x ∈ s.l, 0 ≤ x.t ∧ x.what.length ≤ 12 ∧ x.who.length ≤ 30
theorem small_new : Small newS := ⟨by simp [newS], by simp [newS], by simp [newS]⟩
theorem small_do {s : Ch} {x : Deed} (h : Small s) : Small (doS s x) := by
  unfold doS
  split
  · unfold addS
    split
    · exact h
    · split
      · exact h
      · split
        · exact h
        · split
          · exact h
          · refine ⟨by simp only; omega, by simp only; omega, fun y hy => ?_⟩
            rcases List.mem_append.1 hy with hy | hy
            · exact h.ev y hy
            · rw [List.mem_singleton.1 hy]
              exact ⟨by simp only [newE]; omega, by simp only [newE]; omega, by simp only [newE]; omega⟩
  · split
    · exact ⟨h.l0, h.l1, h.ev⟩
    · split
      · unfold pruneS
        split
        · exact h
        · exact ⟨h.l0, h.l1, fun y hy => h.ev y (List.mem_of_mem_drop hy)⟩
      · exact h
theorem numT_nat {n : Int} (h0 : 0 ≤ n) (h1 : n ≤ 4611686018427387904) : numT n = numText n.toNat := by
  unfold numT number
  rw [if_neg (by omega)]
theorem ip_bn {s : Ch} {v : Value} {n : Int} : (icells s v).set 0 (.int .i64 n) = icells { s with bn := n } v := rfl
theorem ip_an {s : Ch} {m : Nat} {v : Value} (ok : Ok s m) {n : Int} : (icells s v).set 33 (.int .i64 n) = icells { s with an := n } v := part_set (.int .i64 s.bn :: s.bh.map bv) (s.ah.map bv ++ (s.hd.map bv ++ [.int .i64 s.last, v])) (x := .int .i64 s.an) (by simp [icells]) (by simp [ok.b]) (by simp [icells])
structure Len3 (s : Ch) : Prop where
  b : s.bh.length = 32
  a : s.ah.length = 32
  h : s.hd.length = 32
theorem ip_an3 {s : Ch} {v : Value} (ok : Len3 s) {n : Int} : (icells s v).set 33 (.int .i64 n) = icells { s with an := n } v := part_set (.int .i64 s.bn :: s.bh.map bv) (s.ah.map bv ++ (s.hd.map bv ++ [.int .i64 s.last, v])) (x := .int .i64 s.an) (by simp [icells]) (by simp [ok.b]) (by simp [icells])
theorem ip_last3 {s : Ch} {v : Value} (ok : Len3 s) {t : Int} : (icells s v).set 98 (.int .i64 t) = icells { s with last := t } v := part_set (.int .i64 s.bn :: (s.bh.map bv ++ (.int .i64 s.an :: (s.ah.map bv ++ s.hd.map bv)))) [v] (x := .int .i64 s.last) (by simp [icells]) (by simp [ok.b, ok.a, ok.h]) (by simp [icells])
theorem ip_ah3 {s : Ch} {v : Value} (ok : Len3 s) {h : List UInt8} (_ : h.length = 32) : (icells s v).take 34 ++ h.map bv ++ (icells s v).drop (34 + 32) = icells { s with ah := h } v := part_put (.int .i64 s.bn :: (s.bh.map bv ++ [.int .i64 s.an])) (s.ah.map bv) (s.hd.map bv ++ [.int .i64 s.last, v]) _ (by simp [icells]) (by simp [ok.b]) (by simp [ok.a]) (by simp [icells])
theorem ip_bh3 {s : Ch} {v : Value} (ok : Len3 s) {h : List UInt8} (_ : h.length = 32) : (icells s v).take 1 ++ h.map bv ++ (icells s v).drop (1 + 32) = icells { s with bh := h } v := part_put [.int .i64 s.bn] (s.bh.map bv) (.int .i64 s.an :: (s.ah.map bv ++ (s.hd.map bv ++ [.int .i64 s.last, v]))) _ (by simp [icells]) rfl (by simp [ok.b]) (by simp [icells])
theorem ip_hd3 {s : Ch} {v : Value} (ok : Len3 s) {h : List UInt8} (_ : h.length = 32) : (icells s v).take 66 ++ h.map bv ++ (icells s v).drop (66 + 32) = icells { s with hd := h } v := part_put (.int .i64 s.bn :: (s.bh.map bv ++ (.int .i64 s.an :: s.ah.map bv))) (s.hd.map bv) [.int .i64 s.last, v] _ (by simp [icells]) (by simp [ok.b, ok.a]) (by simp [ok.h]) (by simp [icells])
theorem ic_an3 {s : Ch} {v : Value} (ok : Len3 s) : (icells s v)[33]? = some (.int .i64 s.an) := part_cell (.int .i64 s.bn :: s.bh.map bv) (s.ah.map bv ++ (s.hd.map bv ++ [.int .i64 s.last, v])) (by simp [icells]) (by simp [ok.b])
theorem ic_last3 {s : Ch} {v : Value} (ok : Len3 s) : (icells s v)[98]? = some (.int .i64 s.last) := part_cell (.int .i64 s.bn :: (s.bh.map bv ++ (.int .i64 s.an :: (s.ah.map bv ++ s.hd.map bv)))) [v] (by simp [icells]) (by simp [ok.b, ok.a, ok.h])
theorem ic_len3 {s : Ch} {v : Value} (ok : Len3 s) : (icells s v).length = 100 := by simp [icells, ok.b, ok.a, ok.h]
def chA (s : Ch) (bh ah hd : List UInt8) (l : List Evt) : Ch := ⟨s.bn, bh, s.an, ah, hd, s.last, l⟩
/-- The chain while it is loaded: with fresh numbers, hashes, events. -/
abbrev cI (p : Nat) (s : Ch) (v : Value) : HP := pts p (.cells (icells s v).toArray 59 (0, 0))
theorem said_at {l : List RV} {s : Ch} (hs : l.map RV.said = rowsOf s) {i : Nat} {y : List UInt8 × List (List UInt8)} (hy : (rowsOf s)[i]? = some y) : ∃ x, l[i]? = some x ∧ x.said = y := by
  rw [← hs, List.getElem?_map, Option.map_eq_some_iff] at hy
  obtain ⟨x, h1, h2⟩ := hy
  exact ⟨x, h1, h2⟩
theorem Load_spec {u : Value} {l : List RV} {s : Ch} {m : Nat} (ok : Ok s m) (hm : m ≤ 1000000) (sm : Small s) (rn : Risen s) (hd : Dbt R) (hs : l.map RV.said = rowsOf s) (h : sat E w (osl 71 2 u l.length (rvs l) * (pers (colsP l) * R)))
    (k : ∀ p v w', sat E w' (chI p s v (osl 71 2 u l.length (rvs l) * (pers (colsP l) * R))) → K (.tuple #[.pointer (some ⟨p, 0, none⟩), .int .i64 0]) w') : Calls prog 25 #[u] w (Ret K) := by
  have hlen : l.length = 4 + s.l.length := by
    have := congrArg List.length hs
    simp [rowsOf, heads] at this
    omega
  have hfew := ok.few
  obtain ⟨x0, hx0, s0⟩ := said_at hs (i := 0) rfl
  obtain ⟨x1, hx1, s1⟩ := said_at hs (i := 1) rfl
  obtain ⟨x2, hx2, s2⟩ := said_at hs (i := 2) rfl
  obtain ⟨x3, hx3, s3⟩ := said_at hs (i := 3) rfl
  obtain ⟨k0, v0, c0⟩ := x0
  obtain ⟨k1, v1, c1⟩ := x1
  obtain ⟨k2, v2, c2⟩ := x2
  obtain ⟨k3, v3, c3⟩ := x3
  simp only [RV.said, Prod.mk.injEq] at s0 s1 s2 s3
  obtain ⟨rfl, rfl⟩ := s0
  obtain ⟨rfl, rfl⟩ := s1
  obtain ⟨rfl, rfl⟩ := s2
  obtain ⟨rfl, rfl⟩ := s3
  obtain ⟨ua, uc, rfl, huc, _, hpos⟩ := osl_shape h
  obtain ⟨ub, hub⟩ := hpos (by omega)
  subst hub
  have hcols := (h.perm (star_left_comm _ _ _)).pers_get
  refine c25 ?_
  unfold B25
  refine New_spec h fun p w h => ?_
  refine dr_sl h fun w h _ => ?_
  have e35 : (.string ⟨#[35]⟩ : Value) = tv [35] := rfl
  rw [e35]
  rw [o_len]
  simp only [decide_eq_false (show ¬ (l.length : Int) < 4 by omega), decide_eq_false (show ¬ (68 : Int) < (l.length : Int) by omega), ↓o_nil, ↓o_field, ↓o_add, ↓o_sub, ↓o_mul, ↓o_lss, ↓o_leq, ↓o_gtr, ↓o_geq, ↓o_not, ↓o_pick, ↓o_eqInt, ↓o_neInt, ↓o_eqBool, ↓o_neBool, ↓o_eqPtr, ↓o_nePtr, ↓o_eqPtr', ↓o_eqSl, ↓o_neSl, ↓o_eqStr, ↓o_neStr, ↓o_len, ↓o_lenS, ↓o_min, ↓o_max, ↓o_extract, ↓o_convInt, ↓cd_true, ↓cd_false, ↓gate_tt, ↓gate_ff, ↓gate_tf, ↓gate_ft, ↓gate_undef, ↓o_bind, ↓stay_v, ↓pop_cons, ↓fin_nil, Option.isNone_none, Option.isNone_some, Bool.not_true, Bool.not_false, Nat.zero_add, decide_true, decide_false, if_true, if_false, Bool.false_eq_true, ↓reduceIte]
  have hrl : ∀ {X : HP}, Rds (X * (osl 71 2 (.slice (some ⟨ub, 0, none⟩) l.length uc) l.length (rvs l) * (pers (colsP l) * R))) (.slice (some ⟨ub, 0, none⟩) l.length uc) l.length (rvs l) := fun {X} => Rds.osl.left.right
  have ix : ∀ (i : Nat) {w : World} {K : Value → World → Prop}, i < l.length → pvv prog (Instr.indexAt 51 (.slice (some ⟨ub, 0, none⟩) l.length uc) (.int .i64 (i : Int))) w K = K (.pointer (some ⟨ub, 0 + i * 2, none⟩)) w := fun i {w K} hi => by
    rw [o_index (by omega) (by omega), Int.toNat_natCast]
  have ix0 : ∀ {w : World} {K : Value → World → Prop}, pvv prog (Instr.indexAt 51 (.slice (some ⟨ub, 0, none⟩) l.length uc) (.int .i64 0)) w K = K (.pointer (some ⟨ub, 0, none⟩)) w := fun {w K} => ix 0 (by omega)
  simp only [ix0, ↓o_nil, ↓o_field, ↓o_add, ↓o_sub, ↓o_mul, ↓o_lss, ↓o_leq, ↓o_gtr, ↓o_geq, ↓o_not, ↓o_pick, ↓o_eqInt, ↓o_neInt, ↓o_eqBool, ↓o_neBool, ↓o_eqPtr, ↓o_nePtr, ↓o_eqPtr', ↓o_eqSl, ↓o_neSl, ↓o_eqStr, ↓o_neStr, ↓o_len, ↓o_lenS, ↓o_min, ↓o_max, ↓o_extract, ↓o_convInt, ↓cd_true, ↓cd_false, ↓gate_tt, ↓gate_ff, ↓gate_tf, ↓gate_ft, ↓gate_undef, ↓o_bind, ↓stay_v, ↓pop_cons, ↓fin_nil, Option.isNone_none, Option.isNone_some, Bool.not_true, Bool.not_false, Nat.zero_add, decide_true, decide_false, if_true, if_false, Bool.false_eq_true, ↓reduceIte]
  have hcell : ∀ {i f : Nat} {x : RV} {val : Value}, l[i]? = some x → (rvc x)[f]? = some val → (rvs l)[i * 2 + f]? = some val := fun hx hf => take_cell (rvs_at hx) hf
  have hcol : ∀ {i : Nat} {x : RV}, l[i]? = some x → Rds (pers (colsP l)) x.v x.cols.length (x.cols.map tv) := fun hx E w hs => (hs.whole).pers_get _ (List.mem_of_getElem? hx)
  refine ld_rd h Rds.osl.left.right.right (0 * 2 + 0) rfl (hcell hx0 rfl) ?_
  rw [o_neT, show (!decide (([35] : List UInt8) = [35])) = false from rfl]
  simp only [ix0, ↓o_nil, ↓o_field, ↓o_add, ↓o_sub, ↓o_mul, ↓o_lss, ↓o_leq, ↓o_gtr, ↓o_geq, ↓o_not, ↓o_pick, ↓o_eqInt, ↓o_neInt, ↓o_eqBool, ↓o_neBool, ↓o_eqPtr, ↓o_nePtr, ↓o_eqPtr', ↓o_eqSl, ↓o_neSl, ↓o_eqStr, ↓o_neStr, ↓o_len, ↓o_lenS, ↓o_min, ↓o_max, ↓o_extract, ↓o_convInt, ↓cd_true, ↓cd_false, ↓gate_tt, ↓gate_ff, ↓gate_tf, ↓gate_ft, ↓gate_undef, ↓o_bind, ↓stay_v, ↓pop_cons, ↓fin_nil, Option.isNone_none, Option.isNone_some, Bool.not_true, Bool.not_false, Nat.zero_add, decide_true, decide_false, if_true, if_false, Bool.false_eq_true, ↓reduceIte]
  refine ld_rd h Rds.osl.left.right.right (0 * 2 + 1) rfl (hcell hx0 rfl) ?_
  simp only [↓o_nil, ↓o_field, ↓o_add, ↓o_sub, ↓o_mul, ↓o_lss, ↓o_leq, ↓o_gtr, ↓o_geq, ↓o_not, ↓o_pick, ↓o_eqInt, ↓o_neInt, ↓o_eqBool, ↓o_neBool, ↓o_eqPtr, ↓o_nePtr, ↓o_eqPtr', ↓o_eqSl, ↓o_neSl, ↓o_eqStr, ↓o_neStr, ↓o_len, ↓o_lenS, ↓o_min, ↓o_max, ↓o_extract, ↓o_convInt, ↓cd_true, ↓cd_false, ↓gate_tt, ↓gate_ff, ↓gate_tf, ↓gate_ft, ↓gate_undef, ↓o_bind, ↓stay_v, ↓pop_cons, ↓fin_nil, Option.isNone_none, Option.isNone_some, Bool.not_true, Bool.not_false, Nat.zero_add, decide_true, decide_false, if_true, if_false, Bool.false_eq_true, ↓reduceIte]
  refine buildSlice_sl (e := 74) (cs := #[.pointer (some ⟨p, 0, none⟩), .pointer (some ⟨p, 33, none⟩), .pointer (some ⟨p, 98, none⟩)]) h (fun w => by kernel_rfl) fun b5 w h => ?_
  try simp only [↓o_nil, ↓o_field, ↓o_add, ↓o_sub, ↓o_mul, ↓o_lss, ↓o_leq, ↓o_gtr, ↓o_geq, ↓o_not, ↓o_pick, ↓o_eqInt, ↓o_neInt, ↓o_eqBool, ↓o_neBool, ↓o_eqPtr, ↓o_nePtr, ↓o_eqPtr', ↓o_eqSl, ↓o_neSl, ↓o_eqStr, ↓o_neStr, ↓o_len, ↓o_lenS, ↓o_min, ↓o_max, ↓o_extract, ↓o_convInt, ↓cd_true, ↓cd_false, ↓gate_tt, ↓gate_ff, ↓gate_tf, ↓gate_ft, ↓gate_undef, ↓o_bind, ↓stay_v, ↓pop_cons, ↓fin_nil, Option.isNone_none, Option.isNone_some, Bool.not_true, Bool.not_false, Nat.zero_add, decide_true, decide_false, if_true, if_false, Bool.false_eq_true, ↓reduceIte]
  have hb0 := ok.b0
  have ha0 := ok.a0
  have hle := ok.le
  have htop := ok.top
  have hl0 := sm.l0
  have hl1 := sm.l1
  have stk : ∀ {w : World} {X : HP} {g : Gd} {A : Prop}, sat E w (X * (osl 71 2 (.slice (some ⟨ub, 0, none⟩) l.length uc) l.length (rvs l) * (pers (colsP l) * R))) → A → stv prog g (Instr.loadAt 9 (.pointer (some ⟨ub, 0, none⟩))) (tv [35]) w A := fun h a => st_rd h Rds.osl.left.right (0 * 2 + 0) rfl (hcell hx0 rfl) a
  have h : sat E w ((pts b5 (.cells #[.pointer (some ⟨p, 0, none⟩), .pointer (some ⟨p, 33, none⟩), .pointer (some ⟨p, 98, none⟩)] 74 (0, 0)) * (cI p newS (.slice none 0 0) * pers (immS (.slice none 0 0) newS.l.length (evs newS.l)))) * (osl 71 2 (.slice (some ⟨ub, 0, none⟩) l.length uc) l.length (rvs l) * (pers (colsP l) * R))) := h.perm (by unfold chI cI; ac_rfl)
  refine st_rd h Rds.osl.left.right (0 * 2 + 1) rfl (hcell hx0 rfl) (stk h ?_)
  have hN : [numT s.bn, numT s.an, numT s.last].map tv = [s.bn.toNat, s.an.toNat, s.last.toNat].map fun n => tv (numText n) := by
    simp only [List.map_cons, List.map_nil]
    rw [numT_nat (n := s.bn) (by omega) (by omega), numT_nat (n := s.an) (by omega) (by omega), numT_nat (n := s.last) (by omega) (by omega)]
  have hr0 := hcol hx0
  rw [hN] at hr0
  have ok1 : Ok { newS with bn := s.bn } 0 ∨ True := .inr trivial
  let Gs : Nat → Ch := fun i => match i with
    | 0 => newS
    | 1 => { newS with bn := s.bn }
    | 2 => { newS with bn := s.bn, an := s.an }
    | _ => { newS with bn := s.bn, an := s.an, last := s.last }
  have h : sat E w (cI p (Gs 0) (.slice none 0 0) * (pts b5 (.cells #[.pointer (some ⟨p, 0, none⟩), .pointer (some ⟨p, 33, none⟩), .pointer (some ⟨p, 98, none⟩)] 74 (0, 0)) * (pers (immS (.slice none 0 0) newS.l.length (evs newS.l)) * (osl 71 2 (.slice (some ⟨ub, 0, none⟩) l.length uc) l.length (rvs l) * (pers (colsP l) * R))))) := h.perm (by unfold cI; ac_rfl)
  refine read_spec (fun i => cI p (Gs i) (.slice none 0 0)) (ns := [s.bn.toNat, s.an.toNat, s.last.toNat]) (ps := [⟨p, 0, none⟩, ⟨p, 33, none⟩, ⟨p, 98, none⟩]) (by simp) ?_ rfl h (hr0.left.right.right.right) ?_ ?_ fun w h => ?_
  · intro n hn
    simp at hn
    omega
  · exact rds_row (b := b5) (e := 74) (xs := [Value.pointer (some ⟨p, 0, none⟩), .pointer (some ⟨p, 33, none⟩), .pointer (some ⟨p, 98, none⟩)]) (sp := []) (fr := (0, 0)) (Nat.le_refl _)
  · intro i n a w K' hn ha h hk
    have nat : ∀ {z : Int}, 0 ≤ z → ((z.toNat : Nat) : Int) = z := fun h => Int.toNat_of_nonneg h
    match i, hn, ha with
    | 0, hn, ha =>
      simp only [List.getElem?_cons_zero, Option.some.injEq] at hn ha
      subst hn ha
      rw [nat hb0]
      exact store_sl (b := p) h rfl (by simp [icells]) fun w h => hk w h
    | 1, hn, ha =>
      simp only [List.getElem?_cons_succ, List.getElem?_cons_zero, Option.some.injEq] at hn ha
      subst hn ha
      rw [nat ha0]
      refine store_sl (b := p) h rfl (by simp [Gs, icells, newS, zeros32]) fun w h => hk w ?_
      rw [ip_an3 (s := Gs 1) ⟨rfl, rfl, rfl⟩] at h
      exact h
    | 2, hn, ha =>
      simp only [List.getElem?_cons_succ, List.getElem?_cons_zero, Option.some.injEq] at hn ha
      subst hn ha
      rw [nat hl0]
      refine store_sl (b := p) h rfl (by simp [Gs, icells, newS, zeros32]) fun w h => hk w ?_
      rw [ip_last3 (s := Gs 2) ⟨rfl, rfl, rfl⟩] at h
      exact h
    | i + 3, hn, ha => simp at hn
  refine stk ((h.perm (show _ = (cI p (Gs 3) (.slice none 0 0) * (pts b5 (.cells #[.pointer (some ⟨p, 0, none⟩), .pointer (some ⟨p, 33, none⟩), .pointer (some ⟨p, 98, none⟩)] 74 (0, 0)) * pers (immS (.slice none 0 0) newS.l.length (evs newS.l)))) * (osl 71 2 (.slice (some ⟨ub, 0, none⟩) l.length uc) l.length (rvs l) * (pers (colsP l) * R)) by ac_rfl))) ?_
  rw [o_not, Bool.not_true, cd_false]
  have h : sat E w (cI p (chA s zeros32 zeros32 zeros32 []) (.slice none 0 0) * (pts b5 (.cells #[.pointer (some ⟨p, 0, none⟩), .pointer (some ⟨p, 33, none⟩), .pointer (some ⟨p, 98, none⟩)] 74 (0, 0)) * (pers (immS (.slice none 0 0) newS.l.length (evs newS.l)) * (osl 71 2 (.slice (some ⟨ub, 0, none⟩) l.length uc) l.length (rvs l) * (pers (colsP l) * R))))) := h
  have h := h.lose b5
  clear hr0 hN ok1
  have L3 : Len3 (chA s zeros32 zeros32 zeros32 []) := ⟨rfl, rfl, rfl⟩
  have max3 : ∀ {a b c : Int} {w : World} {K : Value → World → Prop}, K (.int .i64 (max (max a b) c)) w → pv prog (oBi .max #[3, 3, 3] 3 #[false, false, false] #[.int .i64 a, .int .i64 b, .int .i64 c]) w K := by
    intro a b c w K hk
    rw [pv_eq (v := .int .i64 (max (max a b) c)) (fun w => ?_)]
    · exact hk
    · have : (Builtin.max_ #[3, 3, 3] 3 #[.int .i64 a, .int .i64 b, .int .i64 c]).run prog w = .ok (.int .i64 (if c > (if b > a then b else a) then c else (if b > a then b else a))) w := by
        simp [Builtin.max_, Builtin.max2]
      simp only [oBi, builtin, Sem.run_bind, this, Result.andThen_ok, Sem.run_pure]
      congr 3
      omega
  refine dr_sl h fun w h _ => ?_
  refine ld_in (b := p) (v := .int .i64 s.bn) h rfl ?_
  refine ld_in (b := p) (v := .int .i64 s.an) h (ic_an3 (s := chA s zeros32 zeros32 zeros32 []) L3) ?_
  refine ld_in (b := p) (v := .int .i64 s.last) h (ic_last3 (s := chA s zeros32 zeros32 zeros32 []) L3) ?_
  refine max3 ?_
  simp only [decide_eq_true (show max (max s.bn s.an) s.last ≤ 1099511627776 by omega), ↓o_nil, ↓o_field, ↓o_add, ↓o_sub, ↓o_mul, ↓o_lss, ↓o_leq, ↓o_gtr, ↓o_geq, ↓o_not, ↓o_pick, ↓o_eqInt, ↓o_neInt, ↓o_eqBool, ↓o_neBool, ↓o_eqPtr, ↓o_nePtr, ↓o_eqPtr', ↓o_eqSl, ↓o_neSl, ↓o_eqStr, ↓o_neStr, ↓o_len, ↓o_lenS, ↓o_min, ↓o_max, ↓o_extract, ↓o_convInt, ↓cd_true, ↓cd_false, ↓gate_tt, ↓gate_ff, ↓gate_tf, ↓gate_ft, ↓gate_undef, ↓o_bind, ↓stay_v, ↓pop_cons, ↓fin_nil, Option.isNone_none, Option.isNone_some, Bool.not_true, Bool.not_false, Nat.zero_add, decide_true, decide_false, if_true, if_false, Bool.false_eq_true, ↓reduceIte]
  refine ld_in (b := p) (v := .int .i64 s.an) h (ic_an3 (s := chA s zeros32 zeros32 zeros32 []) L3) ?_
  try simp only [↓o_nil, ↓o_field, ↓o_add, ↓o_sub, ↓o_mul, ↓o_lss, ↓o_leq, ↓o_gtr, ↓o_geq, ↓o_not, ↓o_pick, ↓o_eqInt, ↓o_neInt, ↓o_eqBool, ↓o_neBool, ↓o_eqPtr, ↓o_nePtr, ↓o_eqPtr', ↓o_eqSl, ↓o_neSl, ↓o_eqStr, ↓o_neStr, ↓o_len, ↓o_lenS, ↓o_min, ↓o_max, ↓o_extract, ↓o_convInt, ↓cd_true, ↓cd_false, ↓gate_tt, ↓gate_ff, ↓gate_tf, ↓gate_ft, ↓gate_undef, ↓o_bind, ↓stay_v, ↓pop_cons, ↓fin_nil, Option.isNone_none, Option.isNone_some, Bool.not_true, Bool.not_false, Nat.zero_add, decide_true, decide_false, if_true, if_false, Bool.false_eq_true, ↓reduceIte]
  refine ld_in (b := p) (v := .int .i64 s.bn) h rfl ?_
  rw [o_add, i64_of (by omega) (by omega), o_sub, i64_of (by omega) (by omega), o_leq, decide_eq_true (show s.an ≤ s.bn + (l.length : Int) - 4 by omega)]
  refine dr_sl h fun w h _ => ?_
  have e97 : (.string ⟨#[97]⟩ : Value) = tv [97] := rfl
  have e98 : (.string ⟨#[98]⟩ : Value) = tv [98] := rfl
  have e104 : (.string ⟨#[104]⟩ : Value) = tv [104] := rfl
  rw [e97, e98, e104]
  have ix1 : ∀ {w : World} {K : Value → World → Prop}, pvv prog (Instr.indexAt 51 (.slice (some ⟨ub, 0, none⟩) l.length uc) (.int .i64 1)) w K = K (.pointer (some ⟨ub, 2, none⟩)) w := fun {w K} => ix 1 (by omega)
  have ix2 : ∀ {w : World} {K : Value → World → Prop}, pvv prog (Instr.indexAt 51 (.slice (some ⟨ub, 0, none⟩) l.length uc) (.int .i64 2)) w K = K (.pointer (some ⟨ub, 4, none⟩)) w := fun {w K} => ix 2 (by omega)
  have ix3 : ∀ {w : World} {K : Value → World → Prop}, pvv prog (Instr.indexAt 51 (.slice (some ⟨ub, 0, none⟩) l.length uc) (.int .i64 3)) w K = K (.pointer (some ⟨ub, 6, none⟩)) w := fun {w K} => ix 3 (by omega)
  simp only [ix1, ↓o_nil, ↓o_field, ↓o_add, ↓o_sub, ↓o_mul, ↓o_lss, ↓o_leq, ↓o_gtr, ↓o_geq, ↓o_not, ↓o_pick, ↓o_eqInt, ↓o_neInt, ↓o_eqBool, ↓o_neBool, ↓o_eqPtr, ↓o_nePtr, ↓o_eqPtr', ↓o_eqSl, ↓o_neSl, ↓o_eqStr, ↓o_neStr, ↓o_len, ↓o_lenS, ↓o_min, ↓o_max, ↓o_extract, ↓o_convInt, ↓cd_true, ↓cd_false, ↓gate_tt, ↓gate_ff, ↓gate_tf, ↓gate_ft, ↓gate_undef, ↓o_bind, ↓stay_v, ↓pop_cons, ↓fin_nil, Option.isNone_none, Option.isNone_some, Bool.not_true, Bool.not_false, Nat.zero_add, decide_true, decide_false, if_true, if_false, Bool.false_eq_true, ↓reduceIte]
  refine ld_el h Rds.osl.left.right.right (1 * 2) rfl (rvc ⟨[97], v1, [s.ah]⟩) rfl (rvs_at hx1) ?_
  refine take_spec (b := p) ok.a h ((hcol hx1).left.right.right) (by rw [ic_len3 L3]; decide) fun w h => ?_
  rw [ip_ah3 (s := chA s zeros32 zeros32 zeros32 []) L3 ok.a] at h
  have h : sat E w (cI p (chA s zeros32 s.ah zeros32 []) (.slice none 0 0) * (pers (immS (.slice none 0 0) newS.l.length (evs newS.l)) * (osl 71 2 (.slice (some ⟨ub, 0, none⟩) l.length uc) l.length (rvs l) * (pers (colsP l) * R)))) := h
  have L3 : Len3 (chA s zeros32 s.ah zeros32 []) := ⟨rfl, ok.a, rfl⟩
  simp only [ix2, ↓o_nil, ↓o_field, ↓o_add, ↓o_sub, ↓o_mul, ↓o_lss, ↓o_leq, ↓o_gtr, ↓o_geq, ↓o_not, ↓o_pick, ↓o_eqInt, ↓o_neInt, ↓o_eqBool, ↓o_neBool, ↓o_eqPtr, ↓o_nePtr, ↓o_eqPtr', ↓o_eqSl, ↓o_neSl, ↓o_eqStr, ↓o_neStr, ↓o_len, ↓o_lenS, ↓o_min, ↓o_max, ↓o_extract, ↓o_convInt, ↓cd_true, ↓cd_false, ↓gate_tt, ↓gate_ff, ↓gate_tf, ↓gate_ft, ↓gate_undef, ↓o_bind, ↓stay_v, ↓pop_cons, ↓fin_nil, Option.isNone_none, Option.isNone_some, Bool.not_true, Bool.not_false, Nat.zero_add, decide_true, decide_false, if_true, if_false, Bool.false_eq_true, ↓reduceIte]
  refine ld_el h Rds.osl.left.right.right (2 * 2) rfl (rvc ⟨[98], v2, [s.bh]⟩) rfl (rvs_at hx2) ?_
  refine take_spec (b := p) ok.b h ((hcol hx2).left.right.right) (by rw [ic_len3 L3]; decide) fun w h => ?_
  rw [ip_bh3 (s := chA s zeros32 s.ah zeros32 []) L3 ok.b] at h
  have h : sat E w (cI p (chA s s.bh s.ah zeros32 []) (.slice none 0 0) * (pers (immS (.slice none 0 0) newS.l.length (evs newS.l)) * (osl 71 2 (.slice (some ⟨ub, 0, none⟩) l.length uc) l.length (rvs l) * (pers (colsP l) * R)))) := h
  have L3 : Len3 (chA s s.bh s.ah zeros32 []) := ⟨ok.b, ok.a, rfl⟩
  refine st_el h Rds.osl.left.right.right (1 * 2) rfl (rvc ⟨[97], v1, [s.ah]⟩) rfl (rvs_at hx1) ?_
  simp only [ix3, ↓o_nil, ↓o_field, ↓o_add, ↓o_sub, ↓o_mul, ↓o_lss, ↓o_leq, ↓o_gtr, ↓o_geq, ↓o_not, ↓o_pick, ↓o_eqInt, ↓o_neInt, ↓o_eqBool, ↓o_neBool, ↓o_eqPtr, ↓o_nePtr, ↓o_eqPtr', ↓o_eqSl, ↓o_neSl, ↓o_eqStr, ↓o_neStr, ↓o_len, ↓o_lenS, ↓o_min, ↓o_max, ↓o_extract, ↓o_convInt, ↓cd_true, ↓cd_false, ↓gate_tt, ↓gate_ff, ↓gate_tf, ↓gate_ft, ↓gate_undef, ↓o_bind, ↓stay_v, ↓pop_cons, ↓fin_nil, Option.isNone_none, Option.isNone_some, Bool.not_true, Bool.not_false, Nat.zero_add, decide_true, decide_false, if_true, if_false, Bool.false_eq_true, ↓reduceIte]
  refine ld_el h Rds.osl.left.right.right (3 * 2) rfl (rvc ⟨[104], v3, [s.hd]⟩) rfl (rvs_at hx3) ?_
  refine take_spec (b := p) ok.h h ((hcol hx3).left.right.right) (by rw [ic_len3 L3]; decide) fun w h => ?_
  rw [ip_hd3 (s := chA s s.bh s.ah zeros32 []) L3 ok.h] at h
  have h : sat E w (cI p (chA s s.bh s.ah s.hd []) (.slice none 0 0) * (pers (immS (.slice none 0 0) newS.l.length (evs newS.l)) * (osl 71 2 (.slice (some ⟨ub, 0, none⟩) l.length uc) l.length (rvs l) * (pers (colsP l) * R)))) := h
  have L3 : Len3 (chA s s.bh s.ah s.hd []) := ⟨ok.b, ok.a, ok.h⟩
  refine st_el h Rds.osl.left.right.right (2 * 2) rfl (rvc ⟨[98], v2, [s.bh]⟩) rfl (rvs_at hx2) ?_
  refine st_el h Rds.osl.left.right.right (1 * 2) rfl (rvc ⟨[97], v1, [s.ah]⟩) rfl (rvs_at hx1) ?_
  rw [o_not, Bool.not_true, cd_false, o_slice_l (by decide) (by omega)]
  have hcut : 0 < s.l.length → cutA (some ⟨ub, 0, none⟩) uc (4 : Int).toNat 2 = some ⟨ub, 8, none⟩ := by
    intro h
    unfold cutA
    rw [if_neg (by show ¬ uc = 4; omega)]
    rfl
  generalize cutA (some ⟨ub, 0, none⟩) uc (4 : Int).toNat 2 = ca at hcut
  rw [show l.length - (4 : Int).toNat = s.l.length by show l.length - 4 = _; omega, o_len]
  have hdI : ∀ {X : HP}, Dbt (X * (osl 71 2 (.slice (some ⟨ub, 0, none⟩) l.length uc) l.length (rvs l) * (pers (colsP l) * R))) := fun {X} => hd.right.right.right
  refine lp_nat (fun r σ w => ∃ (i : Nat) (before : Int) (v : Value), σ = [.int .i64 before, .int .i64 (i : Int)] ∧ r = s.l.length - i ∧ i ≤ s.l.length ∧ (∀ x, s.l[i]? = some x → before ≤ x.t) ∧
      sat E w (osl 34 4 v i (evs (s.l.take i)) * (cI p (chA s s.bh s.ah s.hd (s.l.take i)) v * (osl 71 2 (.slice (some ⟨ub, 0, none⟩) l.length uc) l.length (rvs l) * (pers (colsP l) * R))))) s.l.length
    ⟨0, 0, .slice none 0 0, rfl, by omega, by omega, fun x hx => (sm.ev x (List.mem_of_getElem? hx)).1, ?_⟩ ?_
  · have h := h.perm (show _ = pers (immS (.slice none 0 0) newS.l.length (evs newS.l)) * (cI p (chA s s.bh s.ah s.hd []) (.slice none 0 0) * (osl 71 2 (.slice (some ⟨ub, 0, none⟩) l.length uc) l.length (rvs l) * (pers (colsP l) * R))) by ac_rfl)
    exact osl_nil h.drop 34 4
  clear h L3
  rintro r σ w again ⟨i, before, v, rfl, rfl, hi, hbf, h⟩ hag
  rw [pop_cons, pop_cons, fin_nil, o_lss]
  refine cd_dec (fun hlt => ?_) (fun hge => ?_)
  · have hi1 : i < s.l.length := by omega
    have hx : s.l[i]? = some s.l[i] := List.getElem?_eq_getElem hi1
    have hmx : s.l[i] ∈ s.l := List.getElem_mem hi1
    have htk : s.l.take (i + 1) = s.l.take i ++ [s.l[i]] := List.take_succ_eq_append_getElem hi1
    generalize s.l[i] = x at hx hmx htk
    rw [hcut (by omega), o_index (by omega) (by omega), Int.toNat_natCast]
    obtain ⟨y, hy, ys⟩ := said_at hs (i := i + 4) (y := evRow x) (by
      unfold rowsOf
      rw [List.getElem?_append_right (by simp [heads]), show i + 4 - (heads s).length = i by simp [heads], List.getElem?_map, hx]
      rfl)
    obtain ⟨ky, vy, cy⟩ := y
    simp only [RV.said, evRow, Prod.mk.injEq] at ys
    obtain ⟨rfl, rfl⟩ := ys
    obtain ⟨hxn, hxt⟩ := rn.num i x hx
    obtain ⟨sx1, sx2, sx3⟩ := sm.ev x hmx
    refine ld_el h Rds.osl.left.right.right ((i + 4) * 2) (by omega) (rvc ⟨110 :: numT x.n, vy, [numT x.t, x.what, x.who]⟩) rfl (rvs_at hy) ?_
    have hx0n : 0 ≤ x.n := by omega
    have hyr : Rds (pers (colsP l)) vy 3 [tv (numT x.t), tv x.what, tv x.who] := hcol hy
    obtain ⟨yb, yo, yc, rfl, hyc, hyv⟩ := (hyr.left.right.right.right).opened h (by simp)
    refine alloc_sl h fun rb w h => ?_
    have h : sat E w (pts rb (.cells [Value.string ⟨#[]⟩, .slice none 0 0].toArray 71 (0, 0)) * (osl 34 4 v i (evs (s.l.take i)) * (cI p (chA s s.bh s.ah s.hd (s.l.take i)) v * (osl 71 2 (.slice (some ⟨ub, 0, none⟩) l.length uc) l.length (rvs l) * (pers (colsP l) * R))))) := h
    refine store_all (b := rb) h (xs := [Value.string ⟨#[]⟩, .slice none 0 0]) (vs := rvc ⟨110 :: numT x.n, .slice (some ⟨yb, yo, none⟩) 3 yc, [numT x.t, x.what, x.who]⟩) rfl rfl (by intro z hz; simp [rvc] at hz; rcases hz with rfl | rfl <;> rfl) fun w h => ?_
    refine ld_in (b := p) (v := .int .i64 s.bn) h rfl ?_
    rw [o_add, i64_of (by omega) (by omega), o_add, i64_of (by omega) (by omega), ← hxn]
    refine pvv_of (v := ev ⟨x.n, 0, [], []⟩) (fun w => by kernel_rfl) ?_
    refine evt_in h fun xb w h => ?_
    refine dr_sl h fun w h _ => ?_
    simp only [↓o_nil, ↓o_field, ↓o_add, ↓o_sub, ↓o_mul, ↓o_lss, ↓o_leq, ↓o_gtr, ↓o_geq, ↓o_not, ↓o_pick, ↓o_eqInt, ↓o_neInt, ↓o_eqBool, ↓o_neBool, ↓o_eqPtr, ↓o_nePtr, ↓o_eqPtr', ↓o_eqSl, ↓o_neSl, ↓o_eqStr, ↓o_neStr, ↓o_len, ↓o_lenS, ↓o_min, ↓o_max, ↓o_extract, ↓o_convInt, ↓cd_true, ↓cd_false, ↓gate_tt, ↓gate_ff, ↓gate_tf, ↓gate_ft, ↓gate_undef, ↓o_bind, ↓stay_v, ↓pop_cons, ↓fin_nil, Option.isNone_none, Option.isNone_some, Bool.not_true, Bool.not_false, Nat.zero_add, decide_true, decide_false, if_true, if_false, Bool.false_eq_true, ↓reduceIte]
    refine ld_in (b := rb) (v := tv (110 :: numT x.n)) h rfl ?_
    refine ld_in (b := xb) (v := .int .i64 x.n) h rfl ?_
    refine num_spec h (hd.right.right.right.right.right.right) fun w h => ?_
    refine st_in (b := rb) (v := tv (110 :: numT x.n)) h rfl ?_
    have hnl := numT_length x.n
    rw [show (.string ⟨#[110]⟩ : Value) = tv [110] from rfl, o_catT (by simp; omega), o_neT, show (!decide (110 :: numT x.n = [110] ++ numT x.n)) = false by simp]
    try simp only [↓o_nil, ↓o_field, ↓o_add, ↓o_sub, ↓o_mul, ↓o_lss, ↓o_leq, ↓o_gtr, ↓o_geq, ↓o_not, ↓o_pick, ↓o_eqInt, ↓o_neInt, ↓o_eqBool, ↓o_neBool, ↓o_eqPtr, ↓o_nePtr, ↓o_eqPtr', ↓o_eqSl, ↓o_neSl, ↓o_eqStr, ↓o_neStr, ↓o_len, ↓o_lenS, ↓o_min, ↓o_max, ↓o_extract, ↓o_convInt, ↓cd_true, ↓cd_false, ↓gate_tt, ↓gate_ff, ↓gate_tf, ↓gate_ft, ↓gate_undef, ↓o_bind, ↓stay_v, ↓pop_cons, ↓fin_nil, Option.isNone_none, Option.isNone_some, Bool.not_true, Bool.not_false, Nat.zero_add, decide_true, decide_false, if_true, if_false, Bool.false_eq_true, ↓reduceIte]
    refine ld_in (b := rb) (v := .slice (some ⟨yb, yo, none⟩) 3 yc) h rfl ?_
    simp only [show decide (((3 : Nat) : Int) = 3) = true from rfl, ↓o_nil, ↓o_field, ↓o_add, ↓o_sub, ↓o_mul, ↓o_lss, ↓o_leq, ↓o_gtr, ↓o_geq, ↓o_not, ↓o_pick, ↓o_eqInt, ↓o_neInt, ↓o_eqBool, ↓o_neBool, ↓o_eqPtr, ↓o_nePtr, ↓o_eqPtr', ↓o_eqSl, ↓o_neSl, ↓o_eqStr, ↓o_neStr, ↓o_len, ↓o_lenS, ↓o_min, ↓o_max, ↓o_extract, ↓o_convInt, ↓cd_true, ↓cd_false, ↓gate_tt, ↓gate_ff, ↓gate_tf, ↓gate_ft, ↓gate_undef, ↓o_bind, ↓stay_v, ↓pop_cons, ↓fin_nil, Option.isNone_none, Option.isNone_some, Bool.not_true, Bool.not_false, Nat.zero_add, decide_true, decide_false, if_true, if_false, Bool.false_eq_true, ↓reduceIte]
    refine ld_in (b := rb) (v := .slice (some ⟨yb, yo, none⟩) 3 yc) h rfl ?_
    try simp only [↓o_nil, ↓o_field, ↓o_add, ↓o_sub, ↓o_mul, ↓o_lss, ↓o_leq, ↓o_gtr, ↓o_geq, ↓o_not, ↓o_pick, ↓o_eqInt, ↓o_neInt, ↓o_eqBool, ↓o_neBool, ↓o_eqPtr, ↓o_nePtr, ↓o_eqPtr', ↓o_eqSl, ↓o_neSl, ↓o_eqStr, ↓o_neStr, ↓o_len, ↓o_lenS, ↓o_min, ↓o_max, ↓o_extract, ↓o_convInt, ↓cd_true, ↓cd_false, ↓gate_tt, ↓gate_ff, ↓gate_tf, ↓gate_ft, ↓gate_undef, ↓o_bind, ↓stay_v, ↓pop_cons, ↓fin_nil, Option.isNone_none, Option.isNone_some, Bool.not_true, Bool.not_false, Nat.zero_add, decide_true, decide_false, if_true, if_false, Bool.false_eq_true, ↓reduceIte]
    rw [o_slice_h (by decide) (by omega)]
    try simp only [↓o_nil, ↓o_field, ↓o_add, ↓o_sub, ↓o_mul, ↓o_lss, ↓o_leq, ↓o_gtr, ↓o_geq, ↓o_not, ↓o_pick, ↓o_eqInt, ↓o_neInt, ↓o_eqBool, ↓o_neBool, ↓o_eqPtr, ↓o_nePtr, ↓o_eqPtr', ↓o_eqSl, ↓o_neSl, ↓o_eqStr, ↓o_neStr, ↓o_len, ↓o_lenS, ↓o_min, ↓o_max, ↓o_extract, ↓o_convInt, ↓cd_true, ↓cd_false, ↓gate_tt, ↓gate_ff, ↓gate_tf, ↓gate_ft, ↓gate_undef, ↓o_bind, ↓stay_v, ↓pop_cons, ↓fin_nil, Option.isNone_none, Option.isNone_some, Bool.not_true, Bool.not_false, Nat.zero_add, decide_true, decide_false, if_true, if_false, Bool.false_eq_true, ↓reduceIte]
    refine buildSlice_sl (e := 74) (cs := #[.pointer (some ⟨xb, 1, none⟩)]) h (fun w => by kernel_rfl) fun b6 w h => ?_
    have ecut : cutA (some ⟨yb, yo, none⟩) yc 0 1 = some ⟨yb, yo, none⟩ := by
      unfold cutA
      rw [if_neg (by omega)]
      show some ((⟨yb, yo, none⟩ : Addr).add 0) = _
      rw [add_addr]
      rfl
    rw [ecut, show (1 : Int).toNat = 1 from rfl]
    refine st_in (b := rb) (v := .slice (some ⟨yb, yo, none⟩) 3 yc) h rfl ?_
    refine st_in (b := rb) (v := .slice (some ⟨yb, yo, none⟩) 3 yc) h rfl ?_
    refine st_in (b := xb) (v := .int .i64 x.n) h rfl ?_
    refine st_in (b := rb) (v := tv (110 :: numT x.n)) h rfl ?_
    let G : Nat → HP := fun j => match j with
      | 0 => pts xb (.cells (ecells ⟨x.n, 0, [], []⟩).toArray 34 (0, 0))
      | _ => pts xb (.cells (ecells ⟨x.n, x.t, [], []⟩).toArray 34 (0, 0))
    have h : sat E w (pts xb (.cells (ecells ⟨x.n, 0, [], []⟩).toArray 34 (0, 0)) * (pts b6 (.cells #[.pointer (some ⟨xb, 1, none⟩)] 74 (0, 0)) * (pts rb (.cells (rvc ⟨110 :: numT x.n, .slice (some ⟨yb, yo, none⟩) 3 yc, [numT x.t, x.what, x.who]⟩).toArray 71 (0, 0)) * (osl 34 4 v i (evs (s.l.take i)) * (cI p (chA s s.bh s.ah s.hd (s.l.take i)) v * (osl 71 2 (.slice (some ⟨ub, 0, none⟩) l.length uc) l.length (rvs l) * (pers (colsP l) * R))))))) := h.perm (by ac_rfl)
    have hxt1 : x.t ≤ 1099511627776 := by omega
    have hone : Rds (pts b6 (.cells #[.pointer (some ⟨xb, 1, none⟩)] 74 (0, 0)) * (pts rb (.cells (rvc ⟨110 :: numT x.n, .slice (some ⟨yb, yo, none⟩) 3 yc, [numT x.t, x.what, x.who]⟩).toArray 71 (0, 0)) * (osl 34 4 v i (evs (s.l.take i)) * (cI p (chA s s.bh s.ah s.hd (s.l.take i)) v * (osl 71 2 (.slice (some ⟨ub, 0, none⟩) l.length uc) l.length (rvs l) * (pers (colsP l) * R)))))) (.slice (some ⟨yb, yo, none⟩) 1 yc) 1 ([x.t.toNat].map fun n => tv (numText n)) := by
      intro E w hs
      have hx3 : Rds (pts b6 (.cells #[.pointer (some ⟨xb, 1, none⟩)] 74 (0, 0)) * (pts rb (.cells (rvc ⟨110 :: numT x.n, .slice (some ⟨yb, yo, none⟩) 3 yc, [numT x.t, x.what, x.who]⟩).toArray 71 (0, 0)) * (osl 34 4 v i (evs (s.l.take i)) * (cI p (chA s s.bh s.ah s.hd (s.l.take i)) v * (osl 71 2 (.slice (some ⟨ub, 0, none⟩) l.length uc) l.length (rvs l) * (pers (colsP l) * R)))))) (.slice (some ⟨yb, yo, none⟩) 3 yc) 3 [tv (numT x.t), tv x.what, tv x.who] := hyr.left.right.right.right.right.right
      have h4 := RdS.cut (hx3 E w hs) (lo := 0) (hi := 1) rfl (by decide) (by decide)
      rw [ecut] at h4
      rw [List.map_cons, List.map_nil, ← numT_nat sx1 (by omega)]
      exact h4
    refine read_spec G (ns := [x.t.toNat]) (ps := [⟨xb, 1, none⟩]) (by simp) (by intro n hn; simp at hn; omega) rfl h hone (rds_row (b := b6) (e := 74) (xs := [Value.pointer (some ⟨xb, 1, none⟩)]) (sp := []) (fr := (0, 0)) (Nat.le_refl _)) ?_ fun w h => ?_
    · intro j n a w K' hn ha h hk
      match j, hn, ha with
      | 0, hn, ha =>
        simp only [List.getElem?_cons_zero, Option.some.injEq] at hn ha
        subst hn ha
        rw [Int.toNat_of_nonneg sx1]
        have h : sat E w (pts xb (.cells (ecells ⟨x.n, 0, [], []⟩).toArray 34 (0, 0)) * (pts b6 (.cells #[.pointer (some ⟨xb, 1, none⟩)] 74 (0, 0)) * (pts rb (.cells (rvc ⟨110 :: numT x.n, .slice (some ⟨yb, yo, none⟩) 3 yc, [numT x.t, x.what, x.who]⟩).toArray 71 (0, 0)) * (osl 34 4 v i (evs (s.l.take i)) * (cI p (chA s s.bh s.ah s.hd (s.l.take i)) v * (osl 71 2 (.slice (some ⟨ub, 0, none⟩) l.length uc) l.length (rvs l) * (pers (colsP l) * R))))))) := h
        exact store_sl (b := xb) h rfl (by simp [ecells]) fun w h => hk w h
      | j + 1, hn, ha => simp at hn
    have h : sat E w (pts xb (.cells (ecells ⟨x.n, x.t, [], []⟩).toArray 34 (0, 0)) * (pts b6 (.cells #[.pointer (some ⟨xb, 1, none⟩)] 74 (0, 0)) * (pts rb (.cells (rvc ⟨110 :: numT x.n, .slice (some ⟨yb, yo, none⟩) 3 yc, [numT x.t, x.what, x.who]⟩).toArray 71 (0, 0)) * (osl 34 4 v i (evs (s.l.take i)) * (cI p (chA s s.bh s.ah s.hd (s.l.take i)) v * (osl 71 2 (.slice (some ⟨ub, 0, none⟩) l.length uc) l.length (rvs l) * (pers (colsP l) * R))))))) := h
    refine st_in (b := rb) (v := .slice (some ⟨yb, yo, none⟩) 3 yc) h rfl ?_
    refine st_in (b := rb) (v := .slice (some ⟨yb, yo, none⟩) 3 yc) h rfl ?_
    refine st_in (b := xb) (v := .int .i64 x.n) h rfl ?_
    refine st_in (b := rb) (v := tv (110 :: numT x.n)) h rfl ?_
    rw [o_not, Bool.not_true, cd_false]
    have h := h.lose b6
    refine dr_sl h fun w h _ => ?_
    refine ld_in (b := rb) (v := .slice (some ⟨yb, yo, none⟩) 3 yc) h rfl ?_
    rw [o_index (by decide) (by decide)]
    have hyy : Rds (pts xb (.cells (ecells ⟨x.n, x.t, [], []⟩).toArray 34 (0, 0)) * (pts rb (.cells (rvc ⟨110 :: numT x.n, .slice (some ⟨yb, yo, none⟩) 3 yc, [numT x.t, x.what, x.who]⟩).toArray 71 (0, 0)) * (osl 34 4 v i (evs (s.l.take i)) * (cI p (chA s s.bh s.ah s.hd (s.l.take i)) v * (osl 71 2 (.slice (some ⟨ub, 0, none⟩) l.length uc) l.length (rvs l) * (pers (colsP l) * R)))))) (.slice (some ⟨yb, yo, none⟩) 3 yc) 3 [tv (numT x.t), tv x.what, tv x.who] := hyr.left.right.right.right.right.right
    refine ld_rd h hyy 1 (by rfl) (v := tv x.what) rfl ?_
    refine ld_in (b := rb) (v := .slice (some ⟨yb, yo, none⟩) 3 yc) h rfl ?_
    rw [o_index (by decide) (by decide)]
    refine ld_rd h hyy 2 (by rfl) (v := tv x.who) rfl ?_
    try simp only [↓o_nil, ↓o_field, ↓o_add, ↓o_sub, ↓o_mul, ↓o_lss, ↓o_leq, ↓o_gtr, ↓o_geq, ↓o_not, ↓o_pick, ↓o_eqInt, ↓o_neInt, ↓o_eqBool, ↓o_neBool, ↓o_eqPtr, ↓o_nePtr, ↓o_eqPtr', ↓o_eqSl, ↓o_neSl, ↓o_eqStr, ↓o_neStr, ↓o_len, ↓o_lenS, ↓o_min, ↓o_max, ↓o_extract, ↓o_convInt, ↓cd_true, ↓cd_false, ↓gate_tt, ↓gate_ff, ↓gate_tf, ↓gate_ft, ↓gate_undef, ↓o_bind, ↓stay_v, ↓pop_cons, ↓fin_nil, Option.isNone_none, Option.isNone_some, Bool.not_true, Bool.not_false, Nat.zero_add, decide_true, decide_false, if_true, if_false, Bool.false_eq_true, ↓reduceIte]
    refine store_sl (b := xb) h rfl (by simp [ecells]) fun w h => ?_
    refine st_in (b := rb) (v := .slice (some ⟨yb, yo, none⟩) 3 yc) h rfl ?_
    refine store_sl (b := xb) h rfl (by simp [ecells]) fun w h => ?_
    have h : sat E w (pts xb (.cells (ecells x).toArray 34 (0, 0)) * (pts rb (.cells (rvc ⟨110 :: numT x.n, .slice (some ⟨yb, yo, none⟩) 3 yc, [numT x.t, x.what, x.who]⟩).toArray 71 (0, 0)) * (osl 34 4 v i (evs (s.l.take i)) * (cI p (chA s s.bh s.ah s.hd (s.l.take i)) v * (osl 71 2 (.slice (some ⟨ub, 0, none⟩) l.length uc) l.length (rvs l) * (pers (colsP l) * R)))))) := h
    refine dr_sl h fun w h _ => ?_
    refine ld_in (b := xb) (v := tv x.what) h rfl ?_
    rw [o_lenT, o_gtr]
    simp only [decide_eq_false (show ¬ (12 : Int) < (x.what.length : Int) by omega), ↓o_nil, ↓o_field, ↓o_add, ↓o_sub, ↓o_mul, ↓o_lss, ↓o_leq, ↓o_gtr, ↓o_geq, ↓o_not, ↓o_pick, ↓o_eqInt, ↓o_neInt, ↓o_eqBool, ↓o_neBool, ↓o_eqPtr, ↓o_nePtr, ↓o_eqPtr', ↓o_eqSl, ↓o_neSl, ↓o_eqStr, ↓o_neStr, ↓o_len, ↓o_lenS, ↓o_min, ↓o_max, ↓o_extract, ↓o_convInt, ↓cd_true, ↓cd_false, ↓gate_tt, ↓gate_ff, ↓gate_tf, ↓gate_ft, ↓gate_undef, ↓o_bind, ↓stay_v, ↓pop_cons, ↓fin_nil, Option.isNone_none, Option.isNone_some, Bool.not_true, Bool.not_false, Nat.zero_add, decide_true, decide_false, if_true, if_false, Bool.false_eq_true, ↓reduceIte]
    refine ld_in (b := xb) (v := tv x.who) h rfl ?_
    simp only [↓o_lenT, ↓o_nil, ↓o_field, ↓o_add, ↓o_sub, ↓o_mul, ↓o_lss, ↓o_leq, ↓o_gtr, ↓o_geq, ↓o_not, ↓o_pick, ↓o_eqInt, ↓o_neInt, ↓o_eqBool, ↓o_neBool, ↓o_eqPtr, ↓o_nePtr, ↓o_eqPtr', ↓o_eqSl, ↓o_neSl, ↓o_eqStr, ↓o_neStr, ↓o_len, ↓o_lenS, ↓o_min, ↓o_max, ↓o_extract, ↓o_convInt, ↓cd_true, ↓cd_false, ↓gate_tt, ↓gate_ff, ↓gate_tf, ↓gate_ft, ↓gate_undef, ↓o_bind, ↓stay_v, ↓pop_cons, ↓fin_nil, Option.isNone_none, Option.isNone_some, Bool.not_true, Bool.not_false, Nat.zero_add, decide_true, decide_false, if_true, if_false, Bool.false_eq_true, ↓reduceIte]
    simp only [decide_eq_false (show ¬ (30 : Int) < (x.who.length : Int) by omega), ↓o_nil, ↓o_field, ↓o_add, ↓o_sub, ↓o_mul, ↓o_lss, ↓o_leq, ↓o_gtr, ↓o_geq, ↓o_not, ↓o_pick, ↓o_eqInt, ↓o_neInt, ↓o_eqBool, ↓o_neBool, ↓o_eqPtr, ↓o_nePtr, ↓o_eqPtr', ↓o_eqSl, ↓o_neSl, ↓o_eqStr, ↓o_neStr, ↓o_len, ↓o_lenS, ↓o_min, ↓o_max, ↓o_extract, ↓o_convInt, ↓cd_true, ↓cd_false, ↓gate_tt, ↓gate_ff, ↓gate_tf, ↓gate_ft, ↓gate_undef, ↓o_bind, ↓stay_v, ↓pop_cons, ↓fin_nil, Option.isNone_none, Option.isNone_some, Bool.not_true, Bool.not_false, Nat.zero_add, decide_true, decide_false, if_true, if_false, Bool.false_eq_true, ↓reduceIte]
    refine ld_in (b := xb) (v := .int .i64 x.t) h rfl ?_
    have hbx := hbf x hx
    simp only [decide_eq_false (show ¬ x.t < before by omega), ↓o_nil, ↓o_field, ↓o_add, ↓o_sub, ↓o_mul, ↓o_lss, ↓o_leq, ↓o_gtr, ↓o_geq, ↓o_not, ↓o_pick, ↓o_eqInt, ↓o_neInt, ↓o_eqBool, ↓o_neBool, ↓o_eqPtr, ↓o_nePtr, ↓o_eqPtr', ↓o_eqSl, ↓o_neSl, ↓o_eqStr, ↓o_neStr, ↓o_len, ↓o_lenS, ↓o_min, ↓o_max, ↓o_extract, ↓o_convInt, ↓cd_true, ↓cd_false, ↓gate_tt, ↓gate_ff, ↓gate_tf, ↓gate_ft, ↓gate_undef, ↓o_bind, ↓stay_v, ↓pop_cons, ↓fin_nil, Option.isNone_none, Option.isNone_some, Bool.not_true, Bool.not_false, Nat.zero_add, decide_true, decide_false, if_true, if_false, Bool.false_eq_true, ↓reduceIte]
    have L4 : Len3 (chA s s.bh s.ah s.hd (s.l.take i)) := ⟨ok.b, ok.a, ok.h⟩
    refine ld_in (b := xb) (v := .int .i64 x.t) h rfl ?_
    try simp only [↓o_nil, ↓o_field, ↓o_add, ↓o_sub, ↓o_mul, ↓o_lss, ↓o_leq, ↓o_gtr, ↓o_geq, ↓o_not, ↓o_pick, ↓o_eqInt, ↓o_neInt, ↓o_eqBool, ↓o_neBool, ↓o_eqPtr, ↓o_nePtr, ↓o_eqPtr', ↓o_eqSl, ↓o_neSl, ↓o_eqStr, ↓o_neStr, ↓o_len, ↓o_lenS, ↓o_min, ↓o_max, ↓o_extract, ↓o_convInt, ↓cd_true, ↓cd_false, ↓gate_tt, ↓gate_ff, ↓gate_tf, ↓gate_ft, ↓gate_undef, ↓o_bind, ↓stay_v, ↓pop_cons, ↓fin_nil, Option.isNone_none, Option.isNone_some, Bool.not_true, Bool.not_false, Nat.zero_add, decide_true, decide_false, if_true, if_false, Bool.false_eq_true, ↓reduceIte]
    refine ld_in (b := p) (v := .int .i64 s.last) h (ic_last3 (s := chA s s.bh s.ah s.hd (s.l.take i)) L4) ?_
    simp only [decide_eq_false (show ¬ s.last < x.t by omega), ↓o_nil, ↓o_field, ↓o_add, ↓o_sub, ↓o_mul, ↓o_lss, ↓o_leq, ↓o_gtr, ↓o_geq, ↓o_not, ↓o_pick, ↓o_eqInt, ↓o_neInt, ↓o_eqBool, ↓o_neBool, ↓o_eqPtr, ↓o_nePtr, ↓o_eqPtr', ↓o_eqSl, ↓o_neSl, ↓o_eqStr, ↓o_neStr, ↓o_len, ↓o_lenS, ↓o_min, ↓o_max, ↓o_extract, ↓o_convInt, ↓cd_true, ↓cd_false, ↓gate_tt, ↓gate_ff, ↓gate_tf, ↓gate_ft, ↓gate_undef, ↓o_bind, ↓stay_v, ↓pop_cons, ↓fin_nil, Option.isNone_none, Option.isNone_some, Bool.not_true, Bool.not_false, Nat.zero_add, decide_true, decide_false, if_true, if_false, Bool.false_eq_true, ↓reduceIte]
    refine ld_in (b := xb) (v := .int .i64 x.t) h rfl ?_
    refine dr_sl h fun w h _ => ?_
    have icl : (icells (chA s s.bh s.ah s.hd (s.l.take i)) v)[99]? = some v := part_cell (.int .i64 s.bn :: (s.bh.map bv ++ (.int .i64 s.an :: (s.ah.map bv ++ (s.hd.map bv ++ [.int .i64 s.last]))))) [] (by simp [icells, chA]) (by simp [ok.b, ok.a, ok.h])
    have ipl : ∀ {u : Value}, (icells (chA s s.bh s.ah s.hd (s.l.take i)) v).set 99 u = icells (chA s s.bh s.ah s.hd (s.l.take (i + 1))) u := fun {u} => part_set (.int .i64 s.bn :: (s.bh.map bv ++ (.int .i64 s.an :: (s.ah.map bv ++ (s.hd.map bv ++ [.int .i64 s.last]))))) [] (x := v) (by simp [icells, chA]) (by simp [ok.b, ok.a, ok.h]) (by simp [icells, chA])
    refine ld_in (b := p) (v := v) h icl ?_
    refine ld_agg (b := xb) (xs := ecells x) h rfl ?_
    refine buildSlice_sl (e := 34) (cs := (ecells x).toArray) h (fun w => by kernel_rfl) fun b5 w h => ?_
    refine st_in (b := p) (v := v) h icl ?_
    refine append_sl (v := v) h (ecells x) (k' := 1) rfl (.inr ⟨b5, 0, _, _, _, rfl, h.pts_get, fun j v hj => by simpa using hj⟩) (ecells_one x) (by omega) (by omega) fun v' w h => ?_
    refine st_agg (b := xb) (xs := ecells x) h rfl ?_
    have hone' : v'.oneCell' = true := by
      obtain ⟨_, _, rfl, _⟩ := osl_shape h
      rfl
    refine store_sl (b := p) h hone' (by rw [ic_len3 L4]; decide) fun w h => ?_
    rw [ipl] at h
    try rw [o_add]
    rw [i64_of (by omega) (by omega)]
    have h := h.lose b5
    have h := h.perm (show _ = pts xb (.cells (ecells x).toArray 34 (0, 0)) * (pts rb (.cells (rvc ⟨110 :: numT x.n, .slice (some ⟨yb, yo, none⟩) 3 yc, [numT x.t, x.what, x.who]⟩).toArray 71 (0, 0)) * (osl 34 4 v' (i + 1) (evs (s.l.take i) ++ ecells x) * (cI p (chA s s.bh s.ah s.hd (s.l.take (i + 1))) v' * (osl 71 2 (.slice (some ⟨ub, 0, none⟩) l.length uc) l.length (rvs l) * (pers (colsP l) * R))))) by unfold cI; ac_rfl)
    have h := h.drop.drop
    have ee : evs (s.l.take i) ++ ecells x = evs (s.l.take (i + 1)) := by rw [htk]; simp [evs]
    rw [ee] at h
    refine hag (s.l.length - (i + 1)) _ _ (by omega) ⟨i + 1, x.t, v', rfl, rfl, by omega, fun z hz => rn.up i x z hx hz, h⟩
  · have hi2 : i = s.l.length := by omega
    subst hi2
    rw [List.take_length] at h
    have h := osl_freeze h
    refine k p v w ?_
    unfold chI
    exact h.perm (by unfold cI chA; ac_rfl)
end Go.Proofs.YtjeiojibnmfibaaDoor
