/-
  A chain's rows.
-/
import Derived.Test.YtjeiojibnmfibaaDoorAudU
import Derived.Test.YtjeiojibnmfibaaDoorPar
import Derived.Test.YtjeiojibnmfibaaDoorPB
import Derived.Test.YtjeiojibnmfibaaDoorStructs
import Derived.Test.YtjeiojibnmfibaaDoorCodF
set_option linter.all false
set_option maxRecDepth 10000
namespace Go.Proofs.YtjeiojibnmfibaaDoor
open Go Hold
variable {E : World0} {w : World} {H R : HP} {K : Value → World → Prop}
/-- A row: its key, its columns, and the slice that they lie in. -/
structure RV where
  key : List UInt8
  v : Value
  cols : List (List UInt8)
def rvc (x : RV) : List Value := [tv x.key, x.v]
def RV.said (x : RV) : List UInt8 × List (List UInt8) := (x.key, x.cols)
def rvs (l : List RV) : List Value := l.flatMap rvc
/-- All columns stay. -/
def colsP (l : List RV) : PP := ⟨fun I => ∀ x ∈ l, RdS I x.v x.cols.length (x.cols.map tv), fun hI h x hx => (h x hx).mono hI⟩
theorem rvs_length (l : List RV) : (rvs l).length = l.length * 2 := fm_length (k := 2) (fun _ => rfl) l
theorem rvs_at {l : List RV} {i : Nat} {x : RV} (h : l[i]? = some x) : ((rvs l).drop (i * 2)).take 2 = rvc x := fm_at (k := 2) (fun _ => rfl) h
theorem rvs_append (a b : List RV) : rvs (a ++ b) = rvs a ++ rvs b := by simp [rvs]
theorem rds_one {v : Value} {n : Nat} {xs : List Value} {J : Hp} (h : RdS J v n xs) : v.oneCell' = true := by obtain ⟨_, _, rfl, _⟩ := h; rfl
theorem rvs_one {l : List RV} {J : Hp} (h : (colsP l).p J) : ∀ x ∈ rvs l, x.oneCell' = true := by
  intro x hx
  obtain ⟨y, hy, hm⟩ := List.mem_flatMap.1 hx
  simp [rvc] at hm
  rcases hm with rfl | rfl
  · rfl
  · exact rds_one (h y hy)
theorem colsP_append {a b : List RV} {I : Hp} (h1 : (colsP a).p I) (h2 : (colsP b).p I) : (colsP (a ++ b)).p I := fun x hx => by
  rcases List.mem_append.1 hx with hx | hx
  · exact h1 x hx
  · exact h2 x hx
def evRow (x : Evt) : List UInt8 × List (List UInt8) := (110 :: numT x.n, [numT x.t, x.what, x.who])
def heads (s : Ch) : List (List UInt8 × List (List UInt8)) := [([35], [numT s.bn, numT s.an, numT s.last]), ([97], [s.ah]), ([98], [s.bh]), ([104], [s.hd])]
def rowsOf (s : Ch) : List (List UInt8 × List (List UInt8)) := heads s ++ s.l.map evRow
theorem win_part {b e o n : Nat} {xs ys : List Value} {fr : Nat × Nat} (h : w.heap[b]? = some (.cells xs.toArray e fr)) (hy : (xs.drop o).take n = ys) (c : Nat) (hn : ys.length = n) (hc : n ≤ c) : RdS (hp w) (.slice (some ⟨b, o, none⟩) n c) n ys :=
  ⟨_, c, rfl, hc, .inr ⟨b, o, _, e, fr, rfl, h, fun j v hj => by simpa using take_cell hy hj⟩⟩
/-- What is known of the slots of the rows' heads. -/
def φI (s : Ch) : Nat → Value → PP
  | 0, v => ppOf (v = tv (numT s.bn))
  | 4, v => ppOf (v = tv (numT s.an))
  | 5, v => ppOf (v = tv (numT s.last))
  | 1, v => ppOf (v = tv s.ah)
  | 2, v => ppOf (v = tv s.bh)
  | 3, v => ppOf (v = tv s.hd)
  | 6, v => immS v 3 ([numT s.bn, numT s.an, numT s.last].map tv)
  | 8, v => immS v 1 ([s.ah].map tv)
  | 10, v => immS v 1 ([s.bh].map tv)
  | 12, v => immS v 1 ([s.hd].map tv)
  | 7, v => ⟨fun I => ∃ u, v = .agg (rvc ⟨[35], u, [numT s.bn, numT s.an, numT s.last]⟩).toArray ∧ RdS I u 3 ([numT s.bn, numT s.an, numT s.last].map tv), fun hI ⟨u, h1, h2⟩ => ⟨u, h1, h2.mono hI⟩⟩
  | 9, v => ⟨fun I => ∃ u, v = .agg (rvc ⟨[97], u, [s.ah]⟩).toArray ∧ RdS I u 1 ([s.ah].map tv), fun hI ⟨u, h1, h2⟩ => ⟨u, h1, h2.mono hI⟩⟩
  | 11, v => ⟨fun I => ∃ u, v = .agg (rvc ⟨[98], u, [s.bh]⟩).toArray ∧ RdS I u 1 ([s.bh].map tv), fun hI ⟨u, h1, h2⟩ => ⟨u, h1, h2.mono hI⟩⟩
  | 13, v => ⟨fun I => ∃ u, v = .agg (rvc ⟨[104], u, [s.hd]⟩).toArray ∧ RdS I u 1 ([s.hd].map tv), fun hI ⟨u, h1, h2⟩ => ⟨u, h1, h2.mono hI⟩⟩
  | _, _ => ppOf True
theorem ic_bh {s : Ch} {v : Value} {m : Nat} (ok : Ok s m) : ((icells s v).drop 1).take 32 = s.bh.map bv := part_at [.int .i64 s.bn] _ (.int .i64 s.an :: (s.ah.map bv ++ (s.hd.map bv ++ [.int .i64 s.last, v]))) (by simp [icells]) rfl (by simp [ok.b])
theorem numT_length (n : Int) : (numT n).length ≤ 17 := by
  unfold numT number
  split
  · simp
  · have := hexs_length 16 n.toNat (by show n.toNat < 16 ^ 16; omega)
    simp only [numText, List.length_cons]
    omega
theorem said_take {l : List Evt} {j : Nat} {hs : List (List UInt8 × List (List UInt8))} {r : List RV} {x : RV} (h : r.map RV.said = hs ++ (l.take j).map evRow) (hj : j < l.length) (hx : x.said = evRow l[j]) : (r ++ [x]).map RV.said = hs ++ (l.take (j + 1)).map evRow := by
  rw [List.map_append, h, List.take_succ_eq_append_getElem hj, List.map_append, List.map_singleton, List.map_singleton, hx, List.append_assoc]
theorem Rows_spec {p m : Nat} {s : Ch} {v : Value} (ok : Ok s m) (hm : m ≤ 1000000000000000) (hd : Dbt R) (h : sat E w (chI p s v R))
    (k : ∀ u l w', l.map RV.said = rowsOf s → sat E w' (osl 71 2 u l.length (rvs l) * (pers (colsP l) * chI p s v R)) → K u w') : Calls prog 24 #[.pointer (some ⟨p, 0, none⟩)] w (Ret K) := by
  have := ok.few; have := ok.top; have := ok.b0
  have hdI : Dbt (chI p s v R) := by unfold chI; exact hd.right.right
  obtain ⟨a, c, rfl, hc, hv, _⟩ := (Rds.evs (s := s)).shape h
  refine c24 ?_
  unfold B24
  simp only [↓o_eqPtr, Option.isNone_some, ↓cd_false]
  refine dr_sl h fun w h _ => ?_
  try simp only [↓o_sliceA, ↓o_nil, ↓o_field, ↓o_add, ↓o_sub, ↓o_mul, ↓o_lss, ↓o_leq, ↓o_gtr, ↓o_geq, ↓o_not, ↓o_pick, ↓o_eqInt, ↓o_neInt, ↓o_eqBool, ↓o_neBool, ↓o_eqPtr, ↓o_nePtr, ↓o_eqPtr', ↓o_eqSl, ↓o_neSl, ↓o_eqStr, ↓o_neStr, ↓o_len, ↓o_lenS, ↓o_min, ↓o_max, ↓o_extract, ↓o_convInt, ↓cd_true, ↓cd_false, ↓gate_tt, ↓gate_ff, ↓gate_tf, ↓gate_ft, ↓gate_undef, ↓o_bind, ↓stay_v, ↓pop_cons, ↓fin_nil, Option.isNone_none, Option.isNone_some, Bool.not_true, Bool.not_false, Nat.zero_add, decide_true, decide_false, if_true, if_false, Bool.false_eq_true, ↓reduceIte]
  refine ld_in (b := p) (v := .int .i64 s.bn) h rfl ?_
  refine ld_in (b := p) (v := .int .i64 s.an) h (ic_an ok) ?_
  refine ld_in (b := p) (v := .int .i64 s.last) h (ic_last ok) ?_
  have sn : ∀ (φ : Nat → Value → PP) (σ : List (Option Value)) (w : World), sat E w (slots φ σ (chI p s (.slice a s.l.length c) R)) → w.heap[p]? = some (.cells (icells s (.slice a s.l.length c)).toArray 59 (0, 0)) := fun φ σ w h => sat.has (slots.old h)
  refine par_sl (φI s) h ?_
  clear h
  have st1 : ∀ {w : World} {A : Prop} {X : HP} {σ : List (Option Value)}, sat E w (X * slots (φI s) σ (chI p s (.slice a s.l.length c) R)) → A → stv prog none (Instr.loadAt 3 (.pointer (some ⟨p, 0, none⟩))) (.int .i64 s.bn) w A := fun h k => st_cell (cell_of (sn _ _ _ h.drop) (by rfl)) k
  have st2 : ∀ {w : World} {A : Prop} {X : HP} {σ : List (Option Value)}, sat E w (X * slots (φI s) σ (chI p s (.slice a s.l.length c) R)) → A → stv prog none (Instr.loadAt 3 (.pointer (some ⟨p, 33, none⟩))) (.int .i64 s.an) w A := fun h k => st_cell (cell_of (sn _ _ _ h.drop) (by simpa using ic_an ok)) k
  have st3 : ∀ {w : World} {A : Prop} {X : HP} {σ : List (Option Value)}, sat E w (X * slots (φI s) σ (chI p s (.slice a s.l.length c) R)) → A → stv prog none (Instr.loadAt 3 (.pointer (some ⟨p, 98, none⟩))) (.int .i64 s.last) w A := fun h k => st_cell (cell_of (sn _ _ _ h.drop) (by simpa using ic_last ok)) k
  have e1 : ∀ {w : World} {σ : List (Option Value)}, sat E w (slots (φI s) σ (chI p s (.slice a s.l.length c) R)) → sat E w (emp * slots (φI s) σ (chI p s (.slice a s.l.length c) R)) := fun h => h.perm (emp_star _).symm
  refine ⟨?_, ?_, ?_, ?_, ?_, ?_, ?_, ?_, ?_, ?_, ?_, ?_, ?_, ?_, ?_⟩
  · intro σ w h hu
    refine num_spec h (fun E w hs => hdI E w (slots.old hs)) fun w h => ?_
    refine st3 (e1 h) (st2 (e1 h) ?_)
    exact slots.put h rfl
  · intro σ w h hu
    refine conv_bs (l := s.ah) (by rw [ok.a]; exact win_part (sn _ _ _ h) (ic_ah ok) 32 (by simp [ok.a]) (Nat.le_refl _)) ?_
    refine st3 (e1 h) (st2 (e1 h) (st1 (e1 h) ?_))
    exact slots.put h rfl
  · intro σ w h hu
    refine conv_bs (l := s.bh) (by rw [ok.b]; exact win_part (sn _ _ _ h) (ic_bh ok) 32 (by simp [ok.b]) (Nat.le_refl _)) ?_
    refine st3 (e1 h) (st2 (e1 h) (st1 (e1 h) ?_))
    exact slots.put h rfl
  · intro σ w h hu
    refine conv_bs (l := s.hd) (by rw [ok.h]; exact win_part (sn _ _ _ h) (ic_hd ok) 32 (by simp [ok.h]) (Nat.le_refl _)) ?_
    refine st3 (e1 h) (st2 (e1 h) (st1 (e1 h) ?_))
    exact slots.put h rfl
  · intro σ w h hu
    refine num_spec h (fun E w hs => hdI E w (slots.old hs)) fun w h => ?_
    refine st3 (e1 h) (st1 (e1 h) ?_)
    exact slots.put h rfl
  · intro σ w h hu
    refine num_spec h (fun E w hs => hdI E w (slots.old hs)) fun w h => ?_
    refine st2 (e1 h) (st1 (e1 h) ?_)
    exact slots.put h rfl
  · intro σ w h hu t0 h0 t1 h1 t2 h2
    obtain rfl : t0 = tv (numT s.bn) := slots.get h h0
    obtain rfl : t1 = tv (numT s.an) := slots.get h h1
    obtain rfl : t2 = tv (numT s.last) := slots.get h h2
    refine buildSlice_sl (e := 9) (cs := #[tv (numT s.bn), tv (numT s.an), tv (numT s.last)]) h (fun w => by kernel_rfl) fun b w h => ?_
    refine st3 h (st2 h (st1 h ?_))
    exact slots.keepb (xs := [numT s.bn, numT s.an, numT s.last].map tv) h (by omega) rfl fun I hI => hI
  · intro σ w h hu t ht
    obtain ⟨ta, tc, rfl, _, _⟩ : RdS (hp w) t _ _ := slots.get h ht
    refine pvv_of (v := .agg (rvc ⟨[35], .slice ta 3 tc, [numT s.bn, numT s.an, numT s.last]⟩).toArray) (fun w => by kernel_rfl) ?_
    refine slots.add (h.pers_dup.mono fun I h' hp' => ?_)
    rw [pers_star_p] at hp' ⊢
    exact ⟨⟨_, rfl, hp'.1 6 _ ht⟩, hp'.2⟩
  · intro σ w h hu t ht
    obtain rfl : t = tv s.ah := slots.get h ht
    refine buildSlice_sl (e := 9) (cs := #[tv s.ah]) h (fun w => by kernel_rfl) fun b w h => ?_
    refine st3 h (st2 h (st1 h ?_))
    exact slots.keepb (xs := [s.ah].map tv) h (by omega) rfl fun I hI => hI
  · intro σ w h hu t ht
    obtain ⟨ta, tc, rfl, _, _⟩ : RdS (hp w) t _ _ := slots.get h ht
    refine pvv_of (v := .agg (rvc ⟨[97], .slice ta 1 tc, [s.ah]⟩).toArray) (fun w => by kernel_rfl) ?_
    refine slots.add (h.pers_dup.mono fun I h' hp' => ?_)
    rw [pers_star_p] at hp' ⊢
    exact ⟨⟨_, rfl, hp'.1 8 _ ht⟩, hp'.2⟩
  · intro σ w h hu t ht
    obtain rfl : t = tv s.bh := slots.get h ht
    refine buildSlice_sl (e := 9) (cs := #[tv s.bh]) h (fun w => by kernel_rfl) fun b w h => ?_
    refine st3 h (st2 h (st1 h ?_))
    exact slots.keepb (xs := [s.bh].map tv) h (by omega) rfl fun I hI => hI
  · intro σ w h hu t ht
    obtain ⟨ta, tc, rfl, _, _⟩ : RdS (hp w) t _ _ := slots.get h ht
    refine pvv_of (v := .agg (rvc ⟨[98], .slice ta 1 tc, [s.bh]⟩).toArray) (fun w => by kernel_rfl) ?_
    refine slots.add (h.pers_dup.mono fun I h' hp' => ?_)
    rw [pers_star_p] at hp' ⊢
    exact ⟨⟨_, rfl, hp'.1 10 _ ht⟩, hp'.2⟩
  · intro σ w h hu t ht
    obtain rfl : t = tv s.hd := slots.get h ht
    refine buildSlice_sl (e := 9) (cs := #[tv s.hd]) h (fun w => by kernel_rfl) fun b w h => ?_
    refine st3 h (st2 h (st1 h ?_))
    exact slots.keepb (xs := [s.hd].map tv) h (by omega) rfl fun I hI => hI
  · intro σ w h hu t ht
    obtain ⟨ta, tc, rfl, _, _⟩ : RdS (hp w) t _ _ := slots.get h ht
    refine pvv_of (v := .agg (rvc ⟨[104], .slice ta 1 tc, [s.hd]⟩).toArray) (fun w => by kernel_rfl) ?_
    refine slots.add (h.pers_dup.mono fun I h' hp' => ?_)
    rw [pers_star_p] at hp' ⊢
    exact ⟨⟨_, rfl, hp'.1 12 _ ht⟩, hp'.2⟩
  · intro σ w h t0 h0 t1 h1 t2 h2 t3 h3 t4 h4 t5 h5 t6 h6 t7 h7 t8 h8 t9 h9 t10 h10 t11 h11 t12 h12 t13 h13
    obtain ⟨u7, e7, ⟨a7, c7', rfl, _, _⟩⟩ : ∃ u, t7 = .agg (rvc ⟨[35], u, [numT s.bn, numT s.an, numT s.last]⟩).toArray ∧ RdS (hp w) u 3 _ := slots.get h h7
    obtain ⟨u9, e9, ⟨a9, c9', rfl, _, _⟩⟩ : ∃ u, t9 = .agg (rvc ⟨[97], u, [s.ah]⟩).toArray ∧ RdS (hp w) u 1 _ := slots.get h h9
    obtain ⟨u11, e11, ⟨a11, c11', rfl, _, _⟩⟩ : ∃ u, t11 = .agg (rvc ⟨[98], u, [s.bh]⟩).toArray ∧ RdS (hp w) u 1 _ := slots.get h h11
    obtain ⟨u13, e13, ⟨a13, c13', rfl, _, _⟩⟩ : ∃ u, t13 = .agg (rvc ⟨[104], u, [s.hd]⟩).toArray ∧ RdS (hp w) u 1 _ := slots.get h h13
    subst e7 e9 e11 e13
    have inj : ∀ {k : List UInt8} {u u' : Value} {cs : List (List UInt8)}, (.agg (rvc ⟨k, u, cs⟩).toArray : Value) = .agg (rvc ⟨k, u', cs⟩).toArray → u = u' := by
      intro k u u' cs he
      simpa [rvc] using he
    have h : sat E w (pers (colsP [⟨[35], .slice a7 3 c7', [numT s.bn, numT s.an, numT s.last]⟩, ⟨[97], .slice a9 1 c9', [s.ah]⟩, ⟨[98], .slice a11 1 c11', [s.bh]⟩, ⟨[104], .slice a13 1 c13', [s.hd]⟩]) * chI p s (.slice a s.l.length c) R) := by
      refine h.pers_mono fun I hI => ?_
      obtain ⟨u, q1, q2⟩ := hI 7 _ h7
      obtain rfl := inj q1
      obtain ⟨u, q1, q3⟩ := hI 9 _ h9
      obtain rfl := inj q1
      obtain ⟨u, q1, q4⟩ := hI 11 _ h11
      obtain rfl := inj q1
      obtain ⟨u, q1, q5⟩ := hI 13 _ h13
      obtain rfl := inj q1
      intro x hx
      simp only [List.mem_cons, List.not_mem_nil, or_false] at hx
      rcases hx with rfl | rfl | rfl | rfl
      · exact q2
      · exact q3
      · exact q4
      · exact q5
    have hsd : ([⟨[35], .slice a7 3 c7', [numT s.bn, numT s.an, numT s.last]⟩, ⟨[97], .slice a9 1 c9', [s.ah]⟩, ⟨[98], .slice a11 1 c11', [s.bh]⟩, ⟨[104], .slice a13 1 c13', [s.hd]⟩] : List RV).map RV.said = heads s := rfl
    refine buildSlice_sl (e := 71) (cs := (rvs [⟨[35], .slice a7 3 c7', [numT s.bn, numT s.an, numT s.last]⟩, ⟨[97], .slice a9 1 c9', [s.ah]⟩, ⟨[98], .slice a11 1 c11', [s.bh]⟩, ⟨[104], .slice a13 1 c13', [s.hd]⟩]).toArray) h (fun w => by kernel_rfl) fun b w h => ?_
    have h : sat E w (osl 71 2 (.slice (some ⟨b, 0, none⟩) 4 4) 4 (rvs _) * _) := osl_of h rfl (by omega)
    generalize hl0 : ([⟨[35], .slice a7 3 c7', [numT s.bn, numT s.an, numT s.last]⟩, ⟨[97], .slice a9 1 c9', [s.ah]⟩, ⟨[98], .slice a11 1 c11', [s.bh]⟩, ⟨[104], .slice a13 1 c13', [s.hd]⟩] : List RV) = l0 at h hsd
    have hl4 : l0.length = 4 := by rw [← hl0]; rfl
    clear hl0 h0 h1 h2 h3 h4 h5 h6 h7 h8 h9 h10 h11 h12 h13 st1 st2 st3 e1 sn
    have hpI : ∀ {w : World} {X : HP}, sat E w (X * chI p s (.slice a s.l.length c) R) → w.heap[p]? = some (.cells (icells s (.slice a s.l.length c)).toArray 59 (0, 0)) := fun h => sat.has (P := chI p s (.slice a s.l.length c) R) h.drop
    refine st_cell (cell_of (hpI h.drop) (by simpa using ic_last ok)) ?_
    refine st_cell (cell_of (hpI h.drop) (by simpa using ic_an ok)) ?_
    refine st_cell (cell_of (hpI h.drop) (by rfl)) ?_
    try simp only [↓o_nil, ↓o_field, ↓o_add, ↓o_sub, ↓o_mul, ↓o_lss, ↓o_leq, ↓o_gtr, ↓o_geq, ↓o_not, ↓o_pick, ↓o_eqInt, ↓o_neInt, ↓o_eqBool, ↓o_neBool, ↓o_eqPtr, ↓o_nePtr, ↓o_eqPtr', ↓o_eqSl, ↓o_neSl, ↓o_eqStr, ↓o_neStr, ↓o_len, ↓o_lenS, ↓o_min, ↓o_max, ↓o_extract, ↓o_convInt, ↓cd_true, ↓cd_false, ↓gate_tt, ↓gate_ff, ↓gate_tf, ↓gate_ft, ↓gate_undef, ↓o_bind, ↓stay_v, ↓pop_cons, ↓fin_nil, Option.isNone_none, Option.isNone_some, Bool.not_true, Bool.not_false, Nat.zero_add, decide_true, decide_false, if_true, if_false, Bool.false_eq_true, ↓reduceIte]
    refine ld_in (b := p) (v := .slice a s.l.length c) h (ic_l ok) ?_
    rw [o_len]
    refine lp_nat (fun q σ w => ∃ (j : Nat) (out : Value) (l : List RV), σ = [out, .int .i64 (j : Int)] ∧ q = s.l.length - j ∧ j ≤ s.l.length ∧ l.map RV.said = heads s ++ (s.l.take j).map evRow ∧ sat E w (osl 71 2 out l.length (rvs l) * (pers (colsP l) * chI p s (.slice a s.l.length c) R))) s.l.length
      ⟨0, _, l0, rfl, by omega, by omega, by rw [hsd]; simp, by rw [hl4]; exact h⟩ ?_
    clear h
    rintro q σ w again ⟨j, out, l, rfl, rfl, hj, hsl, h⟩ hag
    have hll : l.length = 4 + j := by
      have := congrArg List.length hsl
      simp [heads] at this
      omega
    rw [pop_cons, pop_cons, fin_nil, o_lss]
    refine cd_dec (fun hlt => ?_) (fun hge => ?_)
    · have hj2 : j < s.l.length := by omega
      obtain ⟨b', o, c', e, hc', hrd⟩ := hv.opened h.drop.drop (by rw [evs_length]; omega)
      cases e
      rw [o_index (by omega) (by omega)]
      refine ld_el h (Rds.right (Rds.right hrd)) (j * 4) (by simp) (ecells s.l[j]) rfl (evs_at (by simp [hj2])) ?_
      refine alloc_sl h fun x w h => ?_
      have h : sat E w (pts x (.cells (ecells zeroE).toArray 34 (0, 0)) * (osl 71 2 out l.length (rvs l) * (pers (colsP l) * chI p s (.slice _ s.l.length c) R))) := h
      refine store_all (b := x) h (xs := ecells zeroE) (vs := ecells s.l[j]) rfl rfl (ecells_one _) fun w h => ?_
      refine dr_sl h fun w h _ => ?_
      generalize hx : s.l[j] = y at h
      have hxb : ∀ {w : World} {X : HP}, sat E w (X * (pts x (.cells (ecells y).toArray 34 (0, 0)) * (osl 71 2 out l.length (rvs l) * (pers (colsP l) * chI p s (.slice (some ⟨b', o, none⟩) s.l.length c) R)))) → w.heap[x]? = some (.cells (ecells y).toArray 34 (0, 0)) := fun h => h.drop.pts_get
      try simp only [↓o_nil, ↓o_field, ↓o_add, ↓o_sub, ↓o_mul, ↓o_lss, ↓o_leq, ↓o_gtr, ↓o_geq, ↓o_not, ↓o_pick, ↓o_eqInt, ↓o_neInt, ↓o_eqBool, ↓o_neBool, ↓o_eqPtr, ↓o_nePtr, ↓o_eqPtr', ↓o_eqSl, ↓o_neSl, ↓o_eqStr, ↓o_neStr, ↓o_len, ↓o_lenS, ↓o_min, ↓o_max, ↓o_extract, ↓o_convInt, ↓cd_true, ↓cd_false, ↓gate_tt, ↓gate_ff, ↓gate_tf, ↓gate_ft, ↓gate_undef, ↓o_bind, ↓stay_v, ↓pop_cons, ↓fin_nil, Option.isNone_none, Option.isNone_some, Bool.not_true, Bool.not_false, Nat.zero_add, decide_true, decide_false, if_true, if_false, Bool.false_eq_true, ↓reduceIte]
      refine ld_in (b := x) (v := .int .i64 y.n) h rfl ?_
      refine ld_in (b := x) (v := .int .i64 y.t) h rfl ?_
      refine ld_in (b := x) (v := tv y.what) h rfl ?_
      refine ld_in (b := x) (v := tv y.who) h rfl ?_
      have h := h.perm (emp_star _).symm
      have g0 : ∀ {w : World} {A : Prop} {X : HP}, sat E w (X * (pts x (.cells (ecells y).toArray 34 (0, 0)) * (osl 71 2 out l.length (rvs l) * (pers (colsP l) * chI p s (.slice (some ⟨b', o, none⟩) s.l.length c) R)))) → A → stv prog none (Instr.loadAt 3 (.pointer (some ⟨x, 0, none⟩))) (.int .i64 y.n) w A := fun h k => st_cell (cell_of (hxb h) (by rfl)) k
      have g1 : ∀ {w : World} {A : Prop} {X : HP}, sat E w (X * (pts x (.cells (ecells y).toArray 34 (0, 0)) * (osl 71 2 out l.length (rvs l) * (pers (colsP l) * chI p s (.slice (some ⟨b', o, none⟩) s.l.length c) R)))) → A → stv prog none (Instr.loadAt 3 (.pointer (some ⟨x, 1, none⟩))) (.int .i64 y.t) w A := fun h k => st_cell (cell_of (hxb h) (by rfl)) k
      have g2 : ∀ {w : World} {A : Prop} {X : HP}, sat E w (X * (pts x (.cells (ecells y).toArray 34 (0, 0)) * (osl 71 2 out l.length (rvs l) * (pers (colsP l) * chI p s (.slice (some ⟨b', o, none⟩) s.l.length c) R)))) → A → stv prog none (Instr.loadAt 9 (.pointer (some ⟨x, 2, none⟩))) (tv y.what) w A := fun h k => st_cell (cell_of (hxb h) (by rfl)) k
      have g3 : ∀ {w : World} {A : Prop} {X : HP}, sat E w (X * (pts x (.cells (ecells y).toArray 34 (0, 0)) * (osl 71 2 out l.length (rvs l) * (pers (colsP l) * chI p s (.slice (some ⟨b', o, none⟩) s.l.length c) R)))) → A → stv prog none (Instr.loadAt 9 (.pointer (some ⟨x, 3, none⟩))) (tv y.who) w A := fun h k => st_cell (cell_of (hxb h) (by rfl)) k
      refine num_spec h hdI.up fun w h => ?_
      refine g3 h (g2 h (g1 h ?_))
      have e0 : (.string ⟨#[110]⟩ : Value) = tv [110] := rfl
      have l17 := numT_length y.n
      rw [e0, o_catT (by simp; omega)]
      refine num_spec h hdI.up fun w h => ?_
      refine g3 h (g2 h (g0 h ?_))
      refine buildSlice_sl (e := 9) (cs := ([numT y.t, y.what, y.who].map tv).toArray) h (fun w => by kernel_rfl) fun b4 w h => ?_
      rw [← star_assoc] at h
      refine g1 h (g0 h ?_)
      rw [star_assoc] at h
      refine pvv_of (v := .agg (rvc ⟨110 :: numT y.n, .slice (some ⟨b4, 0, none⟩) 3 3, [numT y.t, y.what, y.who]⟩).toArray) (fun w => by kernel_rfl) ?_
      have h : sat E w (osl 9 1 (.slice (some ⟨b4, 0, none⟩) 3 3) 3 ([numT y.t, y.what, y.who].map tv) * _) := osl_of h rfl (by omega)
      have h := osl_freeze h
      generalize hxv : (⟨110 :: numT y.n, .slice (some ⟨b4, 0, none⟩) 3 3, [numT y.t, y.what, y.who]⟩ : RV) = xv
      have hsx : xv.said = evRow s.l[j] := by rw [hx, ← hxv]; rfl
      have h := h.pers_mono (ψ := colsP [xv]) fun I hI z hz => by
        rw [List.mem_singleton.1 hz, ← hxv]
        exact hI
      have hu1 : ∀ q ∈ rvc xv, q.oneCell' = true := by rw [← hxv]; intro q hq; simp [rvc] at hq; rcases hq with rfl | rfl <;> rfl
      clear hxv
      refine buildSlice_sl (e := 71) (cs := (rvc xv).toArray) h (fun w => by kernel_rfl) fun b5 w h => ?_
      have hf : ∀ {w : World} {X Y Z : HP}, sat E w (X * (Y * (Z * (pts x (.cells (ecells y).toArray 34 (0, 0)) * (osl 71 2 out l.length (rvs l) * (pers (colsP l) * chI p s (.slice (some ⟨b', o, none⟩) s.l.length c) R)))))) → sat E w ((X * (Y * Z)) * (pts x (.cells (ecells y).toArray 34 (0, 0)) * (osl 71 2 out l.length (rvs l) * (pers (colsP l) * chI p s (.slice (some ⟨b', o, none⟩) s.l.length c) R)))) := fun h => h.perm (by ac_rfl)
      refine g3 (hf h) (g2 (hf h) (g1 (hf h) (g0 (hf h) ?_)))
      refine append_sl (v := out) h (rvc xv) (k' := 1) rfl (.inr ⟨b5, 0, _, _, _, rfl, h.pts_get, fun j v hj => by simpa using hj⟩) hu1 (by omega) (by omega) fun v' w h => ?_
      have hxb2 : w.heap[x]? = some (.cells (ecells y).toArray 34 (0, 0)) := sat.has h
      refine st_cell (cell_of hxb2 (by rfl)) (st_cell (cell_of hxb2 (by rfl)) (st_cell (cell_of hxb2 (by rfl)) (st_cell (cell_of hxb2 (by rfl)) ?_)))
      try rw [o_add]
      rw [i64_of (by omega) (by omega)]
      refine hag (s.l.length - (j + 1)) _ _ (by omega) ⟨j + 1, v', l ++ [xv], rfl, rfl, by omega, said_take hsl hj2 hsx, ?_⟩
      have h := (h.lose b5).lose x
      have e9 : rvs l ++ rvc xv = rvs (l ++ [xv]) := by rw [rvs_append]; simp [rvs]
      rw [e9] at h
      have h := h.perm (show _ = emp * (pers (colsP l) * (pers (colsP [xv]) * (osl 71 2 v' (l.length + 1) (rvs (l ++ [xv])) * chI p s (.slice (some ⟨b', o, none⟩) s.l.length c) R))) by unfold chI; ac_rfl)
      have h := h.drop
      rw [← star_assoc, pers_and] at h
      have h := h.pers_mono (ψ := colsP (l ++ [xv])) fun I hI => colsP_append hI.1 hI.2
      rw [List.length_append, List.length_singleton]
      exact h.perm (star_left_comm _ _ _)
    · have hj2 : j = s.l.length := by omega
      subst hj2
      refine k out l w ?_ h
      rw [hsl, List.take_length]
      rfl
end Go.Proofs.YtjeiojibnmfibaaDoor

/-
  Rows of texts compared.
-/
set_option linter.all false
set_option maxRecDepth 10000
namespace Go.Proofs.YtjeiojibnmfibaaDoor
open Go Hold
variable {E : World0} {w : World} {H R : HP} {K : Value → World → Prop}
theorem SameTexts_spec (h : sat E w H) {v u : Value} {l m : List (List UInt8)} (hv : Rds H v l.length (l.map tv)) (hu : Rds H u m.length (m.map tv)) (hl : l.length ≤ 140737488355328)
    (k : ∀ w', sat E w' H → K (.bool (decide (l = m))) w') : Calls prog 48 #[v, u] w (Ret K) := by
  obtain ⟨a, c, rfl, hc, hv, ha⟩ := hv.shape h
  obtain ⟨a', c', rfl, hc', hu, ha'⟩ := hu.shape h
  refine c48 ?_
  unfold B48
  simp only [↓o_nil, ↓o_field, ↓o_add, ↓o_sub, ↓o_mul, ↓o_lss, ↓o_leq, ↓o_gtr, ↓o_geq, ↓o_not, ↓o_pick, ↓o_eqInt, ↓o_neInt, ↓o_eqBool, ↓o_neBool, ↓o_eqPtr, ↓o_nePtr, ↓o_eqPtr', ↓o_eqSl, ↓o_neSl, ↓o_eqStr, ↓o_neStr, ↓o_len, ↓o_lenS, ↓o_min, ↓o_max, ↓o_extract, ↓o_convInt, ↓cd_true, ↓cd_false, ↓gate_tt, ↓gate_ff, ↓gate_tf, ↓gate_ft, ↓gate_undef, ↓o_bind, ↓stay_v, ↓pop_cons, ↓fin_nil, Option.isNone_none, Option.isNone_some, Bool.not_true, Bool.not_false, Nat.zero_add, decide_true, decide_false, if_true, if_false, Bool.false_eq_true, ↓reduceIte]
  refine cd_dec' (fun he => ?_) (fun hne => ?_)
  · have he : l.length = m.length := by omega
    refine lp_nat (fun n σ w => ∃ i : Nat, σ = [.int .i64 i] ∧ n = l.length - i ∧ i ≤ l.length ∧ l.take i = m.take i ∧ sat E w H) l.length ⟨0, rfl, rfl, by omega, rfl, h⟩ ?_
    rintro n σ w again ⟨i, rfl, rfl, hi, heq, h⟩ hag
    simp only [↓o_nil, ↓o_field, ↓o_add, ↓o_sub, ↓o_mul, ↓o_lss, ↓o_leq, ↓o_gtr, ↓o_geq, ↓o_not, ↓o_pick, ↓o_eqInt, ↓o_neInt, ↓o_eqBool, ↓o_neBool, ↓o_eqPtr, ↓o_nePtr, ↓o_eqPtr', ↓o_eqSl, ↓o_neSl, ↓o_eqStr, ↓o_neStr, ↓o_len, ↓o_lenS, ↓o_min, ↓o_max, ↓o_extract, ↓o_convInt, ↓cd_true, ↓cd_false, ↓gate_tt, ↓gate_ff, ↓gate_tf, ↓gate_ft, ↓gate_undef, ↓o_bind, ↓stay_v, ↓pop_cons, ↓fin_nil, Option.isNone_none, Option.isNone_some, Bool.not_true, Bool.not_false, Nat.zero_add, decide_true, decide_false, if_true, if_false, Bool.false_eq_true, ↓reduceIte]
    refine cd_dec (fun hlt => ?_) (fun hge => ?_)
    · have hlt : i < l.length := by simpa using hlt
      refine dr_sl h fun w h _ => ?_
      obtain ⟨b, o, rfl, hb⟩ := win_cell (hv.win h) (j := i) (by simpa using hlt)
      obtain ⟨b', o', rfl, hb'⟩ := win_cell (hu.win h) (j := i) (by simp; omega)
      rw [o_index (by omega) (by omega), o_index (by omega) (by omega)]
      simp only [Int.toNat_natCast, Nat.mul_one]
      refine ld_cell hb ?_
      refine ld_cell hb' ?_
      simp only [List.getElem_map]
      rw [o_neT]
      refine cd_dec' (fun hx => ?_) (fun hx => ?_)
      · (try rw [o_add]); rw [i64_of (by omega) (by omega)]
        refine hag (l.length - (i + 1)) _ _ (by omega) ⟨i + 1, rfl, rfl, by omega, ?_, h⟩
        rw [List.take_succ_eq_append_getElem hlt, List.take_succ_eq_append_getElem (by omega), heq, hx]
      · have : ¬ l = m := by rintro rfl; exact hx rfl
        have := k w h
        simpa [*] using this
    · have hge : i = l.length := by omega
      subst hge
      have : l = m := by rw [List.take_length] at heq; rw [heq]; rw [he]; simp
      have hk := k w h
      simpa [this] using hk
  · have : ¬ l = m := by rintro rfl; exact hne rfl
    have hk := k w h
    simpa [this] using hk
end Go.Proofs.YtjeiojibnmfibaaDoor

/-
  Rows compared; rows put in order that are in order.
-/
set_option linter.all false
set_option maxRecDepth 10000
namespace Go.Proofs.YtjeiojibnmfibaaDoor
open Go Hold
variable {E : World0} {w : World} {H R : HP} {K : Value → World → Prop}
theorem rvs_cell {l : List RV} {i f : Nat} {x : RV} {v : Value} (h : l[i]? = some x) (hf : (rvc x)[f]? = some v) : (rvs l)[i * 2 + f]? = some v := take_cell (rvs_at h) hf
theorem said_at {l m : List RV} (h : l.map RV.said = m.map RV.said) {i : Nat} (hl : i < l.length) (hm : i < m.length) : l[i].key = m[i].key ∧ l[i].cols = m[i].cols := by
  have := congrArg (fun q : List (List UInt8 × List (List UInt8)) => q[i]?) h
  simp only [List.getElem?_map, List.getElem?_eq_getElem hl, List.getElem?_eq_getElem hm, Option.map_some, Option.some.injEq, RV.said, Prod.mk.injEq] at this
  exact this
theorem SameRows_spec (h : sat E w H) {v u : Value} {l m : List RV} (hv : Rds H v l.length (rvs l)) (hu : Rds H u m.length (rvs m)) (hc : ∀ E w, sat E w H → (colsP l).p (hp w) ∧ (colsP m).p (hp w)) (he : l.map RV.said = m.map RV.said) (hn : l.length ≤ 1000)
    (hcs : ∀ x ∈ l, x.cols.length ≤ 1000) (k : ∀ w', sat E w' H → K (.bool true) w') : Calls prog 37 #[v, u] w (Ret K) := by
  have hlm : l.length = m.length := by simpa using congrArg List.length he
  obtain ⟨a, c, rfl, hca, hv, _⟩ := hv.shape h
  obtain ⟨a', c', rfl, hca', hu, _⟩ := hu.shape h
  refine c37 ?_
  unfold B37
  rw [o_len, o_len, o_neInt, show (!decide ((l.length : Int) = m.length)) = false by simp [hlm], cd_false]
  refine lp_nat (fun q σ w => ∃ i : Nat, σ = [.int .i64 (i : Int)] ∧ q = l.length - i ∧ i ≤ l.length ∧ sat E w H) l.length ⟨0, rfl, by omega, by omega, h⟩ ?_
  clear h
  rintro q σ w again ⟨i, rfl, rfl, hi, h⟩ hag
  rw [pop_cons, fin_nil, o_len, o_lss]
  refine cd_dec (fun hlt => ?_) (fun hge => ?_)
  · have hi1 : i < l.length := by omega
    have hi2 : i < m.length := by omega
    obtain ⟨b1, o1, _, e1, _, hv⟩ := hv.opened h (by rw [rvs_length]; omega)
    cases e1
    obtain ⟨b2, o2, _, e2, _, hu⟩ := hu.opened h (by rw [rvs_length]; omega)
    cases e2
    obtain ⟨ek, ec⟩ := said_at he hi1 hi2
    have ix : ∀ {w : World} {K : Value → World → Prop}, pvv prog (Instr.indexAt 51 (.slice (some ⟨b1, o1, none⟩) l.length c) (.int .i64 (i : Int))) w K = K (.pointer (some ⟨b1, o1 + i * 2, none⟩)) w := fun {w K} => by
      rw [o_index (by omega) (by omega), Int.toNat_natCast]
    have iy : ∀ {w : World} {K : Value → World → Prop}, pvv prog (Instr.indexAt 51 (.slice (some ⟨b2, o2, none⟩) m.length c') (.int .i64 (i : Int))) w K = K (.pointer (some ⟨b2, o2 + i * 2, none⟩)) w := fun {w K} => by
      rw [o_index (by omega) (by omega), Int.toNat_natCast]
    have x0 := rvs_cell (f := 0) (List.getElem?_eq_getElem hi1) rfl
    have x1 := rvs_cell (f := 1) (List.getElem?_eq_getElem hi1) rfl
    have y0 := rvs_cell (f := 0) (List.getElem?_eq_getElem hi2) rfl
    have y1 := rvs_cell (f := 1) (List.getElem?_eq_getElem hi2) rfl
    refine dr_sl h fun w h _ => ?_
    simp only [ix, iy, ↓o_nil, ↓o_field, ↓o_add, ↓o_sub, ↓o_mul, ↓o_lss, ↓o_leq, ↓o_gtr, ↓o_geq, ↓o_not, ↓o_pick, ↓o_eqInt, ↓o_neInt, ↓o_eqBool, ↓o_neBool, ↓o_eqPtr, ↓o_nePtr, ↓o_eqPtr', ↓o_eqSl, ↓o_neSl, ↓o_eqStr, ↓o_neStr, ↓o_len, ↓o_lenS, ↓o_min, ↓o_max, ↓o_extract, ↓o_convInt, ↓cd_true, ↓cd_false, ↓gate_tt, ↓gate_ff, ↓gate_tf, ↓gate_ft, ↓gate_undef, ↓o_bind, ↓stay_v, ↓pop_cons, ↓fin_nil, Option.isNone_none, Option.isNone_some, Bool.not_true, Bool.not_false, Nat.zero_add, decide_true, decide_false, if_true, if_false, Bool.false_eq_true, ↓reduceIte]
    refine ld_rd h hv (i * 2 + 0) (by omega) x0 ?_
    refine ld_rd h hu (i * 2 + 0) (by omega) y0 ?_
    rw [o_neT, ek, show (!decide (m[i].key = m[i].key)) = false by simp]
    try simp only [ix, iy, ↓o_nil, ↓o_field, ↓o_add, ↓o_sub, ↓o_mul, ↓o_lss, ↓o_leq, ↓o_gtr, ↓o_geq, ↓o_not, ↓o_pick, ↓o_eqInt, ↓o_neInt, ↓o_eqBool, ↓o_neBool, ↓o_eqPtr, ↓o_nePtr, ↓o_eqPtr', ↓o_eqSl, ↓o_neSl, ↓o_eqStr, ↓o_neStr, ↓o_len, ↓o_lenS, ↓o_min, ↓o_max, ↓o_extract, ↓o_convInt, ↓cd_true, ↓cd_false, ↓gate_tt, ↓gate_ff, ↓gate_tf, ↓gate_ft, ↓gate_undef, ↓o_bind, ↓stay_v, ↓pop_cons, ↓fin_nil, Option.isNone_none, Option.isNone_some, Bool.not_true, Bool.not_false, Nat.zero_add, decide_true, decide_false, if_true, if_false, Bool.false_eq_true, ↓reduceIte]
    refine ld_rd h hv (i * 2 + 1) (by omega) x1 ?_
    try simp only [ix, iy, ↓o_nil, ↓o_field, ↓o_add, ↓o_sub, ↓o_mul, ↓o_lss, ↓o_leq, ↓o_gtr, ↓o_geq, ↓o_not, ↓o_pick, ↓o_eqInt, ↓o_neInt, ↓o_eqBool, ↓o_neBool, ↓o_eqPtr, ↓o_nePtr, ↓o_eqPtr', ↓o_eqSl, ↓o_neSl, ↓o_eqStr, ↓o_neStr, ↓o_len, ↓o_lenS, ↓o_min, ↓o_max, ↓o_extract, ↓o_convInt, ↓cd_true, ↓cd_false, ↓gate_tt, ↓gate_ff, ↓gate_tf, ↓gate_ft, ↓gate_undef, ↓o_bind, ↓stay_v, ↓pop_cons, ↓fin_nil, Option.isNone_none, Option.isNone_some, Bool.not_true, Bool.not_false, Nat.zero_add, decide_true, decide_false, if_true, if_false, Bool.false_eq_true, ↓reduceIte]
    refine ld_rd h hu (i * 2 + 1) (by omega) y1 ?_
    try simp only [ix, iy, ↓o_nil, ↓o_field, ↓o_add, ↓o_sub, ↓o_mul, ↓o_lss, ↓o_leq, ↓o_gtr, ↓o_geq, ↓o_not, ↓o_pick, ↓o_eqInt, ↓o_neInt, ↓o_eqBool, ↓o_neBool, ↓o_eqPtr, ↓o_nePtr, ↓o_eqPtr', ↓o_eqSl, ↓o_neSl, ↓o_eqStr, ↓o_neStr, ↓o_len, ↓o_lenS, ↓o_min, ↓o_max, ↓o_extract, ↓o_convInt, ↓cd_true, ↓cd_false, ↓gate_tt, ↓gate_ff, ↓gate_tf, ↓gate_ft, ↓gate_undef, ↓o_bind, ↓stay_v, ↓pop_cons, ↓fin_nil, Option.isNone_none, Option.isNone_some, Bool.not_true, Bool.not_false, Nat.zero_add, decide_true, decide_false, if_true, if_false, Bool.false_eq_true, ↓reduceIte]
    have cx : ∀ E w, sat E w H → RdS (hp w) l[i].v l[i].cols.length (l[i].cols.map tv) := fun E w h => (hc E w h).1 _ (List.getElem_mem hi1)
    have cy : ∀ E w, sat E w H → RdS (hp w) m[i].v m[i].cols.length (m[i].cols.map tv) := fun E w h => (hc E w h).2 _ (List.getElem_mem hi2)
    have hlc := hcs _ (List.getElem_mem hi1)
    refine SameTexts_spec h cx cy (by omega) fun w h => ?_
    refine st_rd h hu (i * 2 + 0) (by omega) y0 ?_
    refine st_rd h hv (i * 2 + 0) (by omega) (v := tv m[i].key) (by rw [← ek]; exact x0) ?_
    rw [ec, show decide (m[i].cols = m[i].cols) = true by simp]
    simp only [↓o_nil, ↓o_field, ↓o_add, ↓o_sub, ↓o_mul, ↓o_lss, ↓o_leq, ↓o_gtr, ↓o_geq, ↓o_not, ↓o_pick, ↓o_eqInt, ↓o_neInt, ↓o_eqBool, ↓o_neBool, ↓o_eqPtr, ↓o_nePtr, ↓o_eqPtr', ↓o_eqSl, ↓o_neSl, ↓o_eqStr, ↓o_neStr, ↓o_len, ↓o_lenS, ↓o_min, ↓o_max, ↓o_extract, ↓o_convInt, ↓cd_true, ↓cd_false, ↓gate_tt, ↓gate_ff, ↓gate_tf, ↓gate_ft, ↓gate_undef, ↓o_bind, ↓stay_v, ↓pop_cons, ↓fin_nil, Option.isNone_none, Option.isNone_some, Bool.not_true, Bool.not_false, Nat.zero_add, decide_true, decide_false, if_true, if_false, Bool.false_eq_true, ↓reduceIte]
    rw [i64_of (by omega) (by omega)]
    exact hag (l.length - (i + 1)) _ _ (by omega) ⟨i + 1, rfl, rfl, by omega, h⟩
  · exact k _ h
theorem Sorted_spec (h : sat E w H) {v : Value} {l : List RV} (hv : Rds H v l.length (rvs l)) (h1 : ∀ x ∈ rvs l, x.oneCell' = true) (hn : l.length ≤ 1000) (inc : ∀ (i : Nat) (x y : RV), l[i]? = some x → l[i + 1]? = some y → lexB x.key y.key = true)
    (k : ∀ u w', sat E w' (osl 71 2 u l.length (rvs l) * H) → K u w') : Calls prog 51 #[v] w (Ret K) := by
  obtain ⟨a, c, rfl, hca, hv, _⟩ := hv.shape h
  refine c51 ?_
  unfold B51
  refine lp_nat (fun q σ w => ∃ (i : Nat) (out : Value), σ = [out, .int .i64 (i : Int)] ∧ q = l.length - i ∧ i ≤ l.length ∧ sat E w (osl 71 2 out i (rvs (l.take i)) * H)) l.length ⟨0, _, rfl, by omega, by omega, by simpa [rvs] using osl_nil h 71 2⟩ ?_
  clear h
  rintro q σ w again ⟨i, out, rfl, rfl, hi, h⟩ hag
  rw [pop_cons, pop_cons, fin_nil, o_len, o_lss]
  have hti : (rvs (l.take i)).length = i * 2 := by rw [rvs_length]; simp; omega
  refine cd_dec (fun hlt => ?_) (fun hge => ?_)
  · have hi1 : i < l.length := by omega
    have ox : l[i]? = some l[i] := List.getElem?_eq_getElem hi1
    obtain ⟨b1, o1, _, e1, _, hv⟩ := hv.opened h.drop (by rw [rvs_length]; omega)
    cases e1
    obtain ⟨oa, oc, rfl, hoc, _, hpos⟩ := osl_shape h
    have hot : ∀ {w : World}, sat E w (osl 71 2 (.slice oa i oc) i (rvs (l.take i)) * H) → True := fun _ => trivial
    rw [o_len]
    have ix : ∀ {w : World} {K : Value → World → Prop}, pvv prog (Instr.indexAt 51 (.slice (some ⟨b1, o1, none⟩) l.length c) (.int .i64 (i : Int))) w K = K (.pointer (some ⟨b1, o1 + i * 2, none⟩)) w := fun {w K} => by
      rw [o_index (by omega) (by omega), Int.toNat_natCast]
    have fin : ∀ w, sat E w (osl 71 2 (.slice oa i oc) i (rvs (l.take i)) * H) →
        pvv prog (Instr.sliceAt 51 (.slice oa i oc) none (some (.int .i64 (i : Int))) none) w fun t_25 w =>
        ef prog (oBi .append #[51, 51] 51 #[false, false] #[(.slice none 0 0), t_25]) w fun t_26 w =>
        pvv prog (Instr.indexAt 51 (.slice (some ⟨b1, o1, none⟩) l.length c) (.int .i64 (i : Int))) w fun t_27 w =>
        ldv prog (Instr.loadAt 71 t_27) w fun t_28 w =>
        efv prog (Instr.buildSlice 51 1 #[(0, t_28)]) w fun t_29 w =>
        ef prog (oBi .append #[51, 51] 51 #[false, false] #[t_26, t_29]) w fun t_30 w =>
        pvv prog (Instr.sliceAt 51 (.slice oa i oc) (some (.int .i64 (i : Int))) none none) w fun t_31 w =>
        ef prog (oBi .append #[51, 51] 51 #[false, false] #[t_30, t_31]) w fun t_32 w =>
        pvv prog (binOp .add 3 (.int .i64 (i : Int)) (.int .i64 1)) w fun t_33 w =>
        again [t_32, t_33] w := by
      intro w h
      have hcut : Rds (osl 71 2 (.slice oa i oc) i (rvs (l.take i)) * H) (.slice (cutA oa oc 0 2) i oc) i (rvs (l.take i)) := by
        intro E w hs
        obtain ⟨a', c', e', hc', hw'⟩ := Rds.osl.left E w hs
        cases e'
        have h9 := win_cut hw' (c := oc) (n := 0) (sz := 2) (fun hcn => by rw [hti]; omega)
        exact ⟨_, _, rfl, hoc, by simpa using h9⟩
      rw [o_slice_h (by omega) (by omega), Int.toNat_natCast]
      refine append_sl (osl_nil h 71 2) (rvs (l.take i)) (k' := i) hti (hcut.win h) (fun x hx => h1 x (List.mem_flatMap.2 (by obtain ⟨y, hy, hx⟩ := List.mem_flatMap.1 hx; exact ⟨y, List.mem_of_mem_take hy, hx⟩))) (by omega) (by omega) fun v2 w h => ?_
      rw [ix]
      refine ld_el h (hv.right.right) (i * 2) (by omega) (rvc l[i]) rfl (rvs_at ox) ?_
      refine buildSlice_sl (e := 71) (cs := (rvc l[i]).toArray) h (fun w => by kernel_rfl) fun b5 w h => ?_
      refine append_sl (v := v2) h (rvc l[i]) (k' := 1) rfl (.inr ⟨b5, 0, _, _, _, rfl, h.pts_get, fun j v hj => by simpa using hj⟩) (fun x hx => h1 x (List.mem_flatMap.2 ⟨_, List.getElem_mem hi1, hx⟩)) (by omega) (by omega) fun v3 w h => ?_
      rw [o_slice_l (by omega) (by omega), Int.toNat_natCast]
      refine append_sl (v := v3) h [] (k' := i - i) (by simp) (.inl rfl) (by simp) (by omega) (by omega) fun v4 w h => ?_
      rw [o_add, i64_of (by omega) (by omega)]
      refine hag (l.length - (i + 1)) _ _ (by omega) ⟨i + 1, v4, rfl, rfl, by omega, ?_⟩
      have h := h.lose b5
      have e9 : [] ++ rvs (l.take i) ++ rvc l[i] ++ [] = rvs (l.take (i + 1)) := by rw [List.take_succ_eq_append_getElem hi1, rvs_append]; simp [rvs]
      have e8 : 0 + i + 1 + (i - i) = i + 1 := by omega
      rw [e9, e8] at h
      have h := h.perm (show _ = osl 71 2 (.slice oa i oc) i (rvs (l.take i)) * (osl 71 2 v4 (i + 1) (rvs (l.take (i + 1))) * H) by ac_rfl)
      exact h.drop
    refine lp_nat (fun q σ w => σ = [.int .i64 (i : Int)] ∧ sat E w (osl 71 2 (.slice oa i oc) i (rvs (l.take i)) * H)) 0 ⟨rfl, h⟩ ?_
    clear h
    rintro q σ w again2 ⟨rfl, h⟩ _
    rw [pop_cons, fin_nil]
    refine dr_sl h fun w h _ => ?_
    rw [o_gtr]
    by_cases h0 : i = 0
    · have t0 : decide ((0 : Int) < (i : Int)) = false := decide_eq_false (by omega)
      simp only [t0, ↓o_nil, ↓o_field, ↓o_add, ↓o_sub, ↓o_mul, ↓o_lss, ↓o_leq, ↓o_gtr, ↓o_geq, ↓o_not, ↓o_pick, ↓o_eqInt, ↓o_neInt, ↓o_eqBool, ↓o_neBool, ↓o_eqPtr, ↓o_nePtr, ↓o_eqPtr', ↓o_eqSl, ↓o_neSl, ↓o_eqStr, ↓o_neStr, ↓o_len, ↓o_lenS, ↓o_min, ↓o_max, ↓o_extract, ↓o_convInt, ↓cd_true, ↓cd_false, ↓gate_tt, ↓gate_ff, ↓gate_tf, ↓gate_ft, ↓gate_undef, ↓o_bind, ↓stay_v, ↓pop_cons, ↓fin_nil, Option.isNone_none, Option.isNone_some, Bool.not_true, Bool.not_false, Nat.zero_add, decide_true, decide_false, if_true, if_false, Bool.false_eq_true, ↓reduceIte]
      have := fin w h
      simp only [↓o_nil, ↓o_field, ↓o_add, ↓o_sub, ↓o_mul, ↓o_lss, ↓o_leq, ↓o_gtr, ↓o_geq, ↓o_not, ↓o_pick, ↓o_eqInt, ↓o_neInt, ↓o_eqBool, ↓o_neBool, ↓o_eqPtr, ↓o_nePtr, ↓o_eqPtr', ↓o_eqSl, ↓o_neSl, ↓o_eqStr, ↓o_neStr, ↓o_len, ↓o_lenS, ↓o_min, ↓o_max, ↓o_extract, ↓o_convInt, ↓cd_true, ↓cd_false, ↓gate_tt, ↓gate_ff, ↓gate_tf, ↓gate_ft, ↓gate_undef, ↓o_bind, ↓stay_v, ↓pop_cons, ↓fin_nil, Option.isNone_none, Option.isNone_some, Bool.not_true, Bool.not_false, Nat.zero_add, decide_true, decide_false, if_true, if_false, Bool.false_eq_true, ↓reduceIte] at this
      exact this
    · have t0 : decide ((0 : Int) < (i : Int)) = true := decide_eq_true (by omega)
      obtain ⟨ob, hob⟩ := hpos (by omega)
      subst hob
      have t3 : IntKind.i64.wrap ((i : Int) - 1) = ((i - 1 : Nat) : Int) := by rw [i64_of (by omega) (by omega)]; omega
      have iy : ∀ {w : World} {K : Value → World → Prop}, pvv prog (Instr.indexAt 51 (.slice (some ⟨ob, 0, none⟩) i oc) (.int .i64 ((i - 1 : Nat) : Int))) w K = K (.pointer (some ⟨ob, 0 + (i - 1) * 2, none⟩)) w := fun {w K} => by
        rw [o_index (by omega) (by omega), Int.toNat_natCast]
      have oy : (l.take i)[i - 1]? = some l[i - 1] := by rw [List.getElem?_take, if_pos (by omega)]; exact List.getElem?_eq_getElem (by omega)
      have oy2 : l[i - 1]? = some l[i - 1] := List.getElem?_eq_getElem (by omega)
      have hinc := inc (i - 1) _ _ oy2 (by rw [show i - 1 + 1 = i by omega]; exact ox)
      have hcut : Rds (osl 71 2 (.slice (some ⟨ob, 0, none⟩) i oc) i (rvs (l.take i)) * H) (.slice (some ⟨ob, 0, none⟩) i oc) i (rvs (l.take i)) := Rds.osl.left
      simp only [t0, t3, ix, iy, ↓o_nil, ↓o_field, ↓o_add, ↓o_sub, ↓o_mul, ↓o_lss, ↓o_leq, ↓o_gtr, ↓o_geq, ↓o_not, ↓o_pick, ↓o_eqInt, ↓o_neInt, ↓o_eqBool, ↓o_neBool, ↓o_eqPtr, ↓o_nePtr, ↓o_eqPtr', ↓o_eqSl, ↓o_neSl, ↓o_eqStr, ↓o_neStr, ↓o_len, ↓o_lenS, ↓o_min, ↓o_max, ↓o_extract, ↓o_convInt, ↓cd_true, ↓cd_false, ↓gate_tt, ↓gate_ff, ↓gate_tf, ↓gate_ft, ↓gate_undef, ↓o_bind, ↓stay_v, ↓pop_cons, ↓fin_nil, Option.isNone_none, Option.isNone_some, Bool.not_true, Bool.not_false, Nat.zero_add, decide_true, decide_false, if_true, if_false, Bool.false_eq_true, ↓reduceIte]
      refine ld_rd h hcut ((i - 1) * 2 + 0) (by omega) (rvs_cell (f := 0) oy rfl) ?_
      try simp only [ix, iy, ↓o_nil, ↓o_field, ↓o_add, ↓o_sub, ↓o_mul, ↓o_lss, ↓o_leq, ↓o_gtr, ↓o_geq, ↓o_not, ↓o_pick, ↓o_eqInt, ↓o_neInt, ↓o_eqBool, ↓o_neBool, ↓o_eqPtr, ↓o_nePtr, ↓o_eqPtr', ↓o_eqSl, ↓o_neSl, ↓o_eqStr, ↓o_neStr, ↓o_len, ↓o_lenS, ↓o_min, ↓o_max, ↓o_extract, ↓o_convInt, ↓cd_true, ↓cd_false, ↓gate_tt, ↓gate_ff, ↓gate_tf, ↓gate_ft, ↓gate_undef, ↓o_bind, ↓stay_v, ↓pop_cons, ↓fin_nil, Option.isNone_none, Option.isNone_some, Bool.not_true, Bool.not_false, Nat.zero_add, decide_true, decide_false, if_true, if_false, Bool.false_eq_true, ↓reduceIte]
      refine ld_rd h hv.right (i * 2 + 0) (by omega) (rvs_cell (f := 0) ox rfl) ?_
      try simp only [ix, iy, ↓o_nil, ↓o_field, ↓o_add, ↓o_sub, ↓o_mul, ↓o_lss, ↓o_leq, ↓o_gtr, ↓o_geq, ↓o_not, ↓o_pick, ↓o_eqInt, ↓o_neInt, ↓o_eqBool, ↓o_neBool, ↓o_eqPtr, ↓o_nePtr, ↓o_eqPtr', ↓o_eqSl, ↓o_neSl, ↓o_eqStr, ↓o_neStr, ↓o_len, ↓o_lenS, ↓o_min, ↓o_max, ↓o_extract, ↓o_convInt, ↓cd_true, ↓cd_false, ↓gate_tt, ↓gate_ff, ↓gate_tf, ↓gate_ft, ↓gate_undef, ↓o_bind, ↓stay_v, ↓pop_cons, ↓fin_nil, Option.isNone_none, Option.isNone_some, Bool.not_true, Bool.not_false, Nat.zero_add, decide_true, decide_false, if_true, if_false, Bool.false_eq_true, ↓reduceIte]
      rw [o_gtrT, hinc]
      simp only [Bool.true_or, Bool.not_true, ↓o_nil, ↓o_field, ↓o_add, ↓o_sub, ↓o_mul, ↓o_lss, ↓o_leq, ↓o_gtr, ↓o_geq, ↓o_not, ↓o_pick, ↓o_eqInt, ↓o_neInt, ↓o_eqBool, ↓o_neBool, ↓o_eqPtr, ↓o_nePtr, ↓o_eqPtr', ↓o_eqSl, ↓o_neSl, ↓o_eqStr, ↓o_neStr, ↓o_len, ↓o_lenS, ↓o_min, ↓o_max, ↓o_extract, ↓o_convInt, ↓cd_true, ↓cd_false, ↓gate_tt, ↓gate_ff, ↓gate_tf, ↓gate_ft, ↓gate_undef, ↓o_bind, ↓stay_v, ↓pop_cons, ↓fin_nil, Option.isNone_none, Option.isNone_some, Bool.not_true, Bool.not_false, Nat.zero_add, decide_true, decide_false, if_true, if_false, Bool.false_eq_true, ↓reduceIte]
      have := fin w h
      simp only [ix, ↓o_nil, ↓o_field, ↓o_add, ↓o_sub, ↓o_mul, ↓o_lss, ↓o_leq, ↓o_gtr, ↓o_geq, ↓o_not, ↓o_pick, ↓o_eqInt, ↓o_neInt, ↓o_eqBool, ↓o_neBool, ↓o_eqPtr, ↓o_nePtr, ↓o_eqPtr', ↓o_eqSl, ↓o_neSl, ↓o_eqStr, ↓o_neStr, ↓o_len, ↓o_lenS, ↓o_min, ↓o_max, ↓o_extract, ↓o_convInt, ↓cd_true, ↓cd_false, ↓gate_tt, ↓gate_ff, ↓gate_tf, ↓gate_ft, ↓gate_undef, ↓o_bind, ↓stay_v, ↓pop_cons, ↓fin_nil, Option.isNone_none, Option.isNone_some, Bool.not_true, Bool.not_false, Nat.zero_add, decide_true, decide_false, if_true, if_false, Bool.false_eq_true, ↓reduceIte] at this
      exact this
  · have hi2 : i = l.length := by omega
    subst hi2
    rw [List.take_length] at h
    exact k _ _ h
end Go.Proofs.YtjeiojibnmfibaaDoor

/-
  The order of numbers' texts.
-/
set_option linter.all false
set_option maxRecDepth 10000
namespace Go.Proofs.YtjeiojibnmfibaaDoor
open Go Hold
variable {E : World0} {w : World} {H R : HP} {K : Value → World → Prop}
/-! Texts of numbers are ordered as the numbers are. -/
theorem lex_last {a b : List UInt8} {x y : UInt8} (h : a.length = b.length) : lexB (a ++ [x]) (b ++ [y]) = if a = b then decide (x < y) else lexB a b := by
  induction a generalizing b with
  | nil =>
    have : b = [] := List.eq_nil_of_length_eq_zero h.symm
    subst this
    simp only [List.nil_append, lexB, if_true]
    by_cases hxy : x = y
    · subst hxy; simp
    · simp [hxy]
  | cons c a ih =>
    cases b with
    | nil => simp at h
    | cons d b =>
      simp only [List.cons_append, lexB]
      by_cases hcd : c = d
      · subst hcd
        simp [ih (by simpa using h)]
      · have : ¬ (c :: a = d :: b) := fun h => hcd (List.cons.inj h).1
        rw [if_neg hcd, if_neg this, if_neg hcd]
theorem dig_lt : ∀ x, x < 16 → ∀ y, y < 16 → (decide (dig x < dig y) = decide (x < y)) := by decide
theorem lexB_irrefl (a : List UInt8) : lexB a a = false := by
  induction a with
  | nil => rfl
  | cons c a ih => simp [lexB, ih]
theorem first_byte {m n : Nat} (hm : m ≤ 16) (hn : n ≤ 16) : (UInt8.ofNat (97 + m) = UInt8.ofNat (97 + n) ↔ m = n) ∧ (UInt8.ofNat (97 + m) < UInt8.ofNat (97 + n) ↔ m < n) := by
  rw [UInt8.lt_iff_toNat_lt, ← UInt8.toNat_inj, UInt8.toNat_ofNat', UInt8.toNat_ofNat']
  omega
theorem hexs_len16 {n : Nat} (h : n < 16 ^ 16) : (hexs n).length ≤ 16 := hexs_length 16 n h
theorem num_lex : ∀ (n a b : Nat), a < n → a < 16 ^ 16 → b < 16 ^ 16 → lexB (numText a) (numText b) = decide (a < b)
  | 0, a, b, h, _, _ => by omega
  | n + 1, a, b, hn, ha, hb => by
    have la := hexs_len16 ha
    have lb := hexs_len16 hb
    unfold numText
    simp only [lexB]
    obtain ⟨fe, fl⟩ := first_byte la lb
    by_cases ha0 : a = 0
    · subst ha0
      by_cases hb0 : b = 0
      · subst hb0; rw [hexs_zero]; simp [lexB]
      · have : 0 < (hexs b).length := by rw [hexs_pos hb0]; simp
        rw [hexs_zero] at fe fl ⊢
        have f1 : ¬ (UInt8.ofNat (97 + ([] : List UInt8).length) = UInt8.ofNat (97 + (hexs b).length)) := fun h => by have := fe.1 h; simp at this; omega
        rw [if_neg f1]
        have : UInt8.ofNat (97 + ([] : List UInt8).length) < UInt8.ofNat (97 + (hexs b).length) := fl.2 (by simpa using this)
        rw [decide_eq_true this, decide_eq_true (by omega)]
    · by_cases hb0 : b = 0
      · subst hb0
        have hpos : 0 < (hexs a).length := by rw [hexs_pos ha0]; simp
        rw [hexs_zero] at fe fl ⊢
        have f1 : ¬ (UInt8.ofNat (97 + (hexs a).length) = UInt8.ofNat (97 + ([] : List UInt8).length)) := fun h => by have := fe.1 h; simp only [List.length_nil] at this; omega
        rw [if_neg f1]
        have : ¬ UInt8.ofNat (97 + (hexs a).length) < UInt8.ofNat (97 + ([] : List UInt8).length) := fun h => by have := fl.1 h; simp at this
        rw [decide_eq_false this, decide_eq_false (by omega)]
      · have ih := num_lex n (a / 16) (b / 16) (by omega) (by omega) (by omega)
        unfold numText at ih
        simp only [lexB] at ih
        obtain ⟨ge, gl⟩ := first_byte (hexs_len16 (n := a / 16) (by omega)) (hexs_len16 (n := b / 16) (by omega))
        have ea : (hexs a).length = (hexs (a / 16)).length + 1 := by rw [hexs_pos ha0]; simp
        have eb : (hexs b).length = (hexs (b / 16)).length + 1 := by rw [hexs_pos hb0]; simp
        by_cases hl : (hexs (a / 16)).length = (hexs (b / 16)).length
        · rw [if_pos (fe.2 (by omega)), hexs_pos ha0, hexs_pos hb0, lex_last hl, dig_lt _ (by omega) _ (by omega)]
          rw [if_pos (ge.2 hl)] at ih
          by_cases hh : hexs (a / 16) = hexs (b / 16)
          · rw [if_pos hh]
            rw [hh, lexB_irrefl] at ih
            have ih2 := num_lex n (a / 16) (b / 16) (by omega) (by omega) (by omega)
            have hq : a / 16 = b / 16 := by
              have h1 : ¬ (a / 16 < b / 16) := by simpa using ih.symm
              -- the other way round
              have h2 : ¬ (b / 16 < a / 16) := by
                intro hlt
                have ih3 := num_lex n (b / 16) (a / 16) (by omega) (by omega) (by omega)
                unfold numText at ih3
                rw [hh, lexB_irrefl] at ih3
                have : ¬ (b / 16 < a / 16) := by simpa using ih3.symm
                exact this hlt
              omega
            rw [decide_eq_decide]; omega
          · rw [if_neg hh, ih, decide_eq_decide]
            have hne : a / 16 ≠ b / 16 := fun h => hh (by rw [h])
            omega
        · have f1 : ¬ (UInt8.ofNat (97 + (hexs a).length) = UInt8.ofNat (97 + (hexs b).length)) := fun h => by have := fe.1 h; omega
          have g1 : ¬ (UInt8.ofNat (97 + (hexs (a / 16)).length) = UInt8.ofNat (97 + (hexs (b / 16)).length)) := fun h => hl (ge.1 h)
          rw [if_neg f1, decide_eq_decide, fl]
          rw [if_neg g1, decide_eq_decide, gl] at ih
          have hne : a / 16 ≠ b / 16 := fun h => hl (by rw [h])
          omega
theorem number_lex {a b : Nat} (ha : a ≤ 4611686018427387904) (hb : b ≤ 4611686018427387904) : lexB (numText a) (numText b) = decide (a < b) :=
  num_lex (a + 1) a b (by omega) (by show a < 18446744073709551616; omega) (by show b < 18446744073709551616; omega)
end Go.Proofs.YtjeiojibnmfibaaDoor

/-
  The reference's rows.
-/
set_option linter.all false
set_option maxRecDepth 10000
namespace Go.Proofs.YtjeiojibnmfibaaDoor
open Go Hold
variable {E : World0} {w : World} {H R : HP} {K : Value → World → Prop}
theorem text_spec (h : sat E w H) {l : List UInt8} (hl : l.length = 32) (k : ∀ w', sat E w' H → K (tv l) w') : Calls prog 50 #[.agg (l.map bv).toArray] w (Ret K) := by
  refine c50 ?_
  unfold B50
  refine box_sl h fun b1 w h => ?_
  have h : sat E w (pts b1 (.cells (l.map bv).toArray 36 (0, 0)) * H) := h
  refine ld_agg (b := b1) h (by simpa using hl) ?_
  refine c59 ?_
  unfold B59
  refine box_sl h fun b2 w h => ?_
  have h : sat E w (pts b2 (.cells (l.map bv).toArray 36 (0, 0)) * (pts b1 (.cells (l.map bv).toArray 36 (0, 0)) * H)) := h
  refine ld_agg (b := b2) h (by simpa using hl) ?_
  refine bytesOf_spec h hl fun v w h => ?_
  refine conv_bs (l := l) (by rw [hl]; exact osl_rd h) ?_
  exact k _ h.drop.drop.drop
/-- The keys rise. -/
theorem keys_rise {s : Ch} {m : Nat} (ok : Ok s m) (hm : m ≤ 1000000000000000) (rs : Risen s) {l : List RV} (hl : l.map RV.said = rowsOf s) : ∀ (i : Nat) (x y : RV), l[i]? = some x → l[i + 1]? = some y → lexB x.key y.key = true := by
  intro i x y hx hy
  have := ok.top; have := ok.b0
  have hkx : ((rowsOf s)[i]?).map (·.1) = some x.key := by rw [← hl, List.getElem?_map, hx]; rfl
  have hky : ((rowsOf s)[i + 1]?).map (·.1) = some y.key := by rw [← hl, List.getElem?_map, hy]; rfl
  have hlen : (heads s).length = 4 := rfl
  unfold rowsOf at hkx hky
  by_cases h4 : i < 3
  · have : i = 0 ∨ i = 1 ∨ i = 2 := by omega
    rcases this with rfl | rfl | rfl
    all_goals
      simp [heads] at hkx hky
      rw [← hkx, ← hky]
      rfl
  · rw [List.getElem?_append_right (by omega), hlen, List.getElem?_map, Option.map_map] at hky
    obtain ⟨b, hb, eb⟩ := Option.map_eq_some_iff.1 hky
    have eb : 110 :: numT b.n = y.key := eb
    by_cases h5 : i = 3
    · subst h5
      simp [heads] at hkx
      rw [← hkx, ← eb]
      rfl
    · rw [List.getElem?_append_right (by omega), hlen, List.getElem?_map, Option.map_map] at hkx
      obtain ⟨a, ha, ea⟩ := Option.map_eq_some_iff.1 hkx
      have ea : 110 :: numT a.n = x.key := ea
      obtain ⟨na, _⟩ := rs.num _ _ ha
      obtain ⟨nb, _⟩ := rs.num _ _ hb
      have hla := (List.getElem?_eq_some_iff.1 ha).1
      have hlb := (List.getElem?_eq_some_iff.1 hb).1
      rw [← ea, ← eb]
      obtain ⟨ka, hka⟩ := Int.eq_ofNat_of_zero_le (show 0 ≤ a.n by omega)
      obtain ⟨kb, hkb⟩ := Int.eq_ofNat_of_zero_le (show 0 ≤ b.n by omega)
      have e : ∀ n : Nat, n ≤ 4611686018427387904 → numT (n : Int) = numText n := fun n hn => by
        unfold numT number
        rw [if_neg (by omega)]
        rfl
      rw [hka, hkb, e ka (by omega), e kb (by omega)]
      have := number_lex (a := ka) (b := kb) (by omega) (by omega)
      simp only [lexB, if_true, this, decide_eq_true_eq]
      omega
def φR (s : Ch) : Nat → Value → PP
  | 1, v => ppOf (v = tv s.ah)
  | 5, v => ppOf (v = tv s.bh)
  | 8, v => ppOf (v = tv s.hd)
  | 0, v => immS v 3 ([numT s.bn, numT s.an, numT s.last].map tv)
  | 3, v => immS v 1 ([s.ah].map tv)
  | 6, v => immS v 1 ([s.bh].map tv)
  | 9, v => immS v 1 ([s.hd].map tv)
  | 2, v => ⟨fun I => ∃ u, v = .agg (rvc ⟨[35], u, [numT s.bn, numT s.an, numT s.last]⟩).toArray ∧ RdS I u 3 ([numT s.bn, numT s.an, numT s.last].map tv), fun hI ⟨u, h1, h2⟩ => ⟨u, h1, h2.mono hI⟩⟩
  | 4, v => ⟨fun I => ∃ u, v = .agg (rvc ⟨[97], u, [s.ah]⟩).toArray ∧ RdS I u 1 ([s.ah].map tv), fun hI ⟨u, h1, h2⟩ => ⟨u, h1, h2.mono hI⟩⟩
  | 7, v => ⟨fun I => ∃ u, v = .agg (rvc ⟨[98], u, [s.bh]⟩).toArray ∧ RdS I u 1 ([s.bh].map tv), fun hI ⟨u, h1, h2⟩ => ⟨u, h1, h2.mono hI⟩⟩
  | 10, v => ⟨fun I => ∃ u, v = .agg (rvc ⟨[104], u, [s.hd]⟩).toArray ∧ RdS I u 1 ([s.hd].map tv), fun hI ⟨u, h1, h2⟩ => ⟨u, h1, h2.mono hI⟩⟩
  | _, _ => ppOf True
theorem RRows_spec {p m : Nat} {s : Ch} {v : Value} (ok : Ok s m) (hm : m ≤ 1000000000000000) (rs : Risen s) (h : sat E w (chR p s v R))
    (k : ∀ u l w', l.map RV.said = rowsOf s → sat E w' (osl 71 2 u l.length (rvs l) * (pers (colsP l) * chR p s v R)) → K u w') : Calls prog 38 #[.pointer (some ⟨p, 0, none⟩)] w (Ret K) := by
  have := ok.few; have := ok.top; have := ok.b0
  obtain ⟨a, c, rfl, hc, hv, _⟩ := (rds_evsR (s := s)).shape h
  have q16 : ∀ {w : World} {A : Prop}, w.heap[p]? = some (.cells (rcells s (.slice a s.l.length c)).toArray 61 (0, 0)) → A → stv prog none (Instr.loadAt 3 (.pointer (some ⟨p, 0, none⟩))) (.int .i64 s.bn) w A := fun hb k => st_cell (cell_of hb (by rfl)) k
  have q18 : ∀ {w : World} {A : Prop}, w.heap[p]? = some (.cells (rcells s (.slice a s.l.length c)).toArray 61 (0, 0)) → A → stv prog none (Instr.loadAt 3 (.pointer (some ⟨p, 2, none⟩))) (.int .i64 s.last) w A := fun hb k => st_cell (cell_of hb (by rfl)) k
  have q20 : ∀ {w : World} {A : Prop}, w.heap[p]? = some (.cells (rcells s (.slice a s.l.length c)).toArray 61 (0, 0)) → A → stv prog none (Instr.loadAt 36 (.pointer (some ⟨p, 35, none⟩))) (.agg (s.ah.map bv).toArray) w A := fun hb k => stv_of (run_loadN (by simp [ok.a]) fun j v hj => cell_of hb (by simpa using take_cell (rc_ah ok) hj)) k
  have q22 : ∀ {w : World} {A : Prop}, w.heap[p]? = some (.cells (rcells s (.slice a s.l.length c)).toArray 61 (0, 0)) → A → stv prog none (Instr.loadAt 36 (.pointer (some ⟨p, 3, none⟩))) (.agg (s.bh.map bv).toArray) w A := fun hb k => stv_of (run_loadN (by simp [ok.b]) fun j v hj => cell_of hb (by simpa using take_cell (rc_bh ok) hj)) k
  have q24 : ∀ {w : World} {A : Prop}, w.heap[p]? = some (.cells (rcells s (.slice a s.l.length c)).toArray 61 (0, 0)) → A → stv prog none (Instr.loadAt 36 (.pointer (some ⟨p, 67, none⟩))) (.agg (s.hd.map bv).toArray) w A := fun hb k => stv_of (run_loadN (by simp [ok.h]) fun j v hj => cell_of hb (by simpa using take_cell (rc_hd ok) hj)) k
  have hpR : ∀ {w : World} {X : HP}, sat E w (X * chR p s (.slice a s.l.length c) R) → w.heap[p]? = some (.cells (rcells s (.slice a s.l.length c)).toArray 61 (0, 0)) := fun h => sat.has (P := chR p s (.slice a s.l.length c) R) h.drop
  have hp0 : ∀ {w : World}, sat E w (chR p s (.slice a s.l.length c) R) → w.heap[p]? = some (.cells (rcells s (.slice a s.l.length c)).toArray 61 (0, 0)) := fun h => sat.has (P := chR p s (.slice a s.l.length c) R) h
  refine c38 ?_
  unfold B38
  simp only [↓o_eqPtr, Option.isNone_some, ↓cd_false]
  rw [o_nil, o_field]
  refine ld_in (b := p) (v := .int .i64 s.an) h rfl ?_
  refine Num_spec h fun w h => ?_
  refine dr_sl h fun w h _ => ?_
  try simp only [↓o_nil, ↓o_field, ↓o_add, ↓o_sub, ↓o_mul, ↓o_lss, ↓o_leq, ↓o_gtr, ↓o_geq, ↓o_not, ↓o_pick, ↓o_eqInt, ↓o_neInt, ↓o_eqBool, ↓o_neBool, ↓o_eqPtr, ↓o_nePtr, ↓o_eqPtr', ↓o_eqSl, ↓o_neSl, ↓o_eqStr, ↓o_neStr, ↓o_len, ↓o_lenS, ↓o_min, ↓o_max, ↓o_extract, ↓o_convInt, ↓cd_true, ↓cd_false, ↓gate_tt, ↓gate_ff, ↓gate_tf, ↓gate_ft, ↓gate_undef, ↓o_bind, ↓stay_v, ↓pop_cons, ↓fin_nil, Option.isNone_none, Option.isNone_some, Bool.not_true, Bool.not_false, Nat.zero_add, decide_true, decide_false, if_true, if_false, Bool.false_eq_true, ↓reduceIte]
  refine ld_in (b := p) (v := .int .i64 s.bn) h rfl ?_
  refine ld_in (b := p) (v := .int .i64 s.last) h rfl ?_
  refine ld_part (b := p) h (s.ah.map bv) (by simp [ok.a]) (rc_ah ok) ?_
  refine ld_part (b := p) h (s.bh.map bv) (by simp [ok.b]) (rc_bh ok) ?_
  refine ld_part (b := p) h (s.hd.map bv) (by simp [ok.h]) (rc_hd ok) ?_
  refine Num_spec h fun w h => ?_
  refine q24 (hp0 h) (q22 (hp0 h) (q20 (hp0 h) (q18 (hp0 h) ?_)))
  refine Num_spec h fun w h => ?_
  refine q24 (hp0 h) (q22 (hp0 h) (q20 (hp0 h) (q16 (hp0 h) ?_)))
  refine par_sl (φR s) h ?_
  clear h
  have sn : ∀ {σ : List (Option Value)} {w : World}, sat E w (slots (φR s) σ (chR p s (.slice a s.l.length c) R)) → w.heap[p]? = some (.cells (rcells s (.slice a s.l.length c)).toArray 61 (0, 0)) := fun h => hp0 (slots.old h)
  refine ⟨?_, ?_, ?_, ?_, ?_, ?_, ?_, ?_, ?_, ?_, ?_, ?_⟩
  · intro σ w h hu
    refine buildSlice_sl (e := 9) (cs := #[tv (numT s.bn), tv (numT s.an), tv (numT s.last)]) h (fun w => by kernel_rfl) fun b w h => ?_
    refine q24 (sn h.drop) (q22 (sn h.drop) (q20 (sn h.drop) (q18 (sn h.drop) (q16 (sn h.drop) ?_))))
    exact slots.keepb (xs := [numT s.bn, numT s.an, numT s.last].map tv) h (by omega) rfl fun I hI => hI
  · intro σ w h hu
    refine text_spec h ok.a fun w h => ?_
    refine q24 (sn h) (q22 (sn h) (q18 (sn h) (q16 (sn h) (?_))))
    exact slots.put h rfl
  · intro σ w h hu t ht
    obtain ⟨ta, tc, rfl, _, _⟩ : RdS (hp w) t _ _ := slots.get h ht
    refine pvv_of (v := .agg (rvc ⟨[35], .slice ta 3 tc, [numT s.bn, numT s.an, numT s.last]⟩).toArray) (fun w => by kernel_rfl) ?_
    refine slots.add (h.pers_dup.mono fun I h' hp' => ?_)
    rw [pers_star_p] at hp' ⊢
    exact ⟨⟨_, rfl, hp'.1 0 _ ht⟩, hp'.2⟩
  · intro σ w h hu t ht
    obtain rfl : t = tv s.ah := slots.get h ht
    refine buildSlice_sl (e := 9) (cs := #[tv s.ah]) h (fun w => by kernel_rfl) fun b w h => ?_
    refine q24 (sn h.drop) (q22 (sn h.drop) (q20 (sn h.drop) (q18 (sn h.drop) (q16 (sn h.drop) ?_))))
    exact slots.keepb (xs := [s.ah].map tv) h (by omega) rfl fun I hI => hI
  · intro σ w h hu t ht
    obtain ⟨ta, tc, rfl, _, _⟩ : RdS (hp w) t _ _ := slots.get h ht
    refine pvv_of (v := .agg (rvc ⟨[97], .slice ta 1 tc, [s.ah]⟩).toArray) (fun w => by kernel_rfl) ?_
    refine slots.add (h.pers_dup.mono fun I h' hp' => ?_)
    rw [pers_star_p] at hp' ⊢
    exact ⟨⟨_, rfl, hp'.1 3 _ ht⟩, hp'.2⟩
  · intro σ w h hu
    refine text_spec h ok.b fun w h => ?_
    refine q24 (sn h) (q20 (sn h) (q18 (sn h) (q16 (sn h) (?_))))
    exact slots.put h rfl
  · intro σ w h hu t ht
    obtain rfl : t = tv s.bh := slots.get h ht
    refine buildSlice_sl (e := 9) (cs := #[tv s.bh]) h (fun w => by kernel_rfl) fun b w h => ?_
    refine q24 (sn h.drop) (q22 (sn h.drop) (q20 (sn h.drop) (q18 (sn h.drop) (q16 (sn h.drop) ?_))))
    exact slots.keepb (xs := [s.bh].map tv) h (by omega) rfl fun I hI => hI
  · intro σ w h hu t ht
    obtain ⟨ta, tc, rfl, _, _⟩ : RdS (hp w) t _ _ := slots.get h ht
    refine pvv_of (v := .agg (rvc ⟨[98], .slice ta 1 tc, [s.bh]⟩).toArray) (fun w => by kernel_rfl) ?_
    refine slots.add (h.pers_dup.mono fun I h' hp' => ?_)
    rw [pers_star_p] at hp' ⊢
    exact ⟨⟨_, rfl, hp'.1 6 _ ht⟩, hp'.2⟩
  · intro σ w h hu
    refine text_spec h ok.h fun w h => ?_
    refine q22 (sn h) (q20 (sn h) (q18 (sn h) (q16 (sn h) (?_))))
    exact slots.put h rfl
  · intro σ w h hu t ht
    obtain rfl : t = tv s.hd := slots.get h ht
    refine buildSlice_sl (e := 9) (cs := #[tv s.hd]) h (fun w => by kernel_rfl) fun b w h => ?_
    refine q24 (sn h.drop) (q22 (sn h.drop) (q20 (sn h.drop) (q18 (sn h.drop) (q16 (sn h.drop) ?_))))
    exact slots.keepb (xs := [s.hd].map tv) h (by omega) rfl fun I hI => hI
  · intro σ w h hu t ht
    obtain ⟨ta, tc, rfl, _, _⟩ : RdS (hp w) t _ _ := slots.get h ht
    refine pvv_of (v := .agg (rvc ⟨[104], .slice ta 1 tc, [s.hd]⟩).toArray) (fun w => by kernel_rfl) ?_
    refine slots.add (h.pers_dup.mono fun I h' hp' => ?_)
    rw [pers_star_p] at hp' ⊢
    exact ⟨⟨_, rfl, hp'.1 9 _ ht⟩, hp'.2⟩
  · intro σ w h t0 h0 t1 h1 t2 h2 t3 h3 t4 h4 t5 h5 t6 h6 t7 h7 t8 h8 t9 h9 t10 h10
    obtain ⟨u7, e7, ⟨a7, c7', rfl, _, _⟩⟩ : ∃ u, t2 = .agg (rvc ⟨[35], u, [numT s.bn, numT s.an, numT s.last]⟩).toArray ∧ RdS (hp w) u 3 _ := slots.get h h2
    obtain ⟨u9, e9, ⟨a9, c9', rfl, _, _⟩⟩ : ∃ u, t4 = .agg (rvc ⟨[97], u, [s.ah]⟩).toArray ∧ RdS (hp w) u 1 _ := slots.get h h4
    obtain ⟨u11, e11, ⟨a11, c11', rfl, _, _⟩⟩ : ∃ u, t7 = .agg (rvc ⟨[98], u, [s.bh]⟩).toArray ∧ RdS (hp w) u 1 _ := slots.get h h7
    obtain ⟨u13, e13, ⟨a13, c13', rfl, _, _⟩⟩ : ∃ u, t10 = .agg (rvc ⟨[104], u, [s.hd]⟩).toArray ∧ RdS (hp w) u 1 _ := slots.get h h10
    subst e7 e9 e11 e13
    have inj : ∀ {k : List UInt8} {u u' : Value} {cs : List (List UInt8)}, (.agg (rvc ⟨k, u, cs⟩).toArray : Value) = .agg (rvc ⟨k, u', cs⟩).toArray → u = u' := by
      intro k u u' cs he
      simpa [rvc] using he
    have h : sat E w (pers (colsP [⟨[35], .slice a7 3 c7', [numT s.bn, numT s.an, numT s.last]⟩, ⟨[97], .slice a9 1 c9', [s.ah]⟩, ⟨[98], .slice a11 1 c11', [s.bh]⟩, ⟨[104], .slice a13 1 c13', [s.hd]⟩]) * chR p s (.slice a s.l.length c) R) := by
      refine h.pers_mono fun I hI => ?_
      obtain ⟨u, q1, q2⟩ := hI 2 _ h2
      obtain rfl := inj q1
      obtain ⟨u, q1, q3⟩ := hI 4 _ h4
      obtain rfl := inj q1
      obtain ⟨u, q1, q4⟩ := hI 7 _ h7
      obtain rfl := inj q1
      obtain ⟨u, q1, q5⟩ := hI 10 _ h10
      obtain rfl := inj q1
      intro x hx
      simp only [List.mem_cons, List.not_mem_nil, or_false] at hx
      rcases hx with rfl | rfl | rfl | rfl
      · exact q2
      · exact q3
      · exact q4
      · exact q5
    have hsd : ([⟨[35], .slice a7 3 c7', [numT s.bn, numT s.an, numT s.last]⟩, ⟨[97], .slice a9 1 c9', [s.ah]⟩, ⟨[98], .slice a11 1 c11', [s.bh]⟩, ⟨[104], .slice a13 1 c13', [s.hd]⟩] : List RV).map RV.said = heads s := rfl
    refine buildSlice_sl (e := 71) (cs := (rvs [⟨[35], .slice a7 3 c7', [numT s.bn, numT s.an, numT s.last]⟩, ⟨[97], .slice a9 1 c9', [s.ah]⟩, ⟨[98], .slice a11 1 c11', [s.bh]⟩, ⟨[104], .slice a13 1 c13', [s.hd]⟩]).toArray) h (fun w => by kernel_rfl) fun b w h => ?_
    have h : sat E w (osl 71 2 (.slice (some ⟨b, 0, none⟩) 4 4) 4 (rvs _) * _) := osl_of h rfl (by omega)
    generalize hl0 : ([⟨[35], .slice a7 3 c7', [numT s.bn, numT s.an, numT s.last]⟩, ⟨[97], .slice a9 1 c9', [s.ah]⟩, ⟨[98], .slice a11 1 c11', [s.bh]⟩, ⟨[104], .slice a13 1 c13', [s.hd]⟩] : List RV) = l0 at h hsd
    have hl4 : l0.length = 4 := by rw [← hl0]; rfl
    clear hl0 h0 h1 h2 h3 h4 h5 h6 h7 h8 h9 h10 sn
    refine q24 (hpR h.drop) (q22 (hpR h.drop) (q20 (hpR h.drop) (q18 (hpR h.drop) (q16 (hpR h.drop) ?_))))
    refine lp_nat (fun q σ w => ∃ (j : Nat) (out : Value) (l : List RV), σ = [out, .int .i64 (j : Int)] ∧ q = s.l.length - j ∧ j ≤ s.l.length ∧ l.map RV.said = heads s ++ (s.l.take j).map evRow ∧ sat E w (osl 71 2 out l.length (rvs l) * (pers (colsP l) * chR p s (.slice a s.l.length c) R))) s.l.length
      ⟨0, _, l0, rfl, by omega, by omega, by rw [hsd]; simp, by rw [hl4]; exact h⟩ ?_
    clear h
    rintro q σ w again ⟨j, out, l, rfl, rfl, hj, hsl, h⟩ hag
    have hll : l.length = 4 + j := by
      have := congrArg List.length hsl
      simp [heads] at this
      omega
    rw [pop_cons, pop_cons, fin_nil]
    try simp only [↓o_nil, ↓o_field, ↓o_add, ↓o_sub, ↓o_mul, ↓o_lss, ↓o_leq, ↓o_gtr, ↓o_geq, ↓o_not, ↓o_pick, ↓o_eqInt, ↓o_neInt, ↓o_eqBool, ↓o_neBool, ↓o_eqPtr, ↓o_nePtr, ↓o_eqPtr', ↓o_eqSl, ↓o_neSl, ↓o_eqStr, ↓o_neStr, ↓o_len, ↓o_lenS, ↓o_min, ↓o_max, ↓o_extract, ↓o_convInt, ↓cd_true, ↓cd_false, ↓gate_tt, ↓gate_ff, ↓gate_tf, ↓gate_ft, ↓gate_undef, ↓o_bind, ↓stay_v, ↓pop_cons, ↓fin_nil, Option.isNone_none, Option.isNone_some, Bool.not_true, Bool.not_false, Nat.zero_add, decide_true, decide_false, if_true, if_false, Bool.false_eq_true, ↓reduceIte]
    refine ld_in (b := p) (v := .slice a s.l.length c) h (rc_l ok) ?_
    try simp only [↓o_nil, ↓o_field, ↓o_add, ↓o_sub, ↓o_mul, ↓o_lss, ↓o_leq, ↓o_gtr, ↓o_geq, ↓o_not, ↓o_pick, ↓o_eqInt, ↓o_neInt, ↓o_eqBool, ↓o_neBool, ↓o_eqPtr, ↓o_nePtr, ↓o_eqPtr', ↓o_eqSl, ↓o_neSl, ↓o_eqStr, ↓o_neStr, ↓o_len, ↓o_lenS, ↓o_min, ↓o_max, ↓o_extract, ↓o_convInt, ↓cd_true, ↓cd_false, ↓gate_tt, ↓gate_ff, ↓gate_tf, ↓gate_ft, ↓gate_undef, ↓o_bind, ↓stay_v, ↓pop_cons, ↓fin_nil, Option.isNone_none, Option.isNone_some, Bool.not_true, Bool.not_false, Nat.zero_add, decide_true, decide_false, if_true, if_false, Bool.false_eq_true, ↓reduceIte]
    refine cd_dec (fun hlt => ?_) (fun hge => ?_)
    · have hj2 : j < s.l.length := by omega
      try simp only [↓o_nil, ↓o_field, ↓o_add, ↓o_sub, ↓o_mul, ↓o_lss, ↓o_leq, ↓o_gtr, ↓o_geq, ↓o_not, ↓o_pick, ↓o_eqInt, ↓o_neInt, ↓o_eqBool, ↓o_neBool, ↓o_eqPtr, ↓o_nePtr, ↓o_eqPtr', ↓o_eqSl, ↓o_neSl, ↓o_eqStr, ↓o_neStr, ↓o_len, ↓o_lenS, ↓o_min, ↓o_max, ↓o_extract, ↓o_convInt, ↓cd_true, ↓cd_false, ↓gate_tt, ↓gate_ff, ↓gate_tf, ↓gate_ft, ↓gate_undef, ↓o_bind, ↓stay_v, ↓pop_cons, ↓fin_nil, Option.isNone_none, Option.isNone_some, Bool.not_true, Bool.not_false, Nat.zero_add, decide_true, decide_false, if_true, if_false, Bool.false_eq_true, ↓reduceIte]
      refine ld_in (b := p) (v := .slice a s.l.length c) h (rc_l ok) ?_
      obtain ⟨b', o, c', e, hc', hrd⟩ := hv.opened h.drop.drop (by rw [evs_length]; omega)
      cases e
      rw [o_index (by omega) (by omega)]
      refine ld_el h (Rds.right (Rds.right hrd)) (j * 4) (by simp) (ecells s.l[j]) rfl (evs_at (by simp [hj2])) ?_
      refine alloc_sl h fun x w h => ?_
      have h : sat E w (pts x (.cells (ecells zeroE).toArray 34 (0, 0)) * (osl 71 2 out l.length (rvs l) * (pers (colsP l) * chR p s (.slice _ s.l.length c) R))) := h
      refine store_all (b := x) h (xs := ecells zeroE) (vs := ecells s.l[j]) rfl rfl (ecells_one _) fun w h => ?_
      refine dr_sl h fun w h _ => ?_
      generalize hx : s.l[j] = y at h
      have hxb : ∀ {w : World} {X : HP}, sat E w (X * (pts x (.cells (ecells y).toArray 34 (0, 0)) * (osl 71 2 out l.length (rvs l) * (pers (colsP l) * chR p s (.slice (some ⟨b', o, none⟩) s.l.length c) R)))) → w.heap[x]? = some (.cells (ecells y).toArray 34 (0, 0)) := fun h => h.drop.pts_get
      try simp only [↓o_nil, ↓o_field, ↓o_add, ↓o_sub, ↓o_mul, ↓o_lss, ↓o_leq, ↓o_gtr, ↓o_geq, ↓o_not, ↓o_pick, ↓o_eqInt, ↓o_neInt, ↓o_eqBool, ↓o_neBool, ↓o_eqPtr, ↓o_nePtr, ↓o_eqPtr', ↓o_eqSl, ↓o_neSl, ↓o_eqStr, ↓o_neStr, ↓o_len, ↓o_lenS, ↓o_min, ↓o_max, ↓o_extract, ↓o_convInt, ↓cd_true, ↓cd_false, ↓gate_tt, ↓gate_ff, ↓gate_tf, ↓gate_ft, ↓gate_undef, ↓o_bind, ↓stay_v, ↓pop_cons, ↓fin_nil, Option.isNone_none, Option.isNone_some, Bool.not_true, Bool.not_false, Nat.zero_add, decide_true, decide_false, if_true, if_false, Bool.false_eq_true, ↓reduceIte]
      refine ld_in (b := x) (v := .int .i64 y.n) h rfl ?_
      refine ld_in (b := x) (v := .int .i64 y.t) h rfl ?_
      refine ld_in (b := x) (v := tv y.what) h rfl ?_
      refine ld_in (b := x) (v := tv y.who) h rfl ?_
      have h := h.perm (emp_star _).symm
      have g0 : ∀ {w : World} {A : Prop} {X : HP}, sat E w (X * (pts x (.cells (ecells y).toArray 34 (0, 0)) * (osl 71 2 out l.length (rvs l) * (pers (colsP l) * chR p s (.slice (some ⟨b', o, none⟩) s.l.length c) R)))) → A → stv prog none (Instr.loadAt 3 (.pointer (some ⟨x, 0, none⟩))) (.int .i64 y.n) w A := fun h k => st_cell (cell_of (hxb h) (by rfl)) k
      have g1 : ∀ {w : World} {A : Prop} {X : HP}, sat E w (X * (pts x (.cells (ecells y).toArray 34 (0, 0)) * (osl 71 2 out l.length (rvs l) * (pers (colsP l) * chR p s (.slice (some ⟨b', o, none⟩) s.l.length c) R)))) → A → stv prog none (Instr.loadAt 3 (.pointer (some ⟨x, 1, none⟩))) (.int .i64 y.t) w A := fun h k => st_cell (cell_of (hxb h) (by rfl)) k
      have g2 : ∀ {w : World} {A : Prop} {X : HP}, sat E w (X * (pts x (.cells (ecells y).toArray 34 (0, 0)) * (osl 71 2 out l.length (rvs l) * (pers (colsP l) * chR p s (.slice (some ⟨b', o, none⟩) s.l.length c) R)))) → A → stv prog none (Instr.loadAt 9 (.pointer (some ⟨x, 2, none⟩))) (tv y.what) w A := fun h k => st_cell (cell_of (hxb h) (by rfl)) k
      have g3 : ∀ {w : World} {A : Prop} {X : HP}, sat E w (X * (pts x (.cells (ecells y).toArray 34 (0, 0)) * (osl 71 2 out l.length (rvs l) * (pers (colsP l) * chR p s (.slice (some ⟨b', o, none⟩) s.l.length c) R)))) → A → stv prog none (Instr.loadAt 9 (.pointer (some ⟨x, 3, none⟩))) (tv y.who) w A := fun h k => st_cell (cell_of (hxb h) (by rfl)) k
      refine Num_spec h fun w h => ?_
      refine g3 h (g2 h (g1 h ?_))
      have e0 : (.string ⟨#[110]⟩ : Value) = tv [110] := rfl
      have l17 := numT_length y.n
      rw [e0, o_catT (by simp; omega)]
      refine Num_spec h fun w h => ?_
      refine g3 h (g2 h (g0 h ?_))
      refine buildSlice_sl (e := 9) (cs := ([numT y.t, y.what, y.who].map tv).toArray) h (fun w => by kernel_rfl) fun b4 w h => ?_
      rw [← star_assoc] at h
      refine g1 h (g0 h ?_)
      rw [star_assoc] at h
      refine pvv_of (v := .agg (rvc ⟨110 :: numT y.n, .slice (some ⟨b4, 0, none⟩) 3 3, [numT y.t, y.what, y.who]⟩).toArray) (fun w => by kernel_rfl) ?_
      have h : sat E w (osl 9 1 (.slice (some ⟨b4, 0, none⟩) 3 3) 3 ([numT y.t, y.what, y.who].map tv) * _) := osl_of h rfl (by omega)
      have h := osl_freeze h
      generalize hxv : (⟨110 :: numT y.n, .slice (some ⟨b4, 0, none⟩) 3 3, [numT y.t, y.what, y.who]⟩ : RV) = xv
      have hsx : xv.said = evRow s.l[j] := by rw [hx, ← hxv]; rfl
      have h := h.pers_mono (ψ := colsP [xv]) fun I hI z hz => by
        rw [List.mem_singleton.1 hz, ← hxv]
        exact hI
      have hu1 : ∀ q ∈ rvc xv, q.oneCell' = true := by rw [← hxv]; intro q hq; simp [rvc] at hq; rcases hq with rfl | rfl <;> rfl
      clear hxv
      refine buildSlice_sl (e := 71) (cs := (rvc xv).toArray) h (fun w => by kernel_rfl) fun b5 w h => ?_
      have hf : ∀ {w : World} {X Y Z : HP}, sat E w (X * (Y * (Z * (pts x (.cells (ecells y).toArray 34 (0, 0)) * (osl 71 2 out l.length (rvs l) * (pers (colsP l) * chR p s (.slice (some ⟨b', o, none⟩) s.l.length c) R)))))) → sat E w ((X * (Y * Z)) * (pts x (.cells (ecells y).toArray 34 (0, 0)) * (osl 71 2 out l.length (rvs l) * (pers (colsP l) * chR p s (.slice (some ⟨b', o, none⟩) s.l.length c) R)))) := fun h => h.perm (by ac_rfl)
      refine g3 (hf h) (g2 (hf h) (g1 (hf h) (g0 (hf h) ?_)))
      refine append_sl (v := out) h (rvc xv) (k' := 1) rfl (.inr ⟨b5, 0, _, _, _, rfl, h.pts_get, fun j v hj => by simpa using hj⟩) hu1 (by omega) (by omega) fun v' w h => ?_
      have hxb2 : w.heap[x]? = some (.cells (ecells y).toArray 34 (0, 0)) := sat.has h
      refine st_cell (cell_of hxb2 (by rfl)) (st_cell (cell_of hxb2 (by rfl)) (st_cell (cell_of hxb2 (by rfl)) (st_cell (cell_of hxb2 (by rfl)) ?_)))
      try rw [o_add]
      rw [i64_of (by omega) (by omega)]
      refine hag (s.l.length - (j + 1)) _ _ (by omega) ⟨j + 1, v', l ++ [xv], rfl, rfl, by omega, said_take hsl hj2 hsx, ?_⟩
      have h := (h.lose b5).lose x
      have e9 : rvs l ++ rvc xv = rvs (l ++ [xv]) := by rw [rvs_append]; simp [rvs]
      rw [e9] at h
      have h := h.perm (show _ = emp * (pers (colsP l) * (pers (colsP [xv]) * (osl 71 2 v' (l.length + 1) (rvs (l ++ [xv])) * chR p s (.slice (some ⟨b', o, none⟩) s.l.length c) R))) by unfold chR; ac_rfl)
      have h := h.drop
      rw [← star_assoc, pers_and] at h
      have h := h.pers_mono (ψ := colsP (l ++ [xv])) fun I hI => colsP_append hI.1 hI.2
      rw [List.length_append, List.length_singleton]
      exact h.perm (star_left_comm _ _ _)
    · have hj2 : j = s.l.length := by omega
      subst hj2
      rw [List.take_length] at hsl
      have hsl : l.map RV.said = rowsOf s := hsl
      have h1 := h.drop
      have hu1 : ∀ x ∈ rvs l, x.oneCell' = true := rvs_one (h1.pers_get)
      refine Sorted_spec h Rds.osl.left hu1 (by omega) (keys_rise ok hm rs hsl) fun u w h => ?_
      refine k u l w hsl ?_
      have h := h.perm (show _ = osl 71 2 out l.length (rvs l) * (osl 71 2 u l.length (rvs l) * (pers (colsP l) * chR p s (.slice a s.l.length c) R)) by ac_rfl)
      exact h.drop
end Go.Proofs.YtjeiojibnmfibaaDoor

/-
  Forks; both chains the same.
-/
set_option linter.all false
set_option maxRecDepth 100000
namespace Go.Proofs.YtjeiojibnmfibaaDoor
open Go Hold
variable {E : World0} {w : World} {H R X : HP} {K : Value → World → Prop}
theorem ic_one {s : Ch} {v : Value} (hv : v.oneCell' = true) : ∀ x ∈ icells s v, x.oneCell' = true := by
  intro x hx
  simp only [icells, List.mem_cons, List.mem_append, List.not_mem_nil, or_false] at hx
  rcases hx with rfl | hx | rfl | hx | hx | rfl | rfl
  · rfl
  · exact bv_one _ x hx
  · rfl
  · exact bv_one _ x hx
  · exact bv_one _ x hx
  · rfl
  · exact hv
theorem rc_one {s : Ch} {v : Value} (hv : v.oneCell' = true) : ∀ x ∈ rcells s v, x.oneCell' = true := by
  intro x hx
  simp only [rcells, List.mem_cons, List.mem_append, List.not_mem_nil, or_false] at hx
  rcases hx with rfl | rfl | rfl | hx | hx | hx | rfl
  · rfl
  · rfl
  · rfl
  · exact bv_one _ x hx
  · exact bv_one _ x hx
  · exact bv_one _ x hx
  · exact hv
theorem Fork_spec {p m : Nat} {s : Ch} {v : Value} (ok : Ok s m) (h : sat E w (chI p s v R))
    (k : ∀ f v' w', sat E w' (chI f s v' (chI p s v R)) → K (.pointer (some ⟨f, 0, none⟩)) w') : Calls prog 21 #[.pointer (some ⟨p, 0, none⟩)] w (Ret K) := by
  have := ok.few
  obtain ⟨a, c, rfl, hc, hv, _⟩ := (Rds.evs (s := s)).shape h
  refine c21 ?_
  unfold B21
  simp only [↓o_eqPtr, Option.isNone_some, ↓cd_false]
  rw [o_nil]
  refine ld_agg (b := p) h (ic_length ok) ?_
  refine alloc_sl h fun f w h => ?_
  have h : sat E w (pts f (.cells (icells newS (.slice none 0 0)).toArray 59 (0, 0)) * chI p s (.slice a s.l.length c) R) := h
  refine store_all (b := f) h (xs := icells newS (.slice none 0 0)) (vs := icells s (.slice a s.l.length c)) (ic_length ok_new) (ic_length ok) (ic_one rfl) fun w h => ?_
  try simp only [↓o_nil, ↓o_field, ↓o_add, ↓o_sub, ↓o_mul, ↓o_lss, ↓o_leq, ↓o_gtr, ↓o_geq, ↓o_not, ↓o_pick, ↓o_eqInt, ↓o_neInt, ↓o_eqBool, ↓o_neBool, ↓o_eqPtr, ↓o_nePtr, ↓o_eqPtr', ↓o_eqSl, ↓o_neSl, ↓o_eqStr, ↓o_neStr, ↓o_len, ↓o_lenS, ↓o_min, ↓o_max, ↓o_extract, ↓o_convInt, ↓cd_true, ↓cd_false, ↓gate_tt, ↓gate_ff, ↓gate_tf, ↓gate_ft, ↓gate_undef, ↓o_bind, ↓stay_v, ↓pop_cons, ↓fin_nil, Option.isNone_none, Option.isNone_some, Bool.not_true, Bool.not_false, Nat.zero_add, decide_true, decide_false, if_true, if_false, Bool.false_eq_true, ↓reduceIte]
  refine ld_in (b := p) (v := .slice a s.l.length c) h (ic_l ok) ?_
  refine CloneE_spec h (evs_length _) (evs_one _) hv.right (by omega) fun u w h => ?_
  try simp only [↓o_nil, ↓o_field, ↓o_add, ↓o_sub, ↓o_mul, ↓o_lss, ↓o_leq, ↓o_gtr, ↓o_geq, ↓o_not, ↓o_pick, ↓o_eqInt, ↓o_neInt, ↓o_eqBool, ↓o_neBool, ↓o_eqPtr, ↓o_nePtr, ↓o_eqPtr', ↓o_eqSl, ↓o_neSl, ↓o_eqStr, ↓o_neStr, ↓o_len, ↓o_lenS, ↓o_min, ↓o_max, ↓o_extract, ↓o_convInt, ↓cd_true, ↓cd_false, ↓gate_tt, ↓gate_ff, ↓gate_tf, ↓gate_ft, ↓gate_undef, ↓o_bind, ↓stay_v, ↓pop_cons, ↓fin_nil, Option.isNone_none, Option.isNone_some, Bool.not_true, Bool.not_false, Nat.zero_add, decide_true, decide_false, if_true, if_false, Bool.false_eq_true, ↓reduceIte]
  have hone : u.oneCell' = true := by
    obtain ⟨_, _, rfl, _⟩ := osl_shape h
    rfl
  refine store_sl (b := f) h hone (by rw [ic_length ok]; omega) fun w h => ?_
  rw [ip_l ok (l := s.l)] at h
  refine k f u w ?_
  have h := h.perm (show _ = osl 34 4 u s.l.length (evs s.l) * (pts f (.cells (icells { s with l := s.l } u).toArray 59 (0, 0)) * chI p s (.slice a s.l.length c) R) by ac_rfl)
  have h := osl_freeze h
  unfold chI at h ⊢
  exact h.perm (by ac_rfl)
theorem RFork_spec {p m : Nat} {s : Ch} {v : Value} (ok : Ok s m) (h : sat E w (chR p s v R))
    (k : ∀ f w', sat E w' (chR f s v (chR p s v R)) → K (.pointer (some ⟨f, 0, none⟩)) w') : Calls prog 22 #[.pointer (some ⟨p, 0, none⟩)] w (Ret K) := by
  have := ok.few
  obtain ⟨a, c, rfl, hc, hv, _⟩ := (rds_evsR (s := s)).shape h
  refine c22 ?_
  unfold B22
  simp only [↓o_eqPtr, Option.isNone_some, ↓cd_false]
  rw [o_nil]
  refine ld_agg (b := p) h (rc_length ok) ?_
  refine alloc_sl h fun f w h => ?_
  have h : sat E w (pts f (.cells (rcells newS (.slice none 0 0)).toArray 61 (0, 0)) * chR p s (.slice a s.l.length c) R) := h
  refine store_all (b := f) h (xs := rcells newS (.slice none 0 0)) (vs := rcells s (.slice a s.l.length c)) (rc_length ok_new) (rc_length ok) (rc_one rfl) fun w h => ?_
  refine k f w ?_
  have h := h.perm (show _ = pers (immS (.slice a s.l.length c) s.l.length (evs s.l)) * (pts f (.cells (rcells s (.slice a s.l.length c)).toArray 61 (0, 0)) * (pts p (.cells (rcells s (.slice a s.l.length c)).toArray 61 (0, 0)) * R)) by unfold chR; ac_rfl)
  have h := h.pers_dup
  unfold chR
  exact h.perm (by ac_rfl)
theorem same_spec {p q m : Nat} {s : Ch} {v u : Value} (ok : Ok s m) (hm : m ≤ 1000000000000000) (rs : Risen s) (hd : Dbt R) (h : sat E w (chI p s v (chR q s u R)))
    (k : ∀ w', sat E w' (chI p s v (chR q s u R)) → K (.bool true) w') : Calls prog 23 #[.pointer (some ⟨p, 0, none⟩), .pointer (some ⟨q, 0, none⟩)] w (Ret K) := by
  have := ok.few; have := ok.top; have := ok.b0
  have t0 : ∀ n : Int, decide (n = n) = true := fun n => decide_eq_true rfl
  obtain ⟨va, vc, rfl, hvc, _, _⟩ := (Rds.evs (s := s)).shape h
  obtain ⟨ua, uc, rfl, huc, _, _⟩ := (rds_evsR (s := s)).shape (swapIR h)
  refine c23 ?_
  unfold B23
  refine Events_spec ok h fun x0 w h => ?_
  obtain ⟨xa, xc, rfl, hxc, _, xpos⟩ := osl_shape h
  refine REvents_spec ok (inRI h) fun x1 w h => ?_
  obtain ⟨ya, yc, rfl, hyc, _, ypos⟩ := osl_shape h
  have h : sat E w (osl 34 4 (.slice xa s.l.length xc) s.l.length (evs s.l) * (osl 34 4 (.slice ya s.l.length yc) s.l.length (evs s.l) * chI p s (.slice va s.l.length vc) (chR q s (.slice ua s.l.length uc) R))) := by
    unfold chI chR at h ⊢
    exact h.perm (by ac_rfl)
  refine Anchored_spec (p := p) ok h fun w h => ?_
  rw [o_extract, o_extract]
  refine hash_in h ok.a fun b1 w h => ?_
  refine RAnchored_spec (p := q) ok h fun w h => ?_
  rw [o_extract, o_extract]
  refine hash_in h ok.a fun b2 w h => ?_
  simp only [t0, ↓o_nil, ↓o_field, ↓o_add, ↓o_sub, ↓o_mul, ↓o_lss, ↓o_leq, ↓o_gtr, ↓o_geq, ↓o_not, ↓o_pick, ↓o_eqInt, ↓o_neInt, ↓o_eqBool, ↓o_neBool, ↓o_eqPtr, ↓o_nePtr, ↓o_eqPtr', ↓o_eqSl, ↓o_neSl, ↓o_eqStr, ↓o_neStr, ↓o_len, ↓o_lenS, ↓o_min, ↓o_max, ↓o_extract, ↓o_convInt, ↓cd_true, ↓cd_false, ↓gate_tt, ↓gate_ff, ↓gate_tf, ↓gate_ft, ↓gate_undef, ↓o_bind, ↓stay_v, ↓pop_cons, ↓fin_nil, Option.isNone_none, Option.isNone_some, Bool.not_true, Bool.not_false, Nat.zero_add, decide_true, decide_false, if_true, if_false, Bool.false_eq_true, ↓reduceIte]
  refine ld_agg (b := b1) h (by simp [ok.a]) ?_
  try simp only [t0, ↓o_nil, ↓o_field, ↓o_add, ↓o_sub, ↓o_mul, ↓o_lss, ↓o_leq, ↓o_gtr, ↓o_geq, ↓o_not, ↓o_pick, ↓o_eqInt, ↓o_neInt, ↓o_eqBool, ↓o_neBool, ↓o_eqPtr, ↓o_nePtr, ↓o_eqPtr', ↓o_eqSl, ↓o_neSl, ↓o_eqStr, ↓o_neStr, ↓o_len, ↓o_lenS, ↓o_min, ↓o_max, ↓o_extract, ↓o_convInt, ↓cd_true, ↓cd_false, ↓gate_tt, ↓gate_ff, ↓gate_tf, ↓gate_ft, ↓gate_undef, ↓o_bind, ↓stay_v, ↓pop_cons, ↓fin_nil, Option.isNone_none, Option.isNone_some, Bool.not_true, Bool.not_false, Nat.zero_add, decide_true, decide_false, if_true, if_false, Bool.false_eq_true, ↓reduceIte]
  refine ld_agg (b := b2) h (by simp [ok.a]) ?_
  rw [neq36 ok.a ok.a]
  simp only [beq_self_eq_true, t0, ↓o_nil, ↓o_field, ↓o_add, ↓o_sub, ↓o_mul, ↓o_lss, ↓o_leq, ↓o_gtr, ↓o_geq, ↓o_not, ↓o_pick, ↓o_eqInt, ↓o_neInt, ↓o_eqBool, ↓o_neBool, ↓o_eqPtr, ↓o_nePtr, ↓o_eqPtr', ↓o_eqSl, ↓o_neSl, ↓o_eqStr, ↓o_neStr, ↓o_len, ↓o_lenS, ↓o_min, ↓o_max, ↓o_extract, ↓o_convInt, ↓cd_true, ↓cd_false, ↓gate_tt, ↓gate_ff, ↓gate_tf, ↓gate_ft, ↓gate_undef, ↓o_bind, ↓stay_v, ↓pop_cons, ↓fin_nil, Option.isNone_none, Option.isNone_some, Bool.not_true, Bool.not_false, Nat.zero_add, decide_true, decide_false, if_true, if_false, Bool.false_eq_true, ↓reduceIte]
  refine Head_spec (p := p) ok h fun w h => ?_
  try simp only [t0, ↓o_nil, ↓o_field, ↓o_add, ↓o_sub, ↓o_mul, ↓o_lss, ↓o_leq, ↓o_gtr, ↓o_geq, ↓o_not, ↓o_pick, ↓o_eqInt, ↓o_neInt, ↓o_eqBool, ↓o_neBool, ↓o_eqPtr, ↓o_nePtr, ↓o_eqPtr', ↓o_eqSl, ↓o_neSl, ↓o_eqStr, ↓o_neStr, ↓o_len, ↓o_lenS, ↓o_min, ↓o_max, ↓o_extract, ↓o_convInt, ↓cd_true, ↓cd_false, ↓gate_tt, ↓gate_ff, ↓gate_tf, ↓gate_ft, ↓gate_undef, ↓o_bind, ↓stay_v, ↓pop_cons, ↓fin_nil, Option.isNone_none, Option.isNone_some, Bool.not_true, Bool.not_false, Nat.zero_add, decide_true, decide_false, if_true, if_false, Bool.false_eq_true, ↓reduceIte]
  refine RHead_spec (p := q) ok h fun w h => ?_
  rw [neq36 ok.h ok.h]
  simp only [beq_self_eq_true, t0, ↓o_nil, ↓o_field, ↓o_add, ↓o_sub, ↓o_mul, ↓o_lss, ↓o_leq, ↓o_gtr, ↓o_geq, ↓o_not, ↓o_pick, ↓o_eqInt, ↓o_neInt, ↓o_eqBool, ↓o_neBool, ↓o_eqPtr, ↓o_nePtr, ↓o_eqPtr', ↓o_eqSl, ↓o_neSl, ↓o_eqStr, ↓o_neStr, ↓o_len, ↓o_lenS, ↓o_min, ↓o_max, ↓o_extract, ↓o_convInt, ↓cd_true, ↓cd_false, ↓gate_tt, ↓gate_ff, ↓gate_tf, ↓gate_ft, ↓gate_undef, ↓o_bind, ↓stay_v, ↓pop_cons, ↓fin_nil, Option.isNone_none, Option.isNone_some, Bool.not_true, Bool.not_false, Nat.zero_add, decide_true, decide_false, if_true, if_false, Bool.false_eq_true, ↓reduceIte]
  refine Count_spec (p := p) ok hm h fun w h => ?_
  try simp only [t0, ↓o_nil, ↓o_field, ↓o_add, ↓o_sub, ↓o_mul, ↓o_lss, ↓o_leq, ↓o_gtr, ↓o_geq, ↓o_not, ↓o_pick, ↓o_eqInt, ↓o_neInt, ↓o_eqBool, ↓o_neBool, ↓o_eqPtr, ↓o_nePtr, ↓o_eqPtr', ↓o_eqSl, ↓o_neSl, ↓o_eqStr, ↓o_neStr, ↓o_len, ↓o_lenS, ↓o_min, ↓o_max, ↓o_extract, ↓o_convInt, ↓cd_true, ↓cd_false, ↓gate_tt, ↓gate_ff, ↓gate_tf, ↓gate_ft, ↓gate_undef, ↓o_bind, ↓stay_v, ↓pop_cons, ↓fin_nil, Option.isNone_none, Option.isNone_some, Bool.not_true, Bool.not_false, Nat.zero_add, decide_true, decide_false, if_true, if_false, Bool.false_eq_true, ↓reduceIte]
  refine RCount_spec (p := q) ok hm h fun w h => ?_
  try simp only [t0, ↓o_nil, ↓o_field, ↓o_add, ↓o_sub, ↓o_mul, ↓o_lss, ↓o_leq, ↓o_gtr, ↓o_geq, ↓o_not, ↓o_pick, ↓o_eqInt, ↓o_neInt, ↓o_eqBool, ↓o_neBool, ↓o_eqPtr, ↓o_nePtr, ↓o_eqPtr', ↓o_eqSl, ↓o_neSl, ↓o_eqStr, ↓o_neStr, ↓o_len, ↓o_lenS, ↓o_min, ↓o_max, ↓o_extract, ↓o_convInt, ↓cd_true, ↓cd_false, ↓gate_tt, ↓gate_ff, ↓gate_tf, ↓gate_ft, ↓gate_undef, ↓o_bind, ↓stay_v, ↓pop_cons, ↓fin_nil, Option.isNone_none, Option.isNone_some, Bool.not_true, Bool.not_false, Nat.zero_add, decide_true, decide_false, if_true, if_false, Bool.false_eq_true, ↓reduceIte]
  have h := (h.lose b2).lose b1
  refine lp_nat (fun r σ w => ∃ j : Nat, σ = [.int .i64 (j : Int)] ∧ r = s.l.length - j ∧ j ≤ s.l.length ∧ sat E w (osl 34 4 (.slice xa s.l.length xc) s.l.length (evs s.l) * (osl 34 4 (.slice ya s.l.length yc) s.l.length (evs s.l) * chI p s (.slice va s.l.length vc) (chR q s (.slice ua s.l.length uc) R)))) s.l.length ⟨0, rfl, by omega, by omega, h⟩ ?_
  clear h
  rintro r σ w again ⟨j, rfl, rfl, hj, h⟩ hag
  rw [pop_cons, fin_nil]
  try rw [o_len]
  rw [o_lss]
  refine cd_dec (fun hlt => ?_) (fun hge => ?_)
  · have hj2 : j < s.l.length := by omega
    obtain ⟨xb, hxb⟩ := xpos (by omega)
    obtain ⟨yb, hyb⟩ := ypos (by omega)
    subst hxb hyb
    have hrx : Rds (osl 34 4 (.slice (some ⟨xb, 0, none⟩) s.l.length xc) s.l.length (evs s.l) * (osl 34 4 (.slice (some ⟨yb, 0, none⟩) s.l.length yc) s.l.length (evs s.l) * chI p s (.slice va s.l.length vc) (chR q s (.slice ua s.l.length uc) R))) (.slice (some ⟨xb, 0, none⟩) s.l.length xc) s.l.length (evs s.l) := Rds.osl.left
    have hry : Rds (osl 34 4 (.slice (some ⟨xb, 0, none⟩) s.l.length xc) s.l.length (evs s.l) * (osl 34 4 (.slice (some ⟨yb, 0, none⟩) s.l.length yc) s.l.length (evs s.l) * chI p s (.slice va s.l.length vc) (chR q s (.slice ua s.l.length uc) R))) (.slice (some ⟨yb, 0, none⟩) s.l.length yc) s.l.length (evs s.l) := Rds.osl.left.right
    have y1 : s.l[j]? = some s.l[j] := List.getElem?_eq_getElem hj2
    refine dr_sl h fun w h _ => ?_
    rw [o_index (by omega) (by omega), o_index (by omega) (by omega)]
    simp only [Int.toNat_natCast, ↓o_nil, ↓o_field, ↓o_add, ↓o_sub, ↓o_mul, ↓o_lss, ↓o_leq, ↓o_gtr, ↓o_geq, ↓o_not, ↓o_pick, ↓o_eqInt, ↓o_neInt, ↓o_eqBool, ↓o_neBool, ↓o_eqPtr, ↓o_nePtr, ↓o_eqPtr', ↓o_eqSl, ↓o_neSl, ↓o_eqStr, ↓o_neStr, ↓o_len, ↓o_lenS, ↓o_min, ↓o_max, ↓o_extract, ↓o_convInt, ↓cd_true, ↓cd_false, ↓gate_tt, ↓gate_ff, ↓gate_tf, ↓gate_ft, ↓gate_undef, ↓o_bind, ↓stay_v, ↓pop_cons, ↓fin_nil, Option.isNone_none, Option.isNone_some, Bool.not_true, Bool.not_false, Nat.zero_add, decide_true, decide_false, if_true, if_false, Bool.false_eq_true, ↓reduceIte]
    refine ld_el h hrx (j * 4) (by omega) (ecells s.l[j]) rfl (evs_at y1) ?_
    try simp only [↓o_nil, ↓o_field, ↓o_add, ↓o_sub, ↓o_mul, ↓o_lss, ↓o_leq, ↓o_gtr, ↓o_geq, ↓o_not, ↓o_pick, ↓o_eqInt, ↓o_neInt, ↓o_eqBool, ↓o_neBool, ↓o_eqPtr, ↓o_nePtr, ↓o_eqPtr', ↓o_eqSl, ↓o_neSl, ↓o_eqStr, ↓o_neStr, ↓o_len, ↓o_lenS, ↓o_min, ↓o_max, ↓o_extract, ↓o_convInt, ↓cd_true, ↓cd_false, ↓gate_tt, ↓gate_ff, ↓gate_tf, ↓gate_ft, ↓gate_undef, ↓o_bind, ↓stay_v, ↓pop_cons, ↓fin_nil, Option.isNone_none, Option.isNone_some, Bool.not_true, Bool.not_false, Nat.zero_add, decide_true, decide_false, if_true, if_false, Bool.false_eq_true, ↓reduceIte]
    refine ld_el h hry (j * 4) (by omega) (ecells s.l[j]) rfl (evs_at y1) ?_
    have e9 : ∀ (xo yo : Operand) (y : Evt) (K : Value → World → Prop), pvv prog (oEq .neq 34 xo yo (.agg (ecells y).toArray) (.agg (ecells y).toArray)) w K = K (.bool false) w := fun xo yo y K => by
      have := neq_ev (K := K) (w := w) (x := y) (y := y) (xo := xo) (yo := yo)
      rw [decide_eq_true rfl] at this
      exact this
    rw [e9]
    simp only [↓o_nil, ↓o_field, ↓o_add, ↓o_sub, ↓o_mul, ↓o_lss, ↓o_leq, ↓o_gtr, ↓o_geq, ↓o_not, ↓o_pick, ↓o_eqInt, ↓o_neInt, ↓o_eqBool, ↓o_neBool, ↓o_eqPtr, ↓o_nePtr, ↓o_eqPtr', ↓o_eqSl, ↓o_neSl, ↓o_eqStr, ↓o_neStr, ↓o_len, ↓o_lenS, ↓o_min, ↓o_max, ↓o_extract, ↓o_convInt, ↓cd_true, ↓cd_false, ↓gate_tt, ↓gate_ff, ↓gate_tf, ↓gate_ft, ↓gate_undef, ↓o_bind, ↓stay_v, ↓pop_cons, ↓fin_nil, Option.isNone_none, Option.isNone_some, Bool.not_true, Bool.not_false, Nat.zero_add, decide_true, decide_false, if_true, if_false, Bool.false_eq_true, ↓reduceIte]
    rw [i64_of (by omega) (by omega)]
    exact hag (s.l.length - (j + 1)) _ _ (by omega) ⟨j + 1, rfl, rfl, by omega, h⟩
  · have h := h.drop.drop
    refine Rows_spec ok hm hd.up h fun r1 l1 w hl1 h => ?_
    have h : sat E w (chR q s (.slice ua s.l.length uc) (osl 71 2 r1 l1.length (rvs l1) * (pers (colsP l1) * chI p s (.slice va s.l.length vc) R))) := by
      unfold chI chR at h ⊢
      exact h.perm (by ac_rfl)
    refine RRows_spec ok hm rs h fun r2 l2 w hl2 h => ?_
    have hlen : ∀ {l : List RV}, l.map RV.said = rowsOf s → l.length ≤ 100 := fun {l} hl => by
      have := congrArg List.length hl
      simp [rowsOf, heads] at this
      omega
    have hh : ∀ E w, sat E w (osl 71 2 r2 l2.length (rvs l2) * (pers (colsP l2) * chR q s (.slice ua s.l.length uc) (osl 71 2 r1 l1.length (rvs l1) * (pers (colsP l1) * chI p s (.slice va s.l.length vc) R)))) → (colsP l1).p (hp w) ∧ (colsP l2).p (hp w) := fun E w h => by
      refine ⟨?_, h.drop.pers_get⟩
      have h := h.drop.drop
      unfold chR at h
      exact h.drop.drop.drop.pers_get
    refine SameRows_spec h (Rds.osl.left.right.right.right).right (Rds.osl.left) hh (hl1.trans hl2.symm) (by have := hlen hl1; omega) ?_ fun w h => ?_
    · intro x hx
      have hm : x.said ∈ rowsOf s := by rw [← hl1]; exact List.mem_map_of_mem hx
      unfold rowsOf heads at hm
      have e : x.cols = x.said.2 := rfl
      rw [e]
      generalize x.said = y at hm
      simp only [List.mem_append, List.mem_cons, List.not_mem_nil, or_false, List.mem_map] at hm
      rcases hm with (rfl | rfl | rfl | rfl) | ⟨z, _, rfl⟩ <;> simp [evRow]
    · refine k w ?_
      have h := h.drop.drop
      unfold chI chR at h ⊢
      have h := h.perm (show _ = osl 71 2 r1 l1.length (rvs l1) * (pers (colsP l1) * (pts p (.cells (icells s (.slice va s.l.length vc)).toArray 59 (0, 0)) * (pers (immS (.slice va s.l.length vc) s.l.length (evs s.l)) * (pts q (.cells (rcells s (.slice ua s.l.length uc)).toArray 61 (0, 0)) * (pers (immS (.slice ua s.l.length uc) s.l.length (evs s.l)) * R))))) by ac_rfl)
      exact h.drop.drop
end Go.Proofs.YtjeiojibnmfibaaDoor
