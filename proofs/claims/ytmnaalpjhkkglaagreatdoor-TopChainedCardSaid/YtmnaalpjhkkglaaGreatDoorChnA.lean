/-
  A deed on both chains; the deeds that are handed in.
-/
import Derived.Test.YtmnaalpjhkkglaaGreatDoorAudS
import Derived.Test.YtmnaalpjhkkglaaGreatDoorElems
import Derived.Test.YtmnaalpjhkkglaaGreatDoorPar
import Derived.Test.YtmnaalpjhkkglaaGreatDoorPB
import Derived.Test.YtmnaalpjhkkglaaGreatDoorStrs
import Derived.Test.YtmnaalpjhkkglaaGreatDoorAudD
set_option linter.all false
set_option maxRecDepth 10000
namespace Go.Proofs.YtmnaalpjhkkglaaGreatDoor
open Go Hold
variable {E : World0} {w : World} {H R X : HP} {K : Value → World → Prop}
structure Deed where
  kind : Int
  t : Int
  n : Int
  what : List UInt8
  who : List UInt8
def dcells (x : Deed) : List Value := [.int .i64 x.kind, .int .i64 x.t, .int .i64 x.n, tv x.what, tv x.who]
def doS (s : Ch) (x : Deed) : Ch :=
  if x.kind = 0 then (addS s x.t x.what x.who).1 else if x.kind = 1 then anchorS s else if x.kind = 2 then (pruneS s x.n).1 else s
theorem ok_do {s : Ch} {m : Nat} {x : Deed} (ok : Ok s m) : Ok (doS s x) (m + 1) := by
  have up : ∀ {s : Ch}, Ok s m → Ok s (m + 1) := fun ok => ⟨ok.b, ok.a, ok.h, ok.b0, ok.a0, ok.le, by have := ok.top; omega, ok.few⟩
  unfold doS
  split
  · exact ok_add ok
  · split
    · exact up (ok_anchor ok)
    · split
      · exact up (ok_prune ok)
      · exact up ok
end Go.Proofs.YtmnaalpjhkkglaaGreatDoor

/-
  What holds of every chain that was made by these calls; two tests in a row.
-/
set_option linter.all false
set_option maxRecDepth 10000
namespace Go.Proofs.YtmnaalpjhkkglaaGreatDoor
open Go Hold
variable {E : World0} {w : World} {H R X : HP} {K : Value → World → Prop}
theorem two_tests {a b c : Int} {k : Value → World → Prop} :
    (pvv prog (binOp .lss 3 (.int .i64 a) (.int .i64 b)) w fun t_7 w => gate (some (t_7, true)) (fun K => K (.int .i64 a) w) w fun t_8 w => gate (some (t_7, true)) (fun K => pvv prog (binOp .lss 3 t_8 (.int .i64 c)) w K) w fun t_9 w => pv prog (oPick t_7 t_9 (.bool false)) w fun t_10 w => k t_10 w) = k (.bool (decide (a < b ∧ a < c))) w := by
  rw [o_lss]
  by_cases h1 : a < b
  · by_cases h2 : a < c
    · simp only [h1, h2, and_self, ↓o_nil, ↓o_field, ↓o_add, ↓o_sub, ↓o_mul, ↓o_lss, ↓o_leq, ↓o_gtr, ↓o_geq, ↓o_not, ↓o_pick, ↓o_eqInt, ↓o_neInt, ↓o_eqBool, ↓o_neBool, ↓o_eqPtr, ↓o_nePtr, ↓o_eqPtr', ↓o_eqSl, ↓o_neSl, ↓o_eqStr, ↓o_neStr, ↓o_len, ↓o_lenS, ↓o_min, ↓o_max, ↓o_extract, ↓o_convInt, ↓cd_true, ↓cd_false, ↓gate_tt, ↓gate_ff, ↓gate_tf, ↓gate_ft, ↓gate_undef, ↓o_bind, ↓stay_v, ↓pop_cons, ↓fin_nil, Option.isNone_none, Option.isNone_some, Bool.not_true, Bool.not_false, Nat.zero_add, decide_true, decide_false, if_true, if_false, Bool.false_eq_true, ↓reduceIte]
    · simp only [h1, h2, and_false, ↓o_nil, ↓o_field, ↓o_add, ↓o_sub, ↓o_mul, ↓o_lss, ↓o_leq, ↓o_gtr, ↓o_geq, ↓o_not, ↓o_pick, ↓o_eqInt, ↓o_neInt, ↓o_eqBool, ↓o_neBool, ↓o_eqPtr, ↓o_nePtr, ↓o_eqPtr', ↓o_eqSl, ↓o_neSl, ↓o_eqStr, ↓o_neStr, ↓o_len, ↓o_lenS, ↓o_min, ↓o_max, ↓o_extract, ↓o_convInt, ↓cd_true, ↓cd_false, ↓gate_tt, ↓gate_ff, ↓gate_tf, ↓gate_ft, ↓gate_undef, ↓o_bind, ↓stay_v, ↓pop_cons, ↓fin_nil, Option.isNone_none, Option.isNone_some, Bool.not_true, Bool.not_false, Nat.zero_add, decide_true, decide_false, if_true, if_false, Bool.false_eq_true, ↓reduceIte]
  · simp only [h1, false_and, ↓o_nil, ↓o_field, ↓o_add, ↓o_sub, ↓o_mul, ↓o_lss, ↓o_leq, ↓o_gtr, ↓o_geq, ↓o_not, ↓o_pick, ↓o_eqInt, ↓o_neInt, ↓o_eqBool, ↓o_neBool, ↓o_eqPtr, ↓o_nePtr, ↓o_eqPtr', ↓o_eqSl, ↓o_neSl, ↓o_eqStr, ↓o_neStr, ↓o_len, ↓o_lenS, ↓o_min, ↓o_max, ↓o_extract, ↓o_convInt, ↓cd_true, ↓cd_false, ↓gate_tt, ↓gate_ff, ↓gate_tf, ↓gate_ft, ↓gate_undef, ↓o_bind, ↓stay_v, ↓pop_cons, ↓fin_nil, Option.isNone_none, Option.isNone_some, Bool.not_true, Bool.not_false, Nat.zero_add, decide_true, decide_false, if_true, if_false, Bool.false_eq_true, ↓reduceIte]
theorem st_no {P : Program} {s : Sem Value} {v : Value} {b want : Bool} {A : Prop} (h : b ≠ want) (k : A) : stv P (some (.bool b, want)) s v w A := ⟨fun hw => by simp [wantedG] at hw; exact absurd hw h, k⟩
theorem deeds_at {l : List Deed} {i : Nat} {x : Deed} (h : l[i]? = some x) : ((l.flatMap dcells).drop (i * 5)).take 5 = dcells x := fm_at (k := 5) (cells := dcells) (fun _ => rfl) h
structure Risen (s : Ch) : Prop where
  num : ∀ (i : Nat) (x : Evt), s.l[i]? = some x → x.n = s.bn + i + 1 ∧ x.t ≤ s.last
  up : ∀ (i : Nat) (x y : Evt), s.l[i]? = some x → s.l[i + 1]? = some y → x.t ≤ y.t
theorem inv_new : Risen newS := ⟨fun i x h => by simp [newS] at h, fun i x y h => by simp [newS] at h⟩
theorem inv_add {s : Ch} {t : Int} {a b : List UInt8} (h : Risen s) : Risen (addS s t a b).1 := by
  unfold addS
  split
  · exact h
  · split
    · exact h
    · split
      · exact h
      · rename_i ht
        split
        · exact h
        · refine ⟨fun i x hx => ?_, fun i x y hx hy => ?_⟩
          · simp only at hx ⊢
            by_cases hi : i < s.l.length
            · rw [List.getElem?_append_left hi] at hx
              obtain ⟨h1, h2⟩ := h.num i x hx
              exact ⟨h1, by omega⟩
            · rw [List.getElem?_append_right (by omega)] at hx
              have hlt := (List.getElem?_eq_some_iff.1 hx).1
              simp at hlt
              have hi2 : i = s.l.length := by omega
              subst hi2
              simp at hx
              subst hx
              exact ⟨rfl, Int.le_refl _⟩
          · simp only at hx hy
            have hlt := (List.getElem?_eq_some_iff.1 hy).1
            simp at hlt
            rw [List.getElem?_append_left (by omega)] at hx
            by_cases hi : i + 1 < s.l.length
            · rw [List.getElem?_append_left hi] at hy
              exact h.up i x y hx hy
            · have hi2 : i + 1 = s.l.length := by omega
              rw [List.getElem?_append_right (by omega), hi2] at hy
              simp at hy
              subst hy
              have := (h.num i x hx).2
              show x.t ≤ t
              omega
theorem inv_do {s : Ch} {x : Deed} (h : Risen s) : Risen (doS s x) := by
  unfold doS
  split
  · exact inv_add h
  · split
    · exact ⟨h.num, h.up⟩
    · split
      · unfold pruneS
        split
        · exact h
        · rename_i hn
          refine ⟨fun i y hy => ?_, fun i y z hy hz => ?_⟩
          · simp only [List.getElem?_drop] at hy
            obtain ⟨h1, h2⟩ := h.num _ y hy
            refine ⟨?_, h2⟩
            simp only
            omega
          · simp only [List.getElem?_drop] at hy hz
            exact h.up _ y z hy (by rw [← hz]; congr 1)
      · exact h
structure Right (s : Ch) : Prop where
  hd : links s.bh s.l = s.hd
  ah : s.bn ≤ s.an → links s.bh (s.l.take (s.an - s.bn).toNat) = s.ah
theorem Right.ok {s : Ch} (h : Right s) : verifyS s = 0 := by
  unfold verifyS
  rw [if_neg]
  rintro (⟨h1, h2⟩ | h2)
  · exact h2 (h.ah h1)
  · exact h2 h.hd
theorem right_new : Right newS := ⟨rfl, fun _ => rfl⟩
theorem links_append (h : List UInt8) (a b : List Evt) : links h (a ++ b) = links (links h a) b := by unfold links; rw [List.foldl_append]
theorem right_anchor {s : Ch} {m : Nat} (ok : Ok s m) (h : Right s) : Right (anchorS s) :=
  ⟨h.hd, fun _ => by
    show links s.bh (s.l.take (s.bn + s.l.length - s.bn).toNat) = s.hd
    rw [show (s.bn + (s.l.length : Int) - s.bn).toNat = s.l.length by omega, List.take_length]
    exact h.hd⟩
theorem right_prune {s : Ch} {m : Nat} {n : Int} (ok : Ok s m) (h : Right s) : Right (pruneS s n).1 := by
  unfold pruneS
  split
  · exact h
  · have := ok.le
    refine ⟨?_, fun hb => ?_⟩
    · show links (links s.bh (s.l.take (n - s.bn).toNat)) (s.l.drop (n - s.bn).toNat) = s.hd
      rw [← links_append, List.take_append_drop]
      exact h.hd
    · show links (links s.bh (s.l.take (n - s.bn).toNat)) ((s.l.drop (n - s.bn).toNat).take (s.an - n).toNat) = s.ah
      have e : s.l.take (n - s.bn).toNat ++ (s.l.drop (n - s.bn).toNat).take (s.an - n).toNat = s.l.take (s.an - s.bn).toNat := by
        rw [← List.take_add]
        congr 1
        omega
      rw [← links_append, e]
      exact h.ah (by omega)
theorem right_do {s : Ch} {m : Nat} {x : Deed} (ok : Ok s m) (h : Right s) : Right (doS s x) := by
  unfold doS
  split
  · unfold addS
    split
    · exact h
    · split
      · exact h
      · split
        · exact h
        · split
          · exact h
          · have := ok.le
            refine ⟨?_, fun hb => ?_⟩
            · show links s.bh (s.l ++ [_]) = nx s.hd _
              rw [links_append, h.hd]; rfl
            · show links s.bh ((s.l ++ [_]).take (s.an - s.bn).toNat) = s.ah
              rw [List.take_append_of_le_length (by omega)]
              exact h.ah hb
  · split
    · exact right_anchor ok h
    · split
      · exact right_prune ok h
      · exact h
theorem evs_cell {l : List Evt} {i f : Nat} {x : Evt} {v : Value} (h : l[i]? = some x) (hf : (ecells x)[f]? = some v) : (evs l)[i * 4 + f]? = some v := take_cell (evs_at h) hf
end Go.Proofs.YtmnaalpjhkkglaaGreatDoor

/-
  A chain's rows.
-/
set_option linter.all false
set_option maxRecDepth 10000
namespace Go.Proofs.YtmnaalpjhkkglaaGreatDoor
open Go Hold
variable {E : World0} {w : World} {H R : HP} {K : Value → World → Prop}
/-- A row: its key, its columns, and the slice that they lie in. -/
structure RV where
  key : List UInt8
  v : Value
  cols : List (List UInt8)
def rvc (x : RV) : List Value := [tv x.key, x.v]
def RV.said (x : RV) : List UInt8 × List (List UInt8) := (x.key, x.cols)
def rvs (l : List RV) : List Value := l.flatMap rvc
/-- All columns stay. -/
def colsP (l : List RV) : PP := ⟨fun I => ∀ x ∈ l, RdS I x.v x.cols.length (x.cols.map tv), fun hI h x hx => (h x hx).mono hI⟩
theorem rvs_length (l : List RV) : (rvs l).length = l.length * 2 := fm_length (k := 2) (fun _ => rfl) l
theorem rvs_at {l : List RV} {i : Nat} {x : RV} (h : l[i]? = some x) : ((rvs l).drop (i * 2)).take 2 = rvc x := fm_at (k := 2) (fun _ => rfl) h
theorem rvs_append (a b : List RV) : rvs (a ++ b) = rvs a ++ rvs b := by simp [rvs]
theorem rds_one {v : Value} {n : Nat} {xs : List Value} {J : Hp} (h : RdS J v n xs) : v.oneCell' = true := by obtain ⟨_, _, rfl, _⟩ := h; rfl
theorem rvs_one {l : List RV} {J : Hp} (h : (colsP l).p J) : ∀ x ∈ rvs l, x.oneCell' = true := by
  intro x hx
  obtain ⟨y, hy, hm⟩ := List.mem_flatMap.1 hx
  simp [rvc] at hm
  rcases hm with rfl | rfl
  · rfl
  · exact rds_one (h y hy)
theorem colsP_append {a b : List RV} {I : Hp} (h1 : (colsP a).p I) (h2 : (colsP b).p I) : (colsP (a ++ b)).p I := fun x hx => by
  rcases List.mem_append.1 hx with hx | hx
  · exact h1 x hx
  · exact h2 x hx
def evRow (x : Evt) : List UInt8 × List (List UInt8) := (110 :: numT x.n, [numT x.t, x.what, x.who])
def heads (s : Ch) : List (List UInt8 × List (List UInt8)) := [([35], [numT s.bn, numT s.an, numT s.last]), ([97], [s.ah]), ([98], [s.bh]), ([104], [s.hd])]
def rowsOf (s : Ch) : List (List UInt8 × List (List UInt8)) := heads s ++ s.l.map evRow
theorem win_part {b e o n : Nat} {xs ys : List Value} {fr : Nat × Nat} (h : w.heap[b]? = some (.cells xs.toArray e fr)) (hy : (xs.drop o).take n = ys) (c : Nat) (hn : ys.length = n) (hc : n ≤ c) : RdS (hp w) (.slice (some ⟨b, o, none⟩) n c) n ys :=
  ⟨_, c, rfl, hc, .inr ⟨b, o, _, e, fr, rfl, h, fun j v hj => by simpa using take_cell hy hj⟩⟩
/-- What is known of the slots of the rows' heads. -/
def φI (s : Ch) : Nat → Value → PP
  | 0, v => ppOf (v = tv (numT s.bn))
  | 4, v => ppOf (v = tv (numT s.an))
  | 5, v => ppOf (v = tv (numT s.last))
  | 1, v => ppOf (v = tv s.ah)
  | 2, v => ppOf (v = tv s.bh)
  | 3, v => ppOf (v = tv s.hd)
  | 6, v => immS v 3 ([numT s.bn, numT s.an, numT s.last].map tv)
  | 8, v => immS v 1 ([s.ah].map tv)
  | 10, v => immS v 1 ([s.bh].map tv)
  | 12, v => immS v 1 ([s.hd].map tv)
  | 7, v => ⟨fun I => ∃ u, v = .agg (rvc ⟨[35], u, [numT s.bn, numT s.an, numT s.last]⟩).toArray ∧ RdS I u 3 ([numT s.bn, numT s.an, numT s.last].map tv), fun hI ⟨u, h1, h2⟩ => ⟨u, h1, h2.mono hI⟩⟩
  | 9, v => ⟨fun I => ∃ u, v = .agg (rvc ⟨[97], u, [s.ah]⟩).toArray ∧ RdS I u 1 ([s.ah].map tv), fun hI ⟨u, h1, h2⟩ => ⟨u, h1, h2.mono hI⟩⟩
  | 11, v => ⟨fun I => ∃ u, v = .agg (rvc ⟨[98], u, [s.bh]⟩).toArray ∧ RdS I u 1 ([s.bh].map tv), fun hI ⟨u, h1, h2⟩ => ⟨u, h1, h2.mono hI⟩⟩
  | 13, v => ⟨fun I => ∃ u, v = .agg (rvc ⟨[104], u, [s.hd]⟩).toArray ∧ RdS I u 1 ([s.hd].map tv), fun hI ⟨u, h1, h2⟩ => ⟨u, h1, h2.mono hI⟩⟩
  | _, _ => ppOf True
theorem ic_bh {s : Ch} {v : Value} {m : Nat} (ok : Ok s m) : ((icells s v).drop 1).take 32 = s.bh.map bv := part_at [.int .i64 s.bn] _ (.int .i64 s.an :: (s.ah.map bv ++ (s.hd.map bv ++ [.int .i64 s.last, v]))) (by simp [icells]) rfl (by simp [ok.b])
theorem numT_length (n : Int) : (numT n).length ≤ 17 := by
  unfold numT number
  split
  · simp
  · have := hexs_length 16 n.toNat (by show n.toNat < 16 ^ 16; omega)
    simp only [numText, List.length_cons]
    omega
theorem said_take {l : List Evt} {j : Nat} {hs : List (List UInt8 × List (List UInt8))} {r : List RV} {x : RV} (h : r.map RV.said = hs ++ (l.take j).map evRow) (hj : j < l.length) (hx : x.said = evRow l[j]) : (r ++ [x]).map RV.said = hs ++ (l.take (j + 1)).map evRow := by
  rw [List.map_append, h, List.take_succ_eq_append_getElem hj, List.map_append, List.map_singleton, List.map_singleton, hx, List.append_assoc]
theorem Rows_spec {p m : Nat} {s : Ch} {v : Value} (ok : Ok s m) (hm : m ≤ 1000000000000000) (hd : Dbt R) (h : sat E w (chI p s v R))
    (k : ∀ u l w', l.map RV.said = rowsOf s → sat E w' (osl 41 2 u l.length (rvs l) * (pers (colsP l) * chI p s v R)) → K u w') : Calls prog 10 #[.pointer (some ⟨p, 0, none⟩)] w (Ret K) := by
  have := ok.few; have := ok.top; have := ok.b0
  have hdI : Dbt (chI p s v R) := by unfold chI; exact hd.right.right
  obtain ⟨a, c, rfl, hc, hv, _⟩ := (Rds.evs (s := s)).shape h
  refine c10 ?_
  unfold B10
  simp only [↓o_eqPtr, Option.isNone_some, ↓cd_false]
  refine dr_sl h fun w h _ => ?_
  try simp only [↓o_sliceA, ↓o_nil, ↓o_field, ↓o_add, ↓o_sub, ↓o_mul, ↓o_lss, ↓o_leq, ↓o_gtr, ↓o_geq, ↓o_not, ↓o_pick, ↓o_eqInt, ↓o_neInt, ↓o_eqBool, ↓o_neBool, ↓o_eqPtr, ↓o_nePtr, ↓o_eqPtr', ↓o_eqSl, ↓o_neSl, ↓o_eqStr, ↓o_neStr, ↓o_len, ↓o_lenS, ↓o_min, ↓o_max, ↓o_extract, ↓o_convInt, ↓cd_true, ↓cd_false, ↓gate_tt, ↓gate_ff, ↓gate_tf, ↓gate_ft, ↓gate_undef, ↓o_bind, ↓stay_v, ↓pop_cons, ↓fin_nil, Option.isNone_none, Option.isNone_some, Bool.not_true, Bool.not_false, Nat.zero_add, decide_true, decide_false, if_true, if_false, Bool.false_eq_true, ↓reduceIte]
  refine ld_in (b := p) (v := .int .i64 s.bn) h rfl ?_
  refine ld_in (b := p) (v := .int .i64 s.an) h (ic_an ok) ?_
  refine ld_in (b := p) (v := .int .i64 s.last) h (ic_last ok) ?_
  have sn : ∀ (φ : Nat → Value → PP) (σ : List (Option Value)) (w : World), sat E w (slots φ σ (chI p s (.slice a s.l.length c) R)) → w.heap[p]? = some (.cells (icells s (.slice a s.l.length c)).toArray 69 (0, 0)) := fun φ σ w h => sat.has (slots.old h)
  refine par_sl (φI s) h ?_
  clear h
  have st1 : ∀ {w : World} {A : Prop} {X : HP} {σ : List (Option Value)}, sat E w (X * slots (φI s) σ (chI p s (.slice a s.l.length c) R)) → A → stv prog none (Instr.loadAt 3 (.pointer (some ⟨p, 0, none⟩))) (.int .i64 s.bn) w A := fun h k => st_cell (cell_of (sn _ _ _ h.drop) (by rfl)) k
  have st2 : ∀ {w : World} {A : Prop} {X : HP} {σ : List (Option Value)}, sat E w (X * slots (φI s) σ (chI p s (.slice a s.l.length c) R)) → A → stv prog none (Instr.loadAt 3 (.pointer (some ⟨p, 33, none⟩))) (.int .i64 s.an) w A := fun h k => st_cell (cell_of (sn _ _ _ h.drop) (by simpa using ic_an ok)) k
  have st3 : ∀ {w : World} {A : Prop} {X : HP} {σ : List (Option Value)}, sat E w (X * slots (φI s) σ (chI p s (.slice a s.l.length c) R)) → A → stv prog none (Instr.loadAt 3 (.pointer (some ⟨p, 98, none⟩))) (.int .i64 s.last) w A := fun h k => st_cell (cell_of (sn _ _ _ h.drop) (by simpa using ic_last ok)) k
  have e1 : ∀ {w : World} {σ : List (Option Value)}, sat E w (slots (φI s) σ (chI p s (.slice a s.l.length c) R)) → sat E w (emp * slots (φI s) σ (chI p s (.slice a s.l.length c) R)) := fun h => h.perm (emp_star _).symm
  refine ⟨?_, ?_, ?_, ?_, ?_, ?_, ?_, ?_, ?_, ?_, ?_, ?_, ?_, ?_, ?_⟩
  · intro σ w h hu
    refine num_spec h (fun E w hs => hdI E w (slots.old hs)) fun w h => ?_
    refine st3 (e1 h) (st2 (e1 h) ?_)
    exact slots.put h rfl
  · intro σ w h hu
    refine conv_bs (l := s.ah) (by rw [ok.a]; exact win_part (sn _ _ _ h) (ic_ah ok) 32 (by simp [ok.a]) (Nat.le_refl _)) ?_
    refine st3 (e1 h) (st2 (e1 h) (st1 (e1 h) ?_))
    exact slots.put h rfl
  · intro σ w h hu
    refine conv_bs (l := s.bh) (by rw [ok.b]; exact win_part (sn _ _ _ h) (ic_bh ok) 32 (by simp [ok.b]) (Nat.le_refl _)) ?_
    refine st3 (e1 h) (st2 (e1 h) (st1 (e1 h) ?_))
    exact slots.put h rfl
  · intro σ w h hu
    refine conv_bs (l := s.hd) (by rw [ok.h]; exact win_part (sn _ _ _ h) (ic_hd ok) 32 (by simp [ok.h]) (Nat.le_refl _)) ?_
    refine st3 (e1 h) (st2 (e1 h) (st1 (e1 h) ?_))
    exact slots.put h rfl
  · intro σ w h hu
    refine num_spec h (fun E w hs => hdI E w (slots.old hs)) fun w h => ?_
    refine st3 (e1 h) (st1 (e1 h) ?_)
    exact slots.put h rfl
  · intro σ w h hu
    refine num_spec h (fun E w hs => hdI E w (slots.old hs)) fun w h => ?_
    refine st2 (e1 h) (st1 (e1 h) ?_)
    exact slots.put h rfl
  · intro σ w h hu t0 h0 t1 h1 t2 h2
    obtain rfl : t0 = tv (numT s.bn) := slots.get h h0
    obtain rfl : t1 = tv (numT s.an) := slots.get h h1
    obtain rfl : t2 = tv (numT s.last) := slots.get h h2
    refine buildSlice_sl (e := 9) (cs := #[tv (numT s.bn), tv (numT s.an), tv (numT s.last)]) h (fun w => by kernel_rfl) fun b w h => ?_
    refine st3 h (st2 h (st1 h ?_))
    exact slots.keepb (xs := [numT s.bn, numT s.an, numT s.last].map tv) h (by omega) rfl fun I hI => hI
  · intro σ w h hu t ht
    obtain ⟨ta, tc, rfl, _, _⟩ : RdS (hp w) t _ _ := slots.get h ht
    refine pvv_of (v := .agg (rvc ⟨[35], .slice ta 3 tc, [numT s.bn, numT s.an, numT s.last]⟩).toArray) (fun w => by kernel_rfl) ?_
    refine slots.add (h.pers_dup.mono fun I h' hp' => ?_)
    rw [pers_star_p] at hp' ⊢
    exact ⟨⟨_, rfl, hp'.1 6 _ ht⟩, hp'.2⟩
  · intro σ w h hu t ht
    obtain rfl : t = tv s.ah := slots.get h ht
    refine buildSlice_sl (e := 9) (cs := #[tv s.ah]) h (fun w => by kernel_rfl) fun b w h => ?_
    refine st3 h (st2 h (st1 h ?_))
    exact slots.keepb (xs := [s.ah].map tv) h (by omega) rfl fun I hI => hI
  · intro σ w h hu t ht
    obtain ⟨ta, tc, rfl, _, _⟩ : RdS (hp w) t _ _ := slots.get h ht
    refine pvv_of (v := .agg (rvc ⟨[97], .slice ta 1 tc, [s.ah]⟩).toArray) (fun w => by kernel_rfl) ?_
    refine slots.add (h.pers_dup.mono fun I h' hp' => ?_)
    rw [pers_star_p] at hp' ⊢
    exact ⟨⟨_, rfl, hp'.1 8 _ ht⟩, hp'.2⟩
  · intro σ w h hu t ht
    obtain rfl : t = tv s.bh := slots.get h ht
    refine buildSlice_sl (e := 9) (cs := #[tv s.bh]) h (fun w => by kernel_rfl) fun b w h => ?_
    refine st3 h (st2 h (st1 h ?_))
    exact slots.keepb (xs := [s.bh].map tv) h (by omega) rfl fun I hI => hI
  · intro σ w h hu t ht
    obtain ⟨ta, tc, rfl, _, _⟩ : RdS (hp w) t _ _ := slots.get h ht
    refine pvv_of (v := .agg (rvc ⟨[98], .slice ta 1 tc, [s.bh]⟩).toArray) (fun w => by kernel_rfl) ?_
    refine slots.add (h.pers_dup.mono fun I h' hp' => ?_)
    rw [pers_star_p] at hp' ⊢
    exact ⟨⟨_, rfl, hp'.1 10 _ ht⟩, hp'.2⟩
  · intro σ w h hu t ht
    obtain rfl : t = tv s.hd := slots.get h ht
    refine buildSlice_sl (e := 9) (cs := #[tv s.hd]) h (fun w => by kernel_rfl) fun b w h => ?_
    refine st3 h (st2 h (st1 h ?_))
    exact slots.keepb (xs := [s.hd].map tv) h (by omega) rfl fun I hI => hI
  · intro σ w h hu t ht
    obtain ⟨ta, tc, rfl, _, _⟩ : RdS (hp w) t _ _ := slots.get h ht
    refine pvv_of (v := .agg (rvc ⟨[104], .slice ta 1 tc, [s.hd]⟩).toArray) (fun w => by kernel_rfl) ?_
    refine slots.add (h.pers_dup.mono fun I h' hp' => ?_)
    rw [pers_star_p] at hp' ⊢
    exact ⟨⟨_, rfl, hp'.1 12 _ ht⟩, hp'.2⟩
  · intro σ w h t0 h0 t1 h1 t2 h2 t3 h3 t4 h4 t5 h5 t6 h6 t7 h7 t8 h8 t9 h9 t10 h10 t11 h11 t12 h12 t13 h13
    obtain ⟨u7, e7, ⟨a7, c7', rfl, _, _⟩⟩ : ∃ u, t7 = .agg (rvc ⟨[35], u, [numT s.bn, numT s.an, numT s.last]⟩).toArray ∧ RdS (hp w) u 3 _ := slots.get h h7
    obtain ⟨u9, e9, ⟨a9, c9', rfl, _, _⟩⟩ : ∃ u, t9 = .agg (rvc ⟨[97], u, [s.ah]⟩).toArray ∧ RdS (hp w) u 1 _ := slots.get h h9
    obtain ⟨u11, e11, ⟨a11, c11', rfl, _, _⟩⟩ : ∃ u, t11 = .agg (rvc ⟨[98], u, [s.bh]⟩).toArray ∧ RdS (hp w) u 1 _ := slots.get h h11
    obtain ⟨u13, e13, ⟨a13, c13', rfl, _, _⟩⟩ : ∃ u, t13 = .agg (rvc ⟨[104], u, [s.hd]⟩).toArray ∧ RdS (hp w) u 1 _ := slots.get h h13
    subst e7 e9 e11 e13
    have inj : ∀ {k : List UInt8} {u u' : Value} {cs : List (List UInt8)}, (.agg (rvc ⟨k, u, cs⟩).toArray : Value) = .agg (rvc ⟨k, u', cs⟩).toArray → u = u' := by
      intro k u u' cs he
      simpa [rvc] using he
    have h : sat E w (pers (colsP [⟨[35], .slice a7 3 c7', [numT s.bn, numT s.an, numT s.last]⟩, ⟨[97], .slice a9 1 c9', [s.ah]⟩, ⟨[98], .slice a11 1 c11', [s.bh]⟩, ⟨[104], .slice a13 1 c13', [s.hd]⟩]) * chI p s (.slice a s.l.length c) R) := by
      refine h.pers_mono fun I hI => ?_
      obtain ⟨u, q1, q2⟩ := hI 7 _ h7
      obtain rfl := inj q1
      obtain ⟨u, q1, q3⟩ := hI 9 _ h9
      obtain rfl := inj q1
      obtain ⟨u, q1, q4⟩ := hI 11 _ h11
      obtain rfl := inj q1
      obtain ⟨u, q1, q5⟩ := hI 13 _ h13
      obtain rfl := inj q1
      intro x hx
      simp only [List.mem_cons, List.not_mem_nil, or_false] at hx
      rcases hx with rfl | rfl | rfl | rfl
      · exact q2
      · exact q3
      · exact q4
      · exact q5
    have hsd : ([⟨[35], .slice a7 3 c7', [numT s.bn, numT s.an, numT s.last]⟩, ⟨[97], .slice a9 1 c9', [s.ah]⟩, ⟨[98], .slice a11 1 c11', [s.bh]⟩, ⟨[104], .slice a13 1 c13', [s.hd]⟩] : List RV).map RV.said = heads s := rfl
    refine buildSlice_sl (e := 41) (cs := (rvs [⟨[35], .slice a7 3 c7', [numT s.bn, numT s.an, numT s.last]⟩, ⟨[97], .slice a9 1 c9', [s.ah]⟩, ⟨[98], .slice a11 1 c11', [s.bh]⟩, ⟨[104], .slice a13 1 c13', [s.hd]⟩]).toArray) h (fun w => by kernel_rfl) fun b w h => ?_
    have h : sat E w (osl 41 2 (.slice (some ⟨b, 0, none⟩) 4 4) 4 (rvs _) * _) := osl_of h rfl (by omega)
    generalize hl0 : ([⟨[35], .slice a7 3 c7', [numT s.bn, numT s.an, numT s.last]⟩, ⟨[97], .slice a9 1 c9', [s.ah]⟩, ⟨[98], .slice a11 1 c11', [s.bh]⟩, ⟨[104], .slice a13 1 c13', [s.hd]⟩] : List RV) = l0 at h hsd
    have hl4 : l0.length = 4 := by rw [← hl0]; rfl
    clear hl0 h0 h1 h2 h3 h4 h5 h6 h7 h8 h9 h10 h11 h12 h13 st1 st2 st3 e1 sn
    have hpI : ∀ {w : World} {X : HP}, sat E w (X * chI p s (.slice a s.l.length c) R) → w.heap[p]? = some (.cells (icells s (.slice a s.l.length c)).toArray 69 (0, 0)) := fun h => sat.has (P := chI p s (.slice a s.l.length c) R) h.drop
    refine st_cell (cell_of (hpI h.drop) (by simpa using ic_last ok)) ?_
    refine st_cell (cell_of (hpI h.drop) (by simpa using ic_an ok)) ?_
    refine st_cell (cell_of (hpI h.drop) (by rfl)) ?_
    try simp only [↓o_nil, ↓o_field, ↓o_add, ↓o_sub, ↓o_mul, ↓o_lss, ↓o_leq, ↓o_gtr, ↓o_geq, ↓o_not, ↓o_pick, ↓o_eqInt, ↓o_neInt, ↓o_eqBool, ↓o_neBool, ↓o_eqPtr, ↓o_nePtr, ↓o_eqPtr', ↓o_eqSl, ↓o_neSl, ↓o_eqStr, ↓o_neStr, ↓o_len, ↓o_lenS, ↓o_min, ↓o_max, ↓o_extract, ↓o_convInt, ↓cd_true, ↓cd_false, ↓gate_tt, ↓gate_ff, ↓gate_tf, ↓gate_ft, ↓gate_undef, ↓o_bind, ↓stay_v, ↓pop_cons, ↓fin_nil, Option.isNone_none, Option.isNone_some, Bool.not_true, Bool.not_false, Nat.zero_add, decide_true, decide_false, if_true, if_false, Bool.false_eq_true, ↓reduceIte]
    refine ld_in (b := p) (v := .slice a s.l.length c) h (ic_l ok) ?_
    rw [o_len]
    refine lp_nat (fun q σ w => ∃ (j : Nat) (out : Value) (l : List RV), σ = [out, .int .i64 (j : Int)] ∧ q = s.l.length - j ∧ j ≤ s.l.length ∧ l.map RV.said = heads s ++ (s.l.take j).map evRow ∧ sat E w (osl 41 2 out l.length (rvs l) * (pers (colsP l) * chI p s (.slice a s.l.length c) R))) s.l.length
      ⟨0, _, l0, rfl, by omega, by omega, by rw [hsd]; simp, by rw [hl4]; exact h⟩ ?_
    clear h
    rintro q σ w again ⟨j, out, l, rfl, rfl, hj, hsl, h⟩ hag
    have hll : l.length = 4 + j := by
      have := congrArg List.length hsl
      simp [heads] at this
      omega
    rw [pop_cons, pop_cons, fin_nil, o_lss]
    refine cd_dec (fun hlt => ?_) (fun hge => ?_)
    · have hj2 : j < s.l.length := by omega
      obtain ⟨b', o, c', e, hc', hrd⟩ := hv.opened h.drop.drop (by rw [evs_length]; omega)
      cases e
      rw [o_index (by omega) (by omega)]
      refine ld_el h (Rds.right (Rds.right hrd)) (j * 4) (by simp) (ecells s.l[j]) rfl (evs_at (by simp [hj2])) ?_
      refine alloc_sl h fun x w h => ?_
      have h : sat E w (pts x (.cells (ecells zeroE).toArray 31 (0, 0)) * (osl 41 2 out l.length (rvs l) * (pers (colsP l) * chI p s (.slice _ s.l.length c) R))) := h
      refine store_all (b := x) h (xs := ecells zeroE) (vs := ecells s.l[j]) rfl rfl (ecells_one _) fun w h => ?_
      refine dr_sl h fun w h _ => ?_
      generalize hx : s.l[j] = y at h
      have hxb : ∀ {w : World} {X : HP}, sat E w (X * (pts x (.cells (ecells y).toArray 31 (0, 0)) * (osl 41 2 out l.length (rvs l) * (pers (colsP l) * chI p s (.slice (some ⟨b', o, none⟩) s.l.length c) R)))) → w.heap[x]? = some (.cells (ecells y).toArray 31 (0, 0)) := fun h => h.drop.pts_get
      try simp only [↓o_nil, ↓o_field, ↓o_add, ↓o_sub, ↓o_mul, ↓o_lss, ↓o_leq, ↓o_gtr, ↓o_geq, ↓o_not, ↓o_pick, ↓o_eqInt, ↓o_neInt, ↓o_eqBool, ↓o_neBool, ↓o_eqPtr, ↓o_nePtr, ↓o_eqPtr', ↓o_eqSl, ↓o_neSl, ↓o_eqStr, ↓o_neStr, ↓o_len, ↓o_lenS, ↓o_min, ↓o_max, ↓o_extract, ↓o_convInt, ↓cd_true, ↓cd_false, ↓gate_tt, ↓gate_ff, ↓gate_tf, ↓gate_ft, ↓gate_undef, ↓o_bind, ↓stay_v, ↓pop_cons, ↓fin_nil, Option.isNone_none, Option.isNone_some, Bool.not_true, Bool.not_false, Nat.zero_add, decide_true, decide_false, if_true, if_false, Bool.false_eq_true, ↓reduceIte]
      refine ld_in (b := x) (v := .int .i64 y.n) h rfl ?_
      refine ld_in (b := x) (v := .int .i64 y.t) h rfl ?_
      refine ld_in (b := x) (v := tv y.what) h rfl ?_
      refine ld_in (b := x) (v := tv y.who) h rfl ?_
      have h := h.perm (emp_star _).symm
      have g0 : ∀ {w : World} {A : Prop} {X : HP}, sat E w (X * (pts x (.cells (ecells y).toArray 31 (0, 0)) * (osl 41 2 out l.length (rvs l) * (pers (colsP l) * chI p s (.slice (some ⟨b', o, none⟩) s.l.length c) R)))) → A → stv prog none (Instr.loadAt 3 (.pointer (some ⟨x, 0, none⟩))) (.int .i64 y.n) w A := fun h k => st_cell (cell_of (hxb h) (by rfl)) k
      have g1 : ∀ {w : World} {A : Prop} {X : HP}, sat E w (X * (pts x (.cells (ecells y).toArray 31 (0, 0)) * (osl 41 2 out l.length (rvs l) * (pers (colsP l) * chI p s (.slice (some ⟨b', o, none⟩) s.l.length c) R)))) → A → stv prog none (Instr.loadAt 3 (.pointer (some ⟨x, 1, none⟩))) (.int .i64 y.t) w A := fun h k => st_cell (cell_of (hxb h) (by rfl)) k
      have g2 : ∀ {w : World} {A : Prop} {X : HP}, sat E w (X * (pts x (.cells (ecells y).toArray 31 (0, 0)) * (osl 41 2 out l.length (rvs l) * (pers (colsP l) * chI p s (.slice (some ⟨b', o, none⟩) s.l.length c) R)))) → A → stv prog none (Instr.loadAt 9 (.pointer (some ⟨x, 2, none⟩))) (tv y.what) w A := fun h k => st_cell (cell_of (hxb h) (by rfl)) k
      have g3 : ∀ {w : World} {A : Prop} {X : HP}, sat E w (X * (pts x (.cells (ecells y).toArray 31 (0, 0)) * (osl 41 2 out l.length (rvs l) * (pers (colsP l) * chI p s (.slice (some ⟨b', o, none⟩) s.l.length c) R)))) → A → stv prog none (Instr.loadAt 9 (.pointer (some ⟨x, 3, none⟩))) (tv y.who) w A := fun h k => st_cell (cell_of (hxb h) (by rfl)) k
      refine num_spec h hdI.up fun w h => ?_
      refine g3 h (g2 h (g1 h ?_))
      have e0 : (.string ⟨#[110]⟩ : Value) = tv [110] := rfl
      have l17 := numT_length y.n
      rw [e0, o_catT (by simp; omega)]
      refine num_spec h hdI.up fun w h => ?_
      refine g3 h (g2 h (g0 h ?_))
      refine buildSlice_sl (e := 9) (cs := ([numT y.t, y.what, y.who].map tv).toArray) h (fun w => by kernel_rfl) fun b4 w h => ?_
      rw [← star_assoc] at h
      refine g1 h (g0 h ?_)
      rw [star_assoc] at h
      refine pvv_of (v := .agg (rvc ⟨110 :: numT y.n, .slice (some ⟨b4, 0, none⟩) 3 3, [numT y.t, y.what, y.who]⟩).toArray) (fun w => by kernel_rfl) ?_
      have h : sat E w (osl 9 1 (.slice (some ⟨b4, 0, none⟩) 3 3) 3 ([numT y.t, y.what, y.who].map tv) * _) := osl_of h rfl (by omega)
      have h := osl_freeze h
      generalize hxv : (⟨110 :: numT y.n, .slice (some ⟨b4, 0, none⟩) 3 3, [numT y.t, y.what, y.who]⟩ : RV) = xv
      have hsx : xv.said = evRow s.l[j] := by rw [hx, ← hxv]; rfl
      have h := h.pers_mono (ψ := colsP [xv]) fun I hI z hz => by
        rw [List.mem_singleton.1 hz, ← hxv]
        exact hI
      have hu1 : ∀ q ∈ rvc xv, q.oneCell' = true := by rw [← hxv]; intro q hq; simp [rvc] at hq; rcases hq with rfl | rfl <;> rfl
      clear hxv
      refine buildSlice_sl (e := 41) (cs := (rvc xv).toArray) h (fun w => by kernel_rfl) fun b5 w h => ?_
      have hf : ∀ {w : World} {X Y Z : HP}, sat E w (X * (Y * (Z * (pts x (.cells (ecells y).toArray 31 (0, 0)) * (osl 41 2 out l.length (rvs l) * (pers (colsP l) * chI p s (.slice (some ⟨b', o, none⟩) s.l.length c) R)))))) → sat E w ((X * (Y * Z)) * (pts x (.cells (ecells y).toArray 31 (0, 0)) * (osl 41 2 out l.length (rvs l) * (pers (colsP l) * chI p s (.slice (some ⟨b', o, none⟩) s.l.length c) R)))) := fun h => h.perm (by ac_rfl)
      refine g3 (hf h) (g2 (hf h) (g1 (hf h) (g0 (hf h) ?_)))
      refine append_sl (v := out) h (rvc xv) (k' := 1) rfl (.inr ⟨b5, 0, _, _, _, rfl, h.pts_get, fun j v hj => by simpa using hj⟩) hu1 (by omega) (by omega) fun v' w h => ?_
      have hxb2 : w.heap[x]? = some (.cells (ecells y).toArray 31 (0, 0)) := sat.has h
      refine st_cell (cell_of hxb2 (by rfl)) (st_cell (cell_of hxb2 (by rfl)) (st_cell (cell_of hxb2 (by rfl)) (st_cell (cell_of hxb2 (by rfl)) ?_)))
      try rw [o_add]
      rw [i64_of (by omega) (by omega)]
      refine hag (s.l.length - (j + 1)) _ _ (by omega) ⟨j + 1, v', l ++ [xv], rfl, rfl, by omega, said_take hsl hj2 hsx, ?_⟩
      have h := (h.lose b5).lose x
      have e9 : rvs l ++ rvc xv = rvs (l ++ [xv]) := by rw [rvs_append]; simp [rvs]
      rw [e9] at h
      have h := h.perm (show _ = emp * (pers (colsP l) * (pers (colsP [xv]) * (osl 41 2 v' (l.length + 1) (rvs (l ++ [xv])) * chI p s (.slice (some ⟨b', o, none⟩) s.l.length c) R))) by unfold chI; ac_rfl)
      have h := h.drop
      rw [← star_assoc, pers_and] at h
      have h := h.pers_mono (ψ := colsP (l ++ [xv])) fun I hI => colsP_append hI.1 hI.2
      rw [List.length_append, List.length_singleton]
      exact h.perm (star_left_comm _ _ _)
    · have hj2 : j = s.l.length := by omega
      subst hj2
      refine k out l w ?_ h
      rw [hsl, List.take_length]
      rfl
end Go.Proofs.YtmnaalpjhkkglaaGreatDoor

/-
  copy, of a text's bytes into a row of cells.
-/
set_option linter.all false
set_option maxRecDepth 100000
namespace Hold
open Go
variable {P : Program} {E : World0} {w : World} {H R : HP} {K : Value → World → Prop}
theorem bv_list (l : List UInt8) : ((l.toArray.map fun b : UInt8 => Value.int .u8 b.toNat)).toList = l.map bv := by simp [bv]
theorem copy_text (h : sat E w H) {t u ty e e' m : TypeId} {z : Value} [i : SliceT P t e 1 m z] {cs : Array Bool} {b o c : Nat} {xs : List Value} {l : List UInt8} [s : Own H b (.cells xs.toArray e' (0, 0)) R]
    (hle : o + l.length ≤ xs.length) (k : ∀ w', sat E w' (pts b (.cells (xs.take o ++ l.map bv ++ xs.drop (o + l.length)).toArray e' (0, 0)) * R) → K (.int .i64 l.length) w') :
    ef P (oBi .copy #[t, u] ty cs #[.slice (some ⟨b, o, none⟩) l.length c, tv l]) w K := by
  have hs' := h.own b
  have hbl := hs'.pts_get
  have hst := run_storeCells_at P b o e' (l.map bv) 0 xs.toArray w hbl (by simpa using hle) (by intro v hv; obtain ⟨_, _, rfl⟩ := List.mem_map.1 hv; rfl)
  have hsz : (⟨l.toArray⟩ : ByteArray).size = l.length := by simp [ByteArray.size]
  have hex : ((⟨l.toArray⟩ : ByteArray).extract 0 l.length) = ⟨l.toArray⟩ := by
    have := ByteArray.extract_zero_size (b := ⟨l.toArray⟩)
    rwa [hsz] at this
  have hr : (Builtin.copy_ #[t, u] ty #[.slice (some ⟨b, o, none⟩) l.length c, tv l]).run P w = .ok (goInt l.length) (w.setRow b (xs.toArray.toList.take o ++ l.map bv ++ xs.toArray.toList.drop (o + l.length)).toArray) := by
    simp only [Nat.add_zero, List.length_map] at hst
    have hbl2 := bv_list l
    simp [Builtin.copy_, run_underlying i.ul, Builtin.lenOf, Builtin.firstCells, run_sizeOf' i.size, tv, hsz, hex, hst]
    have e1 : List.take l.length (List.map (fun b : UInt8 => Value.int IntKind.u8 (b.toNat : Int)) l) = l.map bv := by
      rw [List.take_of_length_le (by simp)]
      rfl
    rw [e1]
    simp [hst]
  rw [setRow_putObj hbl] at hr
  have ef_bi : ∀ {v' w'}, (Builtin.copy_ #[t, u] ty #[.slice (some ⟨b, o, none⟩) l.length c, tv l]).run P w = .ok v' w' → K v' w' → ef P (oBi .copy #[t, u] ty cs #[.slice (some ⟨b, o, none⟩) l.length c, tv l]) w K := fun hr hk =>
    ef_of (by simp [oBi, builtin, hr]) hk
  exact ef_bi hr (k _ (hs'.set _))
end Hold

/-
  Numbers read out of a row; a hash taken out of one.
-/
set_option linter.all false
set_option maxRecDepth 100000
namespace Go.Proofs.YtmnaalpjhkkglaaGreatDoor
open Go Hold
variable {E : World0} {w : World} {H R : HP} {K : Value → World → Prop}
theorem read_spec (G : Nat → HP) {v u : Value} {ns : List Nat} {ps : List Addr} (hl : ns.length ≤ 1000) (hn : ∀ n ∈ ns, n ≤ 4611686018427387904) (hps : ps.length = ns.length) (h : sat E w (G 0 * R))
    (hv : Rds R v ns.length (ns.map fun n => tv (numText n))) (hu : Rds R u ns.length (ps.map fun a => Value.pointer (some a)))
    (hst : ∀ (i n : Nat) (a : Addr) (w : World) (K' : Value → World → Prop), ns[i]? = some n → ps[i]? = some a → sat E w (G i * R) → (∀ w', sat E w' (G (i + 1) * R) → K' undef w') → efu prog (Instr.storeAt 3 (.pointer (some a)) (.int .i64 (n : Int))) w K')
    (k : ∀ w', sat E w' (G ns.length * R) → K (.bool true) w') : Calls prog 35 #[v, u] w (Ret K) := by
  obtain ⟨va, vc, rfl, hvc, hv, _⟩ := hv.shape h.drop
  obtain ⟨ua, uc, rfl, huc, hu, _⟩ := hu.shape h.drop
  refine c35 ?_
  unfold B35
  rw [o_len, o_len, o_neInt, show (!decide ((ns.length : Int) = ns.length)) = false by simp, cd_false, o_len]
  refine lp_nat (fun r σ w => ∃ i : Nat, σ = [.int .i64 (i : Int)] ∧ r = ns.length - i ∧ i ≤ ns.length ∧ sat E w (G i * R)) ns.length ⟨0, rfl, rfl, by omega, h⟩ ?_
  clear h
  rintro r σ w again ⟨i, rfl, rfl, hi, h⟩ hag
  rw [pop_cons, fin_nil, o_lss]
  refine cd_dec (fun hlt => ?_) (fun hge => ?_)
  · have hi1 : i < ns.length := by omega
    have hx : ns[i]? = some ns[i] := List.getElem?_eq_getElem hi1
    have hm : ns[i] ∈ ns := List.getElem_mem hi1
    generalize ns[i] = n at hx hm
    have hi2 : i < ps.length := by omega
    have hy : ps[i]? = some ps[i] := List.getElem?_eq_getElem hi2
    generalize ps[i] = a at hy
    obtain ⟨b1, o1, _, e1, _, hv1⟩ := hv.opened h.drop (by simp; omega)
    cases e1
    obtain ⟨b2, o2, _, e2, _, hu1⟩ := hu.opened h.drop (by simp; omega)
    cases e2
    rw [o_index (by omega) (by omega)]
    refine ld_rd h hv1.right i (by simp) (v := tv (numText n)) (by rw [List.getElem?_map, hx]; rfl) ?_
    have hnl : (numText n).length ≤ 17 := by
      have := hexs_length 16 n (by have := hn n hm; show n < 16 ^ 16; omega)
      simp only [numText, List.length_cons]
      omega
    refine ToNumber_spec h (by omega) fun w h => ?_
    rw [toNum_text (hn n hm), o_extract, o_extract, o_neInt, show (!decide ((0 : Int) = 0)) = false from rfl, cd_false, o_index (by omega) (by omega)]
    refine ld_rd h hu1.right i (by simp) (v := .pointer (some a)) (by rw [List.getElem?_map, hy]; rfl) ?_
    rw [o_nil]
    refine hst i n a w _ hx hy h fun w h => ?_
    try rw [o_add]
    rw [i64_of (by omega) (by omega)]
    exact hag (ns.length - (i + 1)) _ _ (by omega) ⟨i + 1, rfl, rfl, by omega, h⟩
  · have hi2 : i = ns.length := by omega
    subst hi2
    exact k w h
theorem take_spec {b o e' : Nat} {xs : List Value} {key l : List UInt8} {v : Value} [s : Own H b (.cells xs.toArray e' (0, 0)) R] (hl : l.length = 32) (h : sat E w H) (hv : Rds R v 1 [tv l]) (hle : o + 32 ≤ xs.length)
    (k : ∀ w', sat E w' (pts b (.cells (xs.take o ++ l.map bv ++ xs.drop (o + 32)).toArray e' (0, 0)) * R) → K (.bool true) w') : Calls prog 36 #[.agg (rvc ⟨key, v, [l]⟩).toArray, tv key, .pointer (some ⟨b, o, none⟩)] w (Ret K) := by
  have h := h.own b
  obtain ⟨va, vc, rfl, hvc, hv, _⟩ := (show Rds (pts b (.cells xs.toArray e' (0, 0)) * R) v 1 [tv l] from hv.right).shape h
  rename_i hv0
  obtain ⟨b1, o1, c1, e1, _, hv⟩ := hv.opened h (by simp)
  cases e1
  refine c36 ?_
  unfold B36
  refine box_sl h fun rb w h => ?_
  have h : sat E w (pts rb (.cells (rvc ⟨key, .slice (some ⟨b1, o1, none⟩) 1 vc, [l]⟩).toArray 41 (0, 0)) * (pts b (.cells xs.toArray e' (0, 0)) * R)) := h
  simp only [↓o_nil, ↓o_field, ↓o_add, ↓o_sub, ↓o_mul, ↓o_lss, ↓o_leq, ↓o_gtr, ↓o_geq, ↓o_not, ↓o_pick, ↓o_eqInt, ↓o_neInt, ↓o_eqBool, ↓o_neBool, ↓o_eqPtr, ↓o_nePtr, ↓o_eqPtr', ↓o_eqSl, ↓o_neSl, ↓o_eqStr, ↓o_neStr, ↓o_len, ↓o_lenS, ↓o_min, ↓o_max, ↓o_extract, ↓o_convInt, ↓cd_true, ↓cd_false, ↓gate_tt, ↓gate_ff, ↓gate_tf, ↓gate_ft, ↓gate_undef, ↓o_bind, ↓stay_v, ↓pop_cons, ↓fin_nil, Option.isNone_none, Option.isNone_some, Bool.not_true, Bool.not_false, Nat.zero_add, decide_true, decide_false, if_true, if_false, Bool.false_eq_true, ↓reduceIte]
  refine ld_in (b := rb) (v := tv key) h rfl ?_
  rw [o_neT, show (!decide (key = key)) = false by simp]
  try simp only [↓o_nil, ↓o_field, ↓o_add, ↓o_sub, ↓o_mul, ↓o_lss, ↓o_leq, ↓o_gtr, ↓o_geq, ↓o_not, ↓o_pick, ↓o_eqInt, ↓o_neInt, ↓o_eqBool, ↓o_neBool, ↓o_eqPtr, ↓o_nePtr, ↓o_eqPtr', ↓o_eqSl, ↓o_neSl, ↓o_eqStr, ↓o_neStr, ↓o_len, ↓o_lenS, ↓o_min, ↓o_max, ↓o_extract, ↓o_convInt, ↓cd_true, ↓cd_false, ↓gate_tt, ↓gate_ff, ↓gate_tf, ↓gate_ft, ↓gate_undef, ↓o_bind, ↓stay_v, ↓pop_cons, ↓fin_nil, Option.isNone_none, Option.isNone_some, Bool.not_true, Bool.not_false, Nat.zero_add, decide_true, decide_false, if_true, if_false, Bool.false_eq_true, ↓reduceIte]
  refine ld_in (b := rb) (v := .slice (some ⟨b1, o1, none⟩) 1 vc) h rfl ?_
  simp only [show decide (((1 : Nat) : Int) = 1) = true from rfl, ↓o_nil, ↓o_field, ↓o_add, ↓o_sub, ↓o_mul, ↓o_lss, ↓o_leq, ↓o_gtr, ↓o_geq, ↓o_not, ↓o_pick, ↓o_eqInt, ↓o_neInt, ↓o_eqBool, ↓o_neBool, ↓o_eqPtr, ↓o_nePtr, ↓o_eqPtr', ↓o_eqSl, ↓o_neSl, ↓o_eqStr, ↓o_neStr, ↓o_len, ↓o_lenS, ↓o_min, ↓o_max, ↓o_extract, ↓o_convInt, ↓cd_true, ↓cd_false, ↓gate_tt, ↓gate_ff, ↓gate_tf, ↓gate_ft, ↓gate_undef, ↓o_bind, ↓stay_v, ↓pop_cons, ↓fin_nil, Option.isNone_none, Option.isNone_some, Bool.not_true, Bool.not_false, Nat.zero_add, decide_true, decide_false, if_true, if_false, Bool.false_eq_true, ↓reduceIte]
  refine ld_in (b := rb) (v := .slice (some ⟨b1, o1, none⟩) 1 vc) h rfl ?_
  try simp only [↓o_nil, ↓o_field, ↓o_add, ↓o_sub, ↓o_mul, ↓o_lss, ↓o_leq, ↓o_gtr, ↓o_geq, ↓o_not, ↓o_pick, ↓o_eqInt, ↓o_neInt, ↓o_eqBool, ↓o_neBool, ↓o_eqPtr, ↓o_nePtr, ↓o_eqPtr', ↓o_eqSl, ↓o_neSl, ↓o_eqStr, ↓o_neStr, ↓o_len, ↓o_lenS, ↓o_min, ↓o_max, ↓o_extract, ↓o_convInt, ↓cd_true, ↓cd_false, ↓gate_tt, ↓gate_ff, ↓gate_tf, ↓gate_ft, ↓gate_undef, ↓o_bind, ↓stay_v, ↓pop_cons, ↓fin_nil, Option.isNone_none, Option.isNone_some, Bool.not_true, Bool.not_false, Nat.zero_add, decide_true, decide_false, if_true, if_false, Bool.false_eq_true, ↓reduceIte]
  rw [o_index (by decide) (by decide)]
  try simp only [↓o_nil, ↓o_field, ↓o_add, ↓o_sub, ↓o_mul, ↓o_lss, ↓o_leq, ↓o_gtr, ↓o_geq, ↓o_not, ↓o_pick, ↓o_eqInt, ↓o_neInt, ↓o_eqBool, ↓o_neBool, ↓o_eqPtr, ↓o_nePtr, ↓o_eqPtr', ↓o_eqSl, ↓o_neSl, ↓o_eqStr, ↓o_neStr, ↓o_len, ↓o_lenS, ↓o_min, ↓o_max, ↓o_extract, ↓o_convInt, ↓cd_true, ↓cd_false, ↓gate_tt, ↓gate_ff, ↓gate_tf, ↓gate_ft, ↓gate_undef, ↓o_bind, ↓stay_v, ↓pop_cons, ↓fin_nil, Option.isNone_none, Option.isNone_some, Bool.not_true, Bool.not_false, Nat.zero_add, decide_true, decide_false, if_true, if_false, Bool.false_eq_true, ↓reduceIte]
  refine ld_rd h hv.right 0 rfl (v := tv l) rfl ?_
  try simp only [↓o_lenT, ↓o_nil, ↓o_field, ↓o_add, ↓o_sub, ↓o_mul, ↓o_lss, ↓o_leq, ↓o_gtr, ↓o_geq, ↓o_not, ↓o_pick, ↓o_eqInt, ↓o_neInt, ↓o_eqBool, ↓o_neBool, ↓o_eqPtr, ↓o_nePtr, ↓o_eqPtr', ↓o_eqSl, ↓o_neSl, ↓o_eqStr, ↓o_neStr, ↓o_len, ↓o_lenS, ↓o_min, ↓o_max, ↓o_extract, ↓o_convInt, ↓cd_true, ↓cd_false, ↓gate_tt, ↓gate_ff, ↓gate_tf, ↓gate_ft, ↓gate_undef, ↓o_bind, ↓stay_v, ↓pop_cons, ↓fin_nil, Option.isNone_none, Option.isNone_some, Bool.not_true, Bool.not_false, Nat.zero_add, decide_true, decide_false, if_true, if_false, Bool.false_eq_true, ↓reduceIte]
  rw [show (!decide ((l.length : Int) = 32)) = false by simp [hl], cd_false]
  refine dr_sl h fun w h _ => ?_
  rw [o_sliceA]
  try simp only [↓o_nil, ↓o_field, ↓o_add, ↓o_sub, ↓o_mul, ↓o_lss, ↓o_leq, ↓o_gtr, ↓o_geq, ↓o_not, ↓o_pick, ↓o_eqInt, ↓o_neInt, ↓o_eqBool, ↓o_neBool, ↓o_eqPtr, ↓o_nePtr, ↓o_eqPtr', ↓o_eqSl, ↓o_neSl, ↓o_eqStr, ↓o_neStr, ↓o_len, ↓o_lenS, ↓o_min, ↓o_max, ↓o_extract, ↓o_convInt, ↓cd_true, ↓cd_false, ↓gate_tt, ↓gate_ff, ↓gate_tf, ↓gate_ft, ↓gate_undef, ↓o_bind, ↓stay_v, ↓pop_cons, ↓fin_nil, Option.isNone_none, Option.isNone_some, Bool.not_true, Bool.not_false, Nat.zero_add, decide_true, decide_false, if_true, if_false, Bool.false_eq_true, ↓reduceIte]
  refine ld_in (b := rb) (v := .slice (some ⟨b1, o1, none⟩) 1 vc) h rfl ?_
  rw [o_index (by decide) (by decide)]
  refine ld_rd h hv.right 0 rfl (v := tv l) rfl ?_
  have e32 : (Value.slice (some ⟨b, o, none⟩) 32 32) = .slice (some ⟨b, o, none⟩) l.length 32 := by rw [hl]
  rw [e32]
  refine copy_text (b := b) h (by omega) fun w h => ?_
  rw [hl] at h
  refine st_in (b := rb) (v := .slice (some ⟨b1, o1, none⟩) 1 vc) h rfl ?_
  exact k w (h.perm (show _ = pts rb (.cells (rvc ⟨key, .slice (some ⟨b1, o1, none⟩) 1 vc, [l]⟩).toArray 41 (0, 0)) * (pts b (.cells (xs.take o ++ l.map bv ++ xs.drop (o + 32)).toArray e' (0, 0)) * R) by ac_rfl)).drop
end Go.Proofs.YtmnaalpjhkkglaaGreatDoor

/-
  A chain loaded from its own rows.
-/
set_option linter.all false
set_option maxRecDepth 100000
namespace Go.Proofs.YtmnaalpjhkkglaaGreatDoor
open Go Hold
variable {E : World0} {w : World} {H R : HP} {K : Value → World → Prop}
structure Small (s : Ch) : Prop where
  l0 : 0 ≤ s.last
  l1 : s.last ≤ 1099511627776
  ev : ∀ x ∈ s.l, 0 ≤ x.t ∧ x.what.length ≤ 12 ∧ x.who.length ≤ 30
theorem small_new : Small newS := ⟨by simp [newS], by simp [newS], by simp [newS]⟩
theorem small_do {s : Ch} {x : Deed} (h : Small s) : Small (doS s x) := by
  unfold doS
  split
  · unfold addS
    split
    · exact h
    · split
      · exact h
      · split
        · exact h
        · split
          · exact h
          · refine ⟨by simp only; omega, by simp only; omega, fun y hy => ?_⟩
            rcases List.mem_append.1 hy with hy | hy
            · exact h.ev y hy
            · rw [List.mem_singleton.1 hy]
              exact ⟨by simp only [newE]; omega, by simp only [newE]; omega, by simp only [newE]; omega⟩
  · split
    · exact ⟨h.l0, h.l1, h.ev⟩
    · split
      · unfold pruneS
        split
        · exact h
        · exact ⟨h.l0, h.l1, fun y hy => h.ev y (List.mem_of_mem_drop hy)⟩
      · exact h
theorem numT_nat {n : Int} (h0 : 0 ≤ n) (h1 : n ≤ 4611686018427387904) : numT n = numText n.toNat := by
  unfold numT number
  rw [if_neg (by omega)]
theorem ip_bn {s : Ch} {v : Value} {n : Int} : (icells s v).set 0 (.int .i64 n) = icells { s with bn := n } v := rfl
theorem ip_an {s : Ch} {m : Nat} {v : Value} (ok : Ok s m) {n : Int} : (icells s v).set 33 (.int .i64 n) = icells { s with an := n } v := part_set (.int .i64 s.bn :: s.bh.map bv) (s.ah.map bv ++ (s.hd.map bv ++ [.int .i64 s.last, v])) (x := .int .i64 s.an) (by simp [icells]) (by simp [ok.b]) (by simp [icells])
structure Len3 (s : Ch) : Prop where
  b : s.bh.length = 32
  a : s.ah.length = 32
  h : s.hd.length = 32
theorem ip_an3 {s : Ch} {v : Value} (ok : Len3 s) {n : Int} : (icells s v).set 33 (.int .i64 n) = icells { s with an := n } v := part_set (.int .i64 s.bn :: s.bh.map bv) (s.ah.map bv ++ (s.hd.map bv ++ [.int .i64 s.last, v])) (x := .int .i64 s.an) (by simp [icells]) (by simp [ok.b]) (by simp [icells])
theorem ip_last3 {s : Ch} {v : Value} (ok : Len3 s) {t : Int} : (icells s v).set 98 (.int .i64 t) = icells { s with last := t } v := part_set (.int .i64 s.bn :: (s.bh.map bv ++ (.int .i64 s.an :: (s.ah.map bv ++ s.hd.map bv)))) [v] (x := .int .i64 s.last) (by simp [icells]) (by simp [ok.b, ok.a, ok.h]) (by simp [icells])
theorem ip_ah3 {s : Ch} {v : Value} (ok : Len3 s) {h : List UInt8} (_ : h.length = 32) : (icells s v).take 34 ++ h.map bv ++ (icells s v).drop (34 + 32) = icells { s with ah := h } v := part_put (.int .i64 s.bn :: (s.bh.map bv ++ [.int .i64 s.an])) (s.ah.map bv) (s.hd.map bv ++ [.int .i64 s.last, v]) _ (by simp [icells]) (by simp [ok.b]) (by simp [ok.a]) (by simp [icells])
theorem ip_bh3 {s : Ch} {v : Value} (ok : Len3 s) {h : List UInt8} (_ : h.length = 32) : (icells s v).take 1 ++ h.map bv ++ (icells s v).drop (1 + 32) = icells { s with bh := h } v := part_put [.int .i64 s.bn] (s.bh.map bv) (.int .i64 s.an :: (s.ah.map bv ++ (s.hd.map bv ++ [.int .i64 s.last, v]))) _ (by simp [icells]) rfl (by simp [ok.b]) (by simp [icells])
theorem ip_hd3 {s : Ch} {v : Value} (ok : Len3 s) {h : List UInt8} (_ : h.length = 32) : (icells s v).take 66 ++ h.map bv ++ (icells s v).drop (66 + 32) = icells { s with hd := h } v := part_put (.int .i64 s.bn :: (s.bh.map bv ++ (.int .i64 s.an :: s.ah.map bv))) (s.hd.map bv) [.int .i64 s.last, v] _ (by simp [icells]) (by simp [ok.b, ok.a]) (by simp [ok.h]) (by simp [icells])
theorem ic_an3 {s : Ch} {v : Value} (ok : Len3 s) : (icells s v)[33]? = some (.int .i64 s.an) := part_cell (.int .i64 s.bn :: s.bh.map bv) (s.ah.map bv ++ (s.hd.map bv ++ [.int .i64 s.last, v])) (by simp [icells]) (by simp [ok.b])
theorem ic_last3 {s : Ch} {v : Value} (ok : Len3 s) : (icells s v)[98]? = some (.int .i64 s.last) := part_cell (.int .i64 s.bn :: (s.bh.map bv ++ (.int .i64 s.an :: (s.ah.map bv ++ s.hd.map bv)))) [v] (by simp [icells]) (by simp [ok.b, ok.a, ok.h])
theorem ic_len3 {s : Ch} {v : Value} (ok : Len3 s) : (icells s v).length = 100 := by simp [icells, ok.b, ok.a, ok.h]
def chA (s : Ch) (bh ah hd : List UInt8) (l : List Evt) : Ch := ⟨s.bn, bh, s.an, ah, hd, s.last, l⟩
/-- The chain while it is loaded: with fresh numbers, hashes, events. -/
abbrev cI (p : Nat) (s : Ch) (v : Value) : HP := pts p (.cells (icells s v).toArray 69 (0, 0))
theorem said_row {l : List RV} {s : Ch} (hs : l.map RV.said = rowsOf s) {i : Nat} {y : List UInt8 × List (List UInt8)} (hy : (rowsOf s)[i]? = some y) : ∃ x, l[i]? = some x ∧ x.said = y := by
  rw [← hs, List.getElem?_map, Option.map_eq_some_iff] at hy
  obtain ⟨x, h1, h2⟩ := hy
  exact ⟨x, h1, h2⟩
theorem Load_spec {u : Value} {l : List RV} {s : Ch} {m : Nat} (ok : Ok s m) (hm : m ≤ 1000000) (sm : Small s) (rn : Risen s) (hd : Dbt R) (hs : l.map RV.said = rowsOf s) (h : sat E w (osl 41 2 u l.length (rvs l) * (pers (colsP l) * R)))
    (k : ∀ p v w', sat E w' (chI p s v (osl 41 2 u l.length (rvs l) * (pers (colsP l) * R))) → K (.tuple #[.pointer (some ⟨p, 0, none⟩), .int .i64 0]) w') : Calls prog 13 #[u] w (Ret K) := by
  have hlen : l.length = 4 + s.l.length := by
    have := congrArg List.length hs
    simp [rowsOf, heads] at this
    omega
  have hfew := ok.few
  obtain ⟨x0, hx0, s0⟩ := said_row hs (i := 0) rfl
  obtain ⟨x1, hx1, s1⟩ := said_row hs (i := 1) rfl
  obtain ⟨x2, hx2, s2⟩ := said_row hs (i := 2) rfl
  obtain ⟨x3, hx3, s3⟩ := said_row hs (i := 3) rfl
  obtain ⟨k0, v0, c0⟩ := x0
  obtain ⟨k1, v1, c1⟩ := x1
  obtain ⟨k2, v2, c2⟩ := x2
  obtain ⟨k3, v3, c3⟩ := x3
  simp only [RV.said, Prod.mk.injEq] at s0 s1 s2 s3
  obtain ⟨rfl, rfl⟩ := s0
  obtain ⟨rfl, rfl⟩ := s1
  obtain ⟨rfl, rfl⟩ := s2
  obtain ⟨rfl, rfl⟩ := s3
  obtain ⟨ua, uc, rfl, huc, _, hpos⟩ := osl_shape h
  obtain ⟨ub, hub⟩ := hpos (by omega)
  subst hub
  have hcols := (h.perm (star_left_comm _ _ _)).pers_get
  refine c13 ?_
  unfold B13
  refine New_spec h fun p w h => ?_
  refine dr_sl h fun w h _ => ?_
  have e35 : (.string ⟨#[35]⟩ : Value) = tv [35] := rfl
  rw [e35]
  rw [o_len]
  simp only [decide_eq_false (show ¬ (l.length : Int) < 4 by omega), decide_eq_false (show ¬ (68 : Int) < (l.length : Int) by omega), ↓o_nil, ↓o_field, ↓o_add, ↓o_sub, ↓o_mul, ↓o_lss, ↓o_leq, ↓o_gtr, ↓o_geq, ↓o_not, ↓o_pick, ↓o_eqInt, ↓o_neInt, ↓o_eqBool, ↓o_neBool, ↓o_eqPtr, ↓o_nePtr, ↓o_eqPtr', ↓o_eqSl, ↓o_neSl, ↓o_eqStr, ↓o_neStr, ↓o_len, ↓o_lenS, ↓o_min, ↓o_max, ↓o_extract, ↓o_convInt, ↓cd_true, ↓cd_false, ↓gate_tt, ↓gate_ff, ↓gate_tf, ↓gate_ft, ↓gate_undef, ↓o_bind, ↓stay_v, ↓pop_cons, ↓fin_nil, Option.isNone_none, Option.isNone_some, Bool.not_true, Bool.not_false, Nat.zero_add, decide_true, decide_false, if_true, if_false, Bool.false_eq_true, ↓reduceIte]
  have hrl : ∀ {X : HP}, Rds (X * (osl 41 2 (.slice (some ⟨ub, 0, none⟩) l.length uc) l.length (rvs l) * (pers (colsP l) * R))) (.slice (some ⟨ub, 0, none⟩) l.length uc) l.length (rvs l) := fun {X} => Rds.osl.left.right
  have ix : ∀ (i : Nat) {w : World} {K : Value → World → Prop}, i < l.length → pvv prog (Instr.indexAt 37 (.slice (some ⟨ub, 0, none⟩) l.length uc) (.int .i64 (i : Int))) w K = K (.pointer (some ⟨ub, 0 + i * 2, none⟩)) w := fun i {w K} hi => by
    rw [o_index (by omega) (by omega), Int.toNat_natCast]
  have ix0 : ∀ {w : World} {K : Value → World → Prop}, pvv prog (Instr.indexAt 37 (.slice (some ⟨ub, 0, none⟩) l.length uc) (.int .i64 0)) w K = K (.pointer (some ⟨ub, 0, none⟩)) w := fun {w K} => ix 0 (by omega)
  simp only [ix0, ↓o_nil, ↓o_field, ↓o_add, ↓o_sub, ↓o_mul, ↓o_lss, ↓o_leq, ↓o_gtr, ↓o_geq, ↓o_not, ↓o_pick, ↓o_eqInt, ↓o_neInt, ↓o_eqBool, ↓o_neBool, ↓o_eqPtr, ↓o_nePtr, ↓o_eqPtr', ↓o_eqSl, ↓o_neSl, ↓o_eqStr, ↓o_neStr, ↓o_len, ↓o_lenS, ↓o_min, ↓o_max, ↓o_extract, ↓o_convInt, ↓cd_true, ↓cd_false, ↓gate_tt, ↓gate_ff, ↓gate_tf, ↓gate_ft, ↓gate_undef, ↓o_bind, ↓stay_v, ↓pop_cons, ↓fin_nil, Option.isNone_none, Option.isNone_some, Bool.not_true, Bool.not_false, Nat.zero_add, decide_true, decide_false, if_true, if_false, Bool.false_eq_true, ↓reduceIte]
  have hcell : ∀ {i f : Nat} {x : RV} {val : Value}, l[i]? = some x → (rvc x)[f]? = some val → (rvs l)[i * 2 + f]? = some val := fun hx hf => take_cell (rvs_at hx) hf
  have hcol : ∀ {i : Nat} {x : RV}, l[i]? = some x → Rds (pers (colsP l)) x.v x.cols.length (x.cols.map tv) := fun hx E w hs => (hs.whole).pers_get _ (List.mem_of_getElem? hx)
  refine ld_rd h Rds.osl.left.right.right (0 * 2 + 0) rfl (hcell hx0 rfl) ?_
  rw [o_neT, show (!decide (([35] : List UInt8) = [35])) = false from rfl]
  simp only [ix0, ↓o_nil, ↓o_field, ↓o_add, ↓o_sub, ↓o_mul, ↓o_lss, ↓o_leq, ↓o_gtr, ↓o_geq, ↓o_not, ↓o_pick, ↓o_eqInt, ↓o_neInt, ↓o_eqBool, ↓o_neBool, ↓o_eqPtr, ↓o_nePtr, ↓o_eqPtr', ↓o_eqSl, ↓o_neSl, ↓o_eqStr, ↓o_neStr, ↓o_len, ↓o_lenS, ↓o_min, ↓o_max, ↓o_extract, ↓o_convInt, ↓cd_true, ↓cd_false, ↓gate_tt, ↓gate_ff, ↓gate_tf, ↓gate_ft, ↓gate_undef, ↓o_bind, ↓stay_v, ↓pop_cons, ↓fin_nil, Option.isNone_none, Option.isNone_some, Bool.not_true, Bool.not_false, Nat.zero_add, decide_true, decide_false, if_true, if_false, Bool.false_eq_true, ↓reduceIte]
  refine ld_rd h Rds.osl.left.right.right (0 * 2 + 1) rfl (hcell hx0 rfl) ?_
  simp only [↓o_nil, ↓o_field, ↓o_add, ↓o_sub, ↓o_mul, ↓o_lss, ↓o_leq, ↓o_gtr, ↓o_geq, ↓o_not, ↓o_pick, ↓o_eqInt, ↓o_neInt, ↓o_eqBool, ↓o_neBool, ↓o_eqPtr, ↓o_nePtr, ↓o_eqPtr', ↓o_eqSl, ↓o_neSl, ↓o_eqStr, ↓o_neStr, ↓o_len, ↓o_lenS, ↓o_min, ↓o_max, ↓o_extract, ↓o_convInt, ↓cd_true, ↓cd_false, ↓gate_tt, ↓gate_ff, ↓gate_tf, ↓gate_ft, ↓gate_undef, ↓o_bind, ↓stay_v, ↓pop_cons, ↓fin_nil, Option.isNone_none, Option.isNone_some, Bool.not_true, Bool.not_false, Nat.zero_add, decide_true, decide_false, if_true, if_false, Bool.false_eq_true, ↓reduceIte]
  refine buildSlice_sl (e := 92) (cs := #[.pointer (some ⟨p, 0, none⟩), .pointer (some ⟨p, 33, none⟩), .pointer (some ⟨p, 98, none⟩)]) h (fun w => by kernel_rfl) fun b5 w h => ?_
  try simp only [↓o_nil, ↓o_field, ↓o_add, ↓o_sub, ↓o_mul, ↓o_lss, ↓o_leq, ↓o_gtr, ↓o_geq, ↓o_not, ↓o_pick, ↓o_eqInt, ↓o_neInt, ↓o_eqBool, ↓o_neBool, ↓o_eqPtr, ↓o_nePtr, ↓o_eqPtr', ↓o_eqSl, ↓o_neSl, ↓o_eqStr, ↓o_neStr, ↓o_len, ↓o_lenS, ↓o_min, ↓o_max, ↓o_extract, ↓o_convInt, ↓cd_true, ↓cd_false, ↓gate_tt, ↓gate_ff, ↓gate_tf, ↓gate_ft, ↓gate_undef, ↓o_bind, ↓stay_v, ↓pop_cons, ↓fin_nil, Option.isNone_none, Option.isNone_some, Bool.not_true, Bool.not_false, Nat.zero_add, decide_true, decide_false, if_true, if_false, Bool.false_eq_true, ↓reduceIte]
  have hb0 := ok.b0
  have ha0 := ok.a0
  have hle := ok.le
  have htop := ok.top
  have hl0 := sm.l0
  have hl1 := sm.l1
  have stk : ∀ {w : World} {X : HP} {g : Gd} {A : Prop}, sat E w (X * (osl 41 2 (.slice (some ⟨ub, 0, none⟩) l.length uc) l.length (rvs l) * (pers (colsP l) * R))) → A → stv prog g (Instr.loadAt 9 (.pointer (some ⟨ub, 0, none⟩))) (tv [35]) w A := fun h a => st_rd h Rds.osl.left.right (0 * 2 + 0) rfl (hcell hx0 rfl) a
  have h : sat E w ((pts b5 (.cells #[.pointer (some ⟨p, 0, none⟩), .pointer (some ⟨p, 33, none⟩), .pointer (some ⟨p, 98, none⟩)] 92 (0, 0)) * (cI p newS (.slice none 0 0) * pers (immS (.slice none 0 0) newS.l.length (evs newS.l)))) * (osl 41 2 (.slice (some ⟨ub, 0, none⟩) l.length uc) l.length (rvs l) * (pers (colsP l) * R))) := h.perm (by unfold chI cI; ac_rfl)
  refine st_rd h Rds.osl.left.right (0 * 2 + 1) rfl (hcell hx0 rfl) (stk h ?_)
  have hN : [numT s.bn, numT s.an, numT s.last].map tv = [s.bn.toNat, s.an.toNat, s.last.toNat].map fun n => tv (numText n) := by
    simp only [List.map_cons, List.map_nil]
    rw [numT_nat (n := s.bn) (by omega) (by omega), numT_nat (n := s.an) (by omega) (by omega), numT_nat (n := s.last) (by omega) (by omega)]
  have hr0 := hcol hx0
  rw [hN] at hr0
  have ok1 : Ok { newS with bn := s.bn } 0 ∨ True := .inr trivial
  let Gs : Nat → Ch := fun i => match i with
    | 0 => newS
    | 1 => { newS with bn := s.bn }
    | 2 => { newS with bn := s.bn, an := s.an }
    | _ => { newS with bn := s.bn, an := s.an, last := s.last }
  have h : sat E w (cI p (Gs 0) (.slice none 0 0) * (pts b5 (.cells #[.pointer (some ⟨p, 0, none⟩), .pointer (some ⟨p, 33, none⟩), .pointer (some ⟨p, 98, none⟩)] 92 (0, 0)) * (pers (immS (.slice none 0 0) newS.l.length (evs newS.l)) * (osl 41 2 (.slice (some ⟨ub, 0, none⟩) l.length uc) l.length (rvs l) * (pers (colsP l) * R))))) := h.perm (by unfold cI; ac_rfl)
  refine read_spec (fun i => cI p (Gs i) (.slice none 0 0)) (ns := [s.bn.toNat, s.an.toNat, s.last.toNat]) (ps := [⟨p, 0, none⟩, ⟨p, 33, none⟩, ⟨p, 98, none⟩]) (by simp) ?_ rfl h (hr0.left.right.right.right) ?_ ?_ fun w h => ?_
  · intro n hn
    simp at hn
    omega
  · exact rds_row (b := b5) (e := 92) (xs := [Value.pointer (some ⟨p, 0, none⟩), .pointer (some ⟨p, 33, none⟩), .pointer (some ⟨p, 98, none⟩)]) (sp := []) (fr := (0, 0)) (Nat.le_refl _)
  · intro i n a w K' hn ha h hk
    have nat : ∀ {z : Int}, 0 ≤ z → ((z.toNat : Nat) : Int) = z := fun h => Int.toNat_of_nonneg h
    match i, hn, ha with
    | 0, hn, ha =>
      simp only [List.getElem?_cons_zero, Option.some.injEq] at hn ha
      subst hn ha
      rw [nat hb0]
      exact store_sl (b := p) h rfl (by simp [icells]) fun w h => hk w h
    | 1, hn, ha =>
      simp only [List.getElem?_cons_succ, List.getElem?_cons_zero, Option.some.injEq] at hn ha
      subst hn ha
      rw [nat ha0]
      refine store_sl (b := p) h rfl (by simp [Gs, icells, newS, zeros32]) fun w h => hk w ?_
      rw [ip_an3 (s := Gs 1) ⟨rfl, rfl, rfl⟩] at h
      exact h
    | 2, hn, ha =>
      simp only [List.getElem?_cons_succ, List.getElem?_cons_zero, Option.some.injEq] at hn ha
      subst hn ha
      rw [nat hl0]
      refine store_sl (b := p) h rfl (by simp [Gs, icells, newS, zeros32]) fun w h => hk w ?_
      rw [ip_last3 (s := Gs 2) ⟨rfl, rfl, rfl⟩] at h
      exact h
    | i + 3, hn, ha => simp at hn
  refine stk ((h.perm (show _ = (cI p (Gs 3) (.slice none 0 0) * (pts b5 (.cells #[.pointer (some ⟨p, 0, none⟩), .pointer (some ⟨p, 33, none⟩), .pointer (some ⟨p, 98, none⟩)] 92 (0, 0)) * pers (immS (.slice none 0 0) newS.l.length (evs newS.l)))) * (osl 41 2 (.slice (some ⟨ub, 0, none⟩) l.length uc) l.length (rvs l) * (pers (colsP l) * R)) by ac_rfl))) ?_
  rw [o_not, Bool.not_true, cd_false]
  have h : sat E w (cI p (chA s zeros32 zeros32 zeros32 []) (.slice none 0 0) * (pts b5 (.cells #[.pointer (some ⟨p, 0, none⟩), .pointer (some ⟨p, 33, none⟩), .pointer (some ⟨p, 98, none⟩)] 92 (0, 0)) * (pers (immS (.slice none 0 0) newS.l.length (evs newS.l)) * (osl 41 2 (.slice (some ⟨ub, 0, none⟩) l.length uc) l.length (rvs l) * (pers (colsP l) * R))))) := h
  have h := h.lose b5
  clear hr0 hN ok1
  have L3 : Len3 (chA s zeros32 zeros32 zeros32 []) := ⟨rfl, rfl, rfl⟩
  have max3 : ∀ {a b c : Int} {w : World} {K : Value → World → Prop}, K (.int .i64 (max (max a b) c)) w → pv prog (oBi .max #[3, 3, 3] 3 #[false, false, false] #[.int .i64 a, .int .i64 b, .int .i64 c]) w K := by
    intro a b c w K hk
    rw [pv_eq (v := .int .i64 (max (max a b) c)) (fun w => ?_)]
    · exact hk
    · have : (Builtin.max_ #[3, 3, 3] 3 #[.int .i64 a, .int .i64 b, .int .i64 c]).run prog w = .ok (.int .i64 (if c > (if b > a then b else a) then c else (if b > a then b else a))) w := by
        simp [Builtin.max_, Builtin.max2]
      simp only [oBi, builtin, Sem.run_bind, this, Result.andThen_ok, Sem.run_pure]
      congr 3
      omega
  refine dr_sl h fun w h _ => ?_
  refine ld_in (b := p) (v := .int .i64 s.bn) h rfl ?_
  refine ld_in (b := p) (v := .int .i64 s.an) h (ic_an3 (s := chA s zeros32 zeros32 zeros32 []) L3) ?_
  refine ld_in (b := p) (v := .int .i64 s.last) h (ic_last3 (s := chA s zeros32 zeros32 zeros32 []) L3) ?_
  refine max3 ?_
  simp only [decide_eq_true (show max (max s.bn s.an) s.last ≤ 1099511627776 by omega), ↓o_nil, ↓o_field, ↓o_add, ↓o_sub, ↓o_mul, ↓o_lss, ↓o_leq, ↓o_gtr, ↓o_geq, ↓o_not, ↓o_pick, ↓o_eqInt, ↓o_neInt, ↓o_eqBool, ↓o_neBool, ↓o_eqPtr, ↓o_nePtr, ↓o_eqPtr', ↓o_eqSl, ↓o_neSl, ↓o_eqStr, ↓o_neStr, ↓o_len, ↓o_lenS, ↓o_min, ↓o_max, ↓o_extract, ↓o_convInt, ↓cd_true, ↓cd_false, ↓gate_tt, ↓gate_ff, ↓gate_tf, ↓gate_ft, ↓gate_undef, ↓o_bind, ↓stay_v, ↓pop_cons, ↓fin_nil, Option.isNone_none, Option.isNone_some, Bool.not_true, Bool.not_false, Nat.zero_add, decide_true, decide_false, if_true, if_false, Bool.false_eq_true, ↓reduceIte]
  refine ld_in (b := p) (v := .int .i64 s.an) h (ic_an3 (s := chA s zeros32 zeros32 zeros32 []) L3) ?_
  try simp only [↓o_nil, ↓o_field, ↓o_add, ↓o_sub, ↓o_mul, ↓o_lss, ↓o_leq, ↓o_gtr, ↓o_geq, ↓o_not, ↓o_pick, ↓o_eqInt, ↓o_neInt, ↓o_eqBool, ↓o_neBool, ↓o_eqPtr, ↓o_nePtr, ↓o_eqPtr', ↓o_eqSl, ↓o_neSl, ↓o_eqStr, ↓o_neStr, ↓o_len, ↓o_lenS, ↓o_min, ↓o_max, ↓o_extract, ↓o_convInt, ↓cd_true, ↓cd_false, ↓gate_tt, ↓gate_ff, ↓gate_tf, ↓gate_ft, ↓gate_undef, ↓o_bind, ↓stay_v, ↓pop_cons, ↓fin_nil, Option.isNone_none, Option.isNone_some, Bool.not_true, Bool.not_false, Nat.zero_add, decide_true, decide_false, if_true, if_false, Bool.false_eq_true, ↓reduceIte]
  refine ld_in (b := p) (v := .int .i64 s.bn) h rfl ?_
  rw [o_add, i64_of (by omega) (by omega), o_sub, i64_of (by omega) (by omega), o_leq, decide_eq_true (show s.an ≤ s.bn + (l.length : Int) - 4 by omega)]
  refine dr_sl h fun w h _ => ?_
  have e97 : (.string ⟨#[97]⟩ : Value) = tv [97] := rfl
  have e98 : (.string ⟨#[98]⟩ : Value) = tv [98] := rfl
  have e104 : (.string ⟨#[104]⟩ : Value) = tv [104] := rfl
  rw [e97, e98, e104]
  have ix1 : ∀ {w : World} {K : Value → World → Prop}, pvv prog (Instr.indexAt 37 (.slice (some ⟨ub, 0, none⟩) l.length uc) (.int .i64 1)) w K = K (.pointer (some ⟨ub, 2, none⟩)) w := fun {w K} => ix 1 (by omega)
  have ix2 : ∀ {w : World} {K : Value → World → Prop}, pvv prog (Instr.indexAt 37 (.slice (some ⟨ub, 0, none⟩) l.length uc) (.int .i64 2)) w K = K (.pointer (some ⟨ub, 4, none⟩)) w := fun {w K} => ix 2 (by omega)
  have ix3 : ∀ {w : World} {K : Value → World → Prop}, pvv prog (Instr.indexAt 37 (.slice (some ⟨ub, 0, none⟩) l.length uc) (.int .i64 3)) w K = K (.pointer (some ⟨ub, 6, none⟩)) w := fun {w K} => ix 3 (by omega)
  simp only [ix1, ↓o_nil, ↓o_field, ↓o_add, ↓o_sub, ↓o_mul, ↓o_lss, ↓o_leq, ↓o_gtr, ↓o_geq, ↓o_not, ↓o_pick, ↓o_eqInt, ↓o_neInt, ↓o_eqBool, ↓o_neBool, ↓o_eqPtr, ↓o_nePtr, ↓o_eqPtr', ↓o_eqSl, ↓o_neSl, ↓o_eqStr, ↓o_neStr, ↓o_len, ↓o_lenS, ↓o_min, ↓o_max, ↓o_extract, ↓o_convInt, ↓cd_true, ↓cd_false, ↓gate_tt, ↓gate_ff, ↓gate_tf, ↓gate_ft, ↓gate_undef, ↓o_bind, ↓stay_v, ↓pop_cons, ↓fin_nil, Option.isNone_none, Option.isNone_some, Bool.not_true, Bool.not_false, Nat.zero_add, decide_true, decide_false, if_true, if_false, Bool.false_eq_true, ↓reduceIte]
  refine ld_el h Rds.osl.left.right.right (1 * 2) rfl (rvc ⟨[97], v1, [s.ah]⟩) rfl (rvs_at hx1) ?_
  refine take_spec (b := p) ok.a h ((hcol hx1).left.right.right) (by rw [ic_len3 L3]; decide) fun w h => ?_
  rw [ip_ah3 (s := chA s zeros32 zeros32 zeros32 []) L3 ok.a] at h
  have h : sat E w (cI p (chA s zeros32 s.ah zeros32 []) (.slice none 0 0) * (pers (immS (.slice none 0 0) newS.l.length (evs newS.l)) * (osl 41 2 (.slice (some ⟨ub, 0, none⟩) l.length uc) l.length (rvs l) * (pers (colsP l) * R)))) := h
  have L3 : Len3 (chA s zeros32 s.ah zeros32 []) := ⟨rfl, ok.a, rfl⟩
  simp only [ix2, ↓o_nil, ↓o_field, ↓o_add, ↓o_sub, ↓o_mul, ↓o_lss, ↓o_leq, ↓o_gtr, ↓o_geq, ↓o_not, ↓o_pick, ↓o_eqInt, ↓o_neInt, ↓o_eqBool, ↓o_neBool, ↓o_eqPtr, ↓o_nePtr, ↓o_eqPtr', ↓o_eqSl, ↓o_neSl, ↓o_eqStr, ↓o_neStr, ↓o_len, ↓o_lenS, ↓o_min, ↓o_max, ↓o_extract, ↓o_convInt, ↓cd_true, ↓cd_false, ↓gate_tt, ↓gate_ff, ↓gate_tf, ↓gate_ft, ↓gate_undef, ↓o_bind, ↓stay_v, ↓pop_cons, ↓fin_nil, Option.isNone_none, Option.isNone_some, Bool.not_true, Bool.not_false, Nat.zero_add, decide_true, decide_false, if_true, if_false, Bool.false_eq_true, ↓reduceIte]
  refine ld_el h Rds.osl.left.right.right (2 * 2) rfl (rvc ⟨[98], v2, [s.bh]⟩) rfl (rvs_at hx2) ?_
  refine take_spec (b := p) ok.b h ((hcol hx2).left.right.right) (by rw [ic_len3 L3]; decide) fun w h => ?_
  rw [ip_bh3 (s := chA s zeros32 s.ah zeros32 []) L3 ok.b] at h
  have h : sat E w (cI p (chA s s.bh s.ah zeros32 []) (.slice none 0 0) * (pers (immS (.slice none 0 0) newS.l.length (evs newS.l)) * (osl 41 2 (.slice (some ⟨ub, 0, none⟩) l.length uc) l.length (rvs l) * (pers (colsP l) * R)))) := h
  have L3 : Len3 (chA s s.bh s.ah zeros32 []) := ⟨ok.b, ok.a, rfl⟩
  refine st_el h Rds.osl.left.right.right (1 * 2) rfl (rvc ⟨[97], v1, [s.ah]⟩) rfl (rvs_at hx1) ?_
  simp only [ix3, ↓o_nil, ↓o_field, ↓o_add, ↓o_sub, ↓o_mul, ↓o_lss, ↓o_leq, ↓o_gtr, ↓o_geq, ↓o_not, ↓o_pick, ↓o_eqInt, ↓o_neInt, ↓o_eqBool, ↓o_neBool, ↓o_eqPtr, ↓o_nePtr, ↓o_eqPtr', ↓o_eqSl, ↓o_neSl, ↓o_eqStr, ↓o_neStr, ↓o_len, ↓o_lenS, ↓o_min, ↓o_max, ↓o_extract, ↓o_convInt, ↓cd_true, ↓cd_false, ↓gate_tt, ↓gate_ff, ↓gate_tf, ↓gate_ft, ↓gate_undef, ↓o_bind, ↓stay_v, ↓pop_cons, ↓fin_nil, Option.isNone_none, Option.isNone_some, Bool.not_true, Bool.not_false, Nat.zero_add, decide_true, decide_false, if_true, if_false, Bool.false_eq_true, ↓reduceIte]
  refine ld_el h Rds.osl.left.right.right (3 * 2) rfl (rvc ⟨[104], v3, [s.hd]⟩) rfl (rvs_at hx3) ?_
  refine take_spec (b := p) ok.h h ((hcol hx3).left.right.right) (by rw [ic_len3 L3]; decide) fun w h => ?_
  rw [ip_hd3 (s := chA s s.bh s.ah zeros32 []) L3 ok.h] at h
  have h : sat E w (cI p (chA s s.bh s.ah s.hd []) (.slice none 0 0) * (pers (immS (.slice none 0 0) newS.l.length (evs newS.l)) * (osl 41 2 (.slice (some ⟨ub, 0, none⟩) l.length uc) l.length (rvs l) * (pers (colsP l) * R)))) := h
  have L3 : Len3 (chA s s.bh s.ah s.hd []) := ⟨ok.b, ok.a, ok.h⟩
  refine st_el h Rds.osl.left.right.right (2 * 2) rfl (rvc ⟨[98], v2, [s.bh]⟩) rfl (rvs_at hx2) ?_
  refine st_el h Rds.osl.left.right.right (1 * 2) rfl (rvc ⟨[97], v1, [s.ah]⟩) rfl (rvs_at hx1) ?_
  rw [o_not, Bool.not_true, cd_false, o_slice_l (by decide) (by omega)]
  have hcut : 0 < s.l.length → cutA (some ⟨ub, 0, none⟩) uc (4 : Int).toNat 2 = some ⟨ub, 8, none⟩ := by
    intro h
    unfold cutA
    rw [if_neg (by show ¬ uc = 4; omega)]
    rfl
  generalize cutA (some ⟨ub, 0, none⟩) uc (4 : Int).toNat 2 = ca at hcut
  rw [show l.length - (4 : Int).toNat = s.l.length by show l.length - 4 = _; omega, o_len]
  have hdI : ∀ {X : HP}, Dbt (X * (osl 41 2 (.slice (some ⟨ub, 0, none⟩) l.length uc) l.length (rvs l) * (pers (colsP l) * R))) := fun {X} => hd.right.right.right
  refine lp_nat (fun r σ w => ∃ (i : Nat) (before : Int) (v : Value), σ = [.int .i64 before, .int .i64 (i : Int)] ∧ r = s.l.length - i ∧ i ≤ s.l.length ∧ (∀ x, s.l[i]? = some x → before ≤ x.t) ∧
      sat E w (osl 31 4 v i (evs (s.l.take i)) * (cI p (chA s s.bh s.ah s.hd (s.l.take i)) v * (osl 41 2 (.slice (some ⟨ub, 0, none⟩) l.length uc) l.length (rvs l) * (pers (colsP l) * R))))) s.l.length
    ⟨0, 0, .slice none 0 0, rfl, by omega, by omega, fun x hx => (sm.ev x (List.mem_of_getElem? hx)).1, ?_⟩ ?_
  · have h := h.perm (show _ = pers (immS (.slice none 0 0) newS.l.length (evs newS.l)) * (cI p (chA s s.bh s.ah s.hd []) (.slice none 0 0) * (osl 41 2 (.slice (some ⟨ub, 0, none⟩) l.length uc) l.length (rvs l) * (pers (colsP l) * R))) by ac_rfl)
    exact osl_nil h.drop 31 4
  clear h L3
  rintro r σ w again ⟨i, before, v, rfl, rfl, hi, hbf, h⟩ hag
  rw [pop_cons, pop_cons, fin_nil, o_lss]
  refine cd_dec (fun hlt => ?_) (fun hge => ?_)
  · have hi1 : i < s.l.length := by omega
    have hx : s.l[i]? = some s.l[i] := List.getElem?_eq_getElem hi1
    have hmx : s.l[i] ∈ s.l := List.getElem_mem hi1
    have htk : s.l.take (i + 1) = s.l.take i ++ [s.l[i]] := List.take_succ_eq_append_getElem hi1
    generalize s.l[i] = x at hx hmx htk
    rw [hcut (by omega), o_index (by omega) (by omega), Int.toNat_natCast]
    obtain ⟨y, hy, ys⟩ := said_row hs (i := i + 4) (y := evRow x) (by
      unfold rowsOf
      rw [List.getElem?_append_right (by simp [heads]), show i + 4 - (heads s).length = i by simp [heads], List.getElem?_map, hx]
      rfl)
    obtain ⟨ky, vy, cy⟩ := y
    simp only [RV.said, evRow, Prod.mk.injEq] at ys
    obtain ⟨rfl, rfl⟩ := ys
    obtain ⟨hxn, hxt⟩ := rn.num i x hx
    obtain ⟨sx1, sx2, sx3⟩ := sm.ev x hmx
    refine ld_el h Rds.osl.left.right.right ((i + 4) * 2) (by omega) (rvc ⟨110 :: numT x.n, vy, [numT x.t, x.what, x.who]⟩) rfl (rvs_at hy) ?_
    have hx0n : 0 ≤ x.n := by omega
    have hyr : Rds (pers (colsP l)) vy 3 [tv (numT x.t), tv x.what, tv x.who] := hcol hy
    obtain ⟨yb, yo, yc, rfl, hyc, hyv⟩ := (hyr.left.right.right.right).opened h (by simp)
    refine alloc_sl h fun rb w h => ?_
    have h : sat E w (pts rb (.cells [Value.string ⟨#[]⟩, .slice none 0 0].toArray 41 (0, 0)) * (osl 31 4 v i (evs (s.l.take i)) * (cI p (chA s s.bh s.ah s.hd (s.l.take i)) v * (osl 41 2 (.slice (some ⟨ub, 0, none⟩) l.length uc) l.length (rvs l) * (pers (colsP l) * R))))) := h
    refine store_all (b := rb) h (xs := [Value.string ⟨#[]⟩, .slice none 0 0]) (vs := rvc ⟨110 :: numT x.n, .slice (some ⟨yb, yo, none⟩) 3 yc, [numT x.t, x.what, x.who]⟩) rfl rfl (by intro z hz; simp [rvc] at hz; rcases hz with rfl | rfl <;> rfl) fun w h => ?_
    refine ld_in (b := p) (v := .int .i64 s.bn) h rfl ?_
    rw [o_add, i64_of (by omega) (by omega), o_add, i64_of (by omega) (by omega), ← hxn]
    refine pvv_of (v := ev ⟨x.n, 0, [], []⟩) (fun w => by kernel_rfl) ?_
    refine evt_in h fun xb w h => ?_
    refine dr_sl h fun w h _ => ?_
    simp only [↓o_nil, ↓o_field, ↓o_add, ↓o_sub, ↓o_mul, ↓o_lss, ↓o_leq, ↓o_gtr, ↓o_geq, ↓o_not, ↓o_pick, ↓o_eqInt, ↓o_neInt, ↓o_eqBool, ↓o_neBool, ↓o_eqPtr, ↓o_nePtr, ↓o_eqPtr', ↓o_eqSl, ↓o_neSl, ↓o_eqStr, ↓o_neStr, ↓o_len, ↓o_lenS, ↓o_min, ↓o_max, ↓o_extract, ↓o_convInt, ↓cd_true, ↓cd_false, ↓gate_tt, ↓gate_ff, ↓gate_tf, ↓gate_ft, ↓gate_undef, ↓o_bind, ↓stay_v, ↓pop_cons, ↓fin_nil, Option.isNone_none, Option.isNone_some, Bool.not_true, Bool.not_false, Nat.zero_add, decide_true, decide_false, if_true, if_false, Bool.false_eq_true, ↓reduceIte]
    refine ld_in (b := rb) (v := tv (110 :: numT x.n)) h rfl ?_
    refine ld_in (b := xb) (v := .int .i64 x.n) h rfl ?_
    refine num_spec h (hd.right.right.right.right.right.right) fun w h => ?_
    refine st_in (b := rb) (v := tv (110 :: numT x.n)) h rfl ?_
    have hnl := numT_length x.n
    rw [show (.string ⟨#[110]⟩ : Value) = tv [110] from rfl, o_catT (by simp; omega), o_neT, show (!decide (110 :: numT x.n = [110] ++ numT x.n)) = false by simp]
    try simp only [↓o_nil, ↓o_field, ↓o_add, ↓o_sub, ↓o_mul, ↓o_lss, ↓o_leq, ↓o_gtr, ↓o_geq, ↓o_not, ↓o_pick, ↓o_eqInt, ↓o_neInt, ↓o_eqBool, ↓o_neBool, ↓o_eqPtr, ↓o_nePtr, ↓o_eqPtr', ↓o_eqSl, ↓o_neSl, ↓o_eqStr, ↓o_neStr, ↓o_len, ↓o_lenS, ↓o_min, ↓o_max, ↓o_extract, ↓o_convInt, ↓cd_true, ↓cd_false, ↓gate_tt, ↓gate_ff, ↓gate_tf, ↓gate_ft, ↓gate_undef, ↓o_bind, ↓stay_v, ↓pop_cons, ↓fin_nil, Option.isNone_none, Option.isNone_some, Bool.not_true, Bool.not_false, Nat.zero_add, decide_true, decide_false, if_true, if_false, Bool.false_eq_true, ↓reduceIte]
    refine ld_in (b := rb) (v := .slice (some ⟨yb, yo, none⟩) 3 yc) h rfl ?_
    simp only [show decide (((3 : Nat) : Int) = 3) = true from rfl, ↓o_nil, ↓o_field, ↓o_add, ↓o_sub, ↓o_mul, ↓o_lss, ↓o_leq, ↓o_gtr, ↓o_geq, ↓o_not, ↓o_pick, ↓o_eqInt, ↓o_neInt, ↓o_eqBool, ↓o_neBool, ↓o_eqPtr, ↓o_nePtr, ↓o_eqPtr', ↓o_eqSl, ↓o_neSl, ↓o_eqStr, ↓o_neStr, ↓o_len, ↓o_lenS, ↓o_min, ↓o_max, ↓o_extract, ↓o_convInt, ↓cd_true, ↓cd_false, ↓gate_tt, ↓gate_ff, ↓gate_tf, ↓gate_ft, ↓gate_undef, ↓o_bind, ↓stay_v, ↓pop_cons, ↓fin_nil, Option.isNone_none, Option.isNone_some, Bool.not_true, Bool.not_false, Nat.zero_add, decide_true, decide_false, if_true, if_false, Bool.false_eq_true, ↓reduceIte]
    refine ld_in (b := rb) (v := .slice (some ⟨yb, yo, none⟩) 3 yc) h rfl ?_
    try simp only [↓o_nil, ↓o_field, ↓o_add, ↓o_sub, ↓o_mul, ↓o_lss, ↓o_leq, ↓o_gtr, ↓o_geq, ↓o_not, ↓o_pick, ↓o_eqInt, ↓o_neInt, ↓o_eqBool, ↓o_neBool, ↓o_eqPtr, ↓o_nePtr, ↓o_eqPtr', ↓o_eqSl, ↓o_neSl, ↓o_eqStr, ↓o_neStr, ↓o_len, ↓o_lenS, ↓o_min, ↓o_max, ↓o_extract, ↓o_convInt, ↓cd_true, ↓cd_false, ↓gate_tt, ↓gate_ff, ↓gate_tf, ↓gate_ft, ↓gate_undef, ↓o_bind, ↓stay_v, ↓pop_cons, ↓fin_nil, Option.isNone_none, Option.isNone_some, Bool.not_true, Bool.not_false, Nat.zero_add, decide_true, decide_false, if_true, if_false, Bool.false_eq_true, ↓reduceIte]
    rw [o_slice_h (by decide) (by omega)]
    try simp only [↓o_nil, ↓o_field, ↓o_add, ↓o_sub, ↓o_mul, ↓o_lss, ↓o_leq, ↓o_gtr, ↓o_geq, ↓o_not, ↓o_pick, ↓o_eqInt, ↓o_neInt, ↓o_eqBool, ↓o_neBool, ↓o_eqPtr, ↓o_nePtr, ↓o_eqPtr', ↓o_eqSl, ↓o_neSl, ↓o_eqStr, ↓o_neStr, ↓o_len, ↓o_lenS, ↓o_min, ↓o_max, ↓o_extract, ↓o_convInt, ↓cd_true, ↓cd_false, ↓gate_tt, ↓gate_ff, ↓gate_tf, ↓gate_ft, ↓gate_undef, ↓o_bind, ↓stay_v, ↓pop_cons, ↓fin_nil, Option.isNone_none, Option.isNone_some, Bool.not_true, Bool.not_false, Nat.zero_add, decide_true, decide_false, if_true, if_false, Bool.false_eq_true, ↓reduceIte]
    refine buildSlice_sl (e := 92) (cs := #[.pointer (some ⟨xb, 1, none⟩)]) h (fun w => by kernel_rfl) fun b6 w h => ?_
    have ecut : cutA (some ⟨yb, yo, none⟩) yc 0 1 = some ⟨yb, yo, none⟩ := by
      unfold cutA
      rw [if_neg (by omega)]
      show some ((⟨yb, yo, none⟩ : Addr).add 0) = _
      rw [add_addr]
      rfl
    rw [ecut, show (1 : Int).toNat = 1 from rfl]
    refine st_in (b := rb) (v := .slice (some ⟨yb, yo, none⟩) 3 yc) h rfl ?_
    refine st_in (b := rb) (v := .slice (some ⟨yb, yo, none⟩) 3 yc) h rfl ?_
    refine st_in (b := xb) (v := .int .i64 x.n) h rfl ?_
    refine st_in (b := rb) (v := tv (110 :: numT x.n)) h rfl ?_
    let G : Nat → HP := fun j => match j with
      | 0 => pts xb (.cells (ecells ⟨x.n, 0, [], []⟩).toArray 31 (0, 0))
      | _ => pts xb (.cells (ecells ⟨x.n, x.t, [], []⟩).toArray 31 (0, 0))
    have h : sat E w (pts xb (.cells (ecells ⟨x.n, 0, [], []⟩).toArray 31 (0, 0)) * (pts b6 (.cells #[.pointer (some ⟨xb, 1, none⟩)] 92 (0, 0)) * (pts rb (.cells (rvc ⟨110 :: numT x.n, .slice (some ⟨yb, yo, none⟩) 3 yc, [numT x.t, x.what, x.who]⟩).toArray 41 (0, 0)) * (osl 31 4 v i (evs (s.l.take i)) * (cI p (chA s s.bh s.ah s.hd (s.l.take i)) v * (osl 41 2 (.slice (some ⟨ub, 0, none⟩) l.length uc) l.length (rvs l) * (pers (colsP l) * R))))))) := h.perm (by ac_rfl)
    have hxt1 : x.t ≤ 1099511627776 := by omega
    have hone : Rds (pts b6 (.cells #[.pointer (some ⟨xb, 1, none⟩)] 92 (0, 0)) * (pts rb (.cells (rvc ⟨110 :: numT x.n, .slice (some ⟨yb, yo, none⟩) 3 yc, [numT x.t, x.what, x.who]⟩).toArray 41 (0, 0)) * (osl 31 4 v i (evs (s.l.take i)) * (cI p (chA s s.bh s.ah s.hd (s.l.take i)) v * (osl 41 2 (.slice (some ⟨ub, 0, none⟩) l.length uc) l.length (rvs l) * (pers (colsP l) * R)))))) (.slice (some ⟨yb, yo, none⟩) 1 yc) 1 ([x.t.toNat].map fun n => tv (numText n)) := by
      intro E w hs
      have hx3 : Rds (pts b6 (.cells #[.pointer (some ⟨xb, 1, none⟩)] 92 (0, 0)) * (pts rb (.cells (rvc ⟨110 :: numT x.n, .slice (some ⟨yb, yo, none⟩) 3 yc, [numT x.t, x.what, x.who]⟩).toArray 41 (0, 0)) * (osl 31 4 v i (evs (s.l.take i)) * (cI p (chA s s.bh s.ah s.hd (s.l.take i)) v * (osl 41 2 (.slice (some ⟨ub, 0, none⟩) l.length uc) l.length (rvs l) * (pers (colsP l) * R)))))) (.slice (some ⟨yb, yo, none⟩) 3 yc) 3 [tv (numT x.t), tv x.what, tv x.who] := hyr.left.right.right.right.right.right
      have h4 := RdS.cut (hx3 E w hs) (lo := 0) (hi := 1) rfl (by decide) (by decide)
      rw [ecut] at h4
      rw [List.map_cons, List.map_nil, ← numT_nat sx1 (by omega)]
      exact h4
    refine read_spec G (ns := [x.t.toNat]) (ps := [⟨xb, 1, none⟩]) (by simp) (by intro n hn; simp at hn; omega) rfl h hone (rds_row (b := b6) (e := 92) (xs := [Value.pointer (some ⟨xb, 1, none⟩)]) (sp := []) (fr := (0, 0)) (Nat.le_refl _)) ?_ fun w h => ?_
    · intro j n a w K' hn ha h hk
      match j, hn, ha with
      | 0, hn, ha =>
        simp only [List.getElem?_cons_zero, Option.some.injEq] at hn ha
        subst hn ha
        rw [Int.toNat_of_nonneg sx1]
        have h : sat E w (pts xb (.cells (ecells ⟨x.n, 0, [], []⟩).toArray 31 (0, 0)) * (pts b6 (.cells #[.pointer (some ⟨xb, 1, none⟩)] 92 (0, 0)) * (pts rb (.cells (rvc ⟨110 :: numT x.n, .slice (some ⟨yb, yo, none⟩) 3 yc, [numT x.t, x.what, x.who]⟩).toArray 41 (0, 0)) * (osl 31 4 v i (evs (s.l.take i)) * (cI p (chA s s.bh s.ah s.hd (s.l.take i)) v * (osl 41 2 (.slice (some ⟨ub, 0, none⟩) l.length uc) l.length (rvs l) * (pers (colsP l) * R))))))) := h
        exact store_sl (b := xb) h rfl (by simp [ecells]) fun w h => hk w h
      | j + 1, hn, ha => simp at hn
    have h : sat E w (pts xb (.cells (ecells ⟨x.n, x.t, [], []⟩).toArray 31 (0, 0)) * (pts b6 (.cells #[.pointer (some ⟨xb, 1, none⟩)] 92 (0, 0)) * (pts rb (.cells (rvc ⟨110 :: numT x.n, .slice (some ⟨yb, yo, none⟩) 3 yc, [numT x.t, x.what, x.who]⟩).toArray 41 (0, 0)) * (osl 31 4 v i (evs (s.l.take i)) * (cI p (chA s s.bh s.ah s.hd (s.l.take i)) v * (osl 41 2 (.slice (some ⟨ub, 0, none⟩) l.length uc) l.length (rvs l) * (pers (colsP l) * R))))))) := h
    refine st_in (b := rb) (v := .slice (some ⟨yb, yo, none⟩) 3 yc) h rfl ?_
    refine st_in (b := rb) (v := .slice (some ⟨yb, yo, none⟩) 3 yc) h rfl ?_
    refine st_in (b := xb) (v := .int .i64 x.n) h rfl ?_
    refine st_in (b := rb) (v := tv (110 :: numT x.n)) h rfl ?_
    rw [o_not, Bool.not_true, cd_false]
    have h := h.lose b6
    refine dr_sl h fun w h _ => ?_
    refine ld_in (b := rb) (v := .slice (some ⟨yb, yo, none⟩) 3 yc) h rfl ?_
    rw [o_index (by decide) (by decide)]
    have hyy : Rds (pts xb (.cells (ecells ⟨x.n, x.t, [], []⟩).toArray 31 (0, 0)) * (pts rb (.cells (rvc ⟨110 :: numT x.n, .slice (some ⟨yb, yo, none⟩) 3 yc, [numT x.t, x.what, x.who]⟩).toArray 41 (0, 0)) * (osl 31 4 v i (evs (s.l.take i)) * (cI p (chA s s.bh s.ah s.hd (s.l.take i)) v * (osl 41 2 (.slice (some ⟨ub, 0, none⟩) l.length uc) l.length (rvs l) * (pers (colsP l) * R)))))) (.slice (some ⟨yb, yo, none⟩) 3 yc) 3 [tv (numT x.t), tv x.what, tv x.who] := hyr.left.right.right.right.right.right
    refine ld_rd h hyy 1 (by rfl) (v := tv x.what) rfl ?_
    refine ld_in (b := rb) (v := .slice (some ⟨yb, yo, none⟩) 3 yc) h rfl ?_
    rw [o_index (by decide) (by decide)]
    refine ld_rd h hyy 2 (by rfl) (v := tv x.who) rfl ?_
    try simp only [↓o_nil, ↓o_field, ↓o_add, ↓o_sub, ↓o_mul, ↓o_lss, ↓o_leq, ↓o_gtr, ↓o_geq, ↓o_not, ↓o_pick, ↓o_eqInt, ↓o_neInt, ↓o_eqBool, ↓o_neBool, ↓o_eqPtr, ↓o_nePtr, ↓o_eqPtr', ↓o_eqSl, ↓o_neSl, ↓o_eqStr, ↓o_neStr, ↓o_len, ↓o_lenS, ↓o_min, ↓o_max, ↓o_extract, ↓o_convInt, ↓cd_true, ↓cd_false, ↓gate_tt, ↓gate_ff, ↓gate_tf, ↓gate_ft, ↓gate_undef, ↓o_bind, ↓stay_v, ↓pop_cons, ↓fin_nil, Option.isNone_none, Option.isNone_some, Bool.not_true, Bool.not_false, Nat.zero_add, decide_true, decide_false, if_true, if_false, Bool.false_eq_true, ↓reduceIte]
    refine store_sl (b := xb) h rfl (by simp [ecells]) fun w h => ?_
    refine st_in (b := rb) (v := .slice (some ⟨yb, yo, none⟩) 3 yc) h rfl ?_
    refine store_sl (b := xb) h rfl (by simp [ecells]) fun w h => ?_
    have h : sat E w (pts xb (.cells (ecells x).toArray 31 (0, 0)) * (pts rb (.cells (rvc ⟨110 :: numT x.n, .slice (some ⟨yb, yo, none⟩) 3 yc, [numT x.t, x.what, x.who]⟩).toArray 41 (0, 0)) * (osl 31 4 v i (evs (s.l.take i)) * (cI p (chA s s.bh s.ah s.hd (s.l.take i)) v * (osl 41 2 (.slice (some ⟨ub, 0, none⟩) l.length uc) l.length (rvs l) * (pers (colsP l) * R)))))) := h
    refine dr_sl h fun w h _ => ?_
    refine ld_in (b := xb) (v := tv x.what) h rfl ?_
    rw [o_lenT, o_gtr]
    simp only [decide_eq_false (show ¬ (12 : Int) < (x.what.length : Int) by omega), ↓o_nil, ↓o_field, ↓o_add, ↓o_sub, ↓o_mul, ↓o_lss, ↓o_leq, ↓o_gtr, ↓o_geq, ↓o_not, ↓o_pick, ↓o_eqInt, ↓o_neInt, ↓o_eqBool, ↓o_neBool, ↓o_eqPtr, ↓o_nePtr, ↓o_eqPtr', ↓o_eqSl, ↓o_neSl, ↓o_eqStr, ↓o_neStr, ↓o_len, ↓o_lenS, ↓o_min, ↓o_max, ↓o_extract, ↓o_convInt, ↓cd_true, ↓cd_false, ↓gate_tt, ↓gate_ff, ↓gate_tf, ↓gate_ft, ↓gate_undef, ↓o_bind, ↓stay_v, ↓pop_cons, ↓fin_nil, Option.isNone_none, Option.isNone_some, Bool.not_true, Bool.not_false, Nat.zero_add, decide_true, decide_false, if_true, if_false, Bool.false_eq_true, ↓reduceIte]
    refine ld_in (b := xb) (v := tv x.who) h rfl ?_
    simp only [↓o_lenT, ↓o_nil, ↓o_field, ↓o_add, ↓o_sub, ↓o_mul, ↓o_lss, ↓o_leq, ↓o_gtr, ↓o_geq, ↓o_not, ↓o_pick, ↓o_eqInt, ↓o_neInt, ↓o_eqBool, ↓o_neBool, ↓o_eqPtr, ↓o_nePtr, ↓o_eqPtr', ↓o_eqSl, ↓o_neSl, ↓o_eqStr, ↓o_neStr, ↓o_len, ↓o_lenS, ↓o_min, ↓o_max, ↓o_extract, ↓o_convInt, ↓cd_true, ↓cd_false, ↓gate_tt, ↓gate_ff, ↓gate_tf, ↓gate_ft, ↓gate_undef, ↓o_bind, ↓stay_v, ↓pop_cons, ↓fin_nil, Option.isNone_none, Option.isNone_some, Bool.not_true, Bool.not_false, Nat.zero_add, decide_true, decide_false, if_true, if_false, Bool.false_eq_true, ↓reduceIte]
    simp only [decide_eq_false (show ¬ (30 : Int) < (x.who.length : Int) by omega), ↓o_nil, ↓o_field, ↓o_add, ↓o_sub, ↓o_mul, ↓o_lss, ↓o_leq, ↓o_gtr, ↓o_geq, ↓o_not, ↓o_pick, ↓o_eqInt, ↓o_neInt, ↓o_eqBool, ↓o_neBool, ↓o_eqPtr, ↓o_nePtr, ↓o_eqPtr', ↓o_eqSl, ↓o_neSl, ↓o_eqStr, ↓o_neStr, ↓o_len, ↓o_lenS, ↓o_min, ↓o_max, ↓o_extract, ↓o_convInt, ↓cd_true, ↓cd_false, ↓gate_tt, ↓gate_ff, ↓gate_tf, ↓gate_ft, ↓gate_undef, ↓o_bind, ↓stay_v, ↓pop_cons, ↓fin_nil, Option.isNone_none, Option.isNone_some, Bool.not_true, Bool.not_false, Nat.zero_add, decide_true, decide_false, if_true, if_false, Bool.false_eq_true, ↓reduceIte]
    refine ld_in (b := xb) (v := .int .i64 x.t) h rfl ?_
    have hbx := hbf x hx
    simp only [decide_eq_false (show ¬ x.t < before by omega), ↓o_nil, ↓o_field, ↓o_add, ↓o_sub, ↓o_mul, ↓o_lss, ↓o_leq, ↓o_gtr, ↓o_geq, ↓o_not, ↓o_pick, ↓o_eqInt, ↓o_neInt, ↓o_eqBool, ↓o_neBool, ↓o_eqPtr, ↓o_nePtr, ↓o_eqPtr', ↓o_eqSl, ↓o_neSl, ↓o_eqStr, ↓o_neStr, ↓o_len, ↓o_lenS, ↓o_min, ↓o_max, ↓o_extract, ↓o_convInt, ↓cd_true, ↓cd_false, ↓gate_tt, ↓gate_ff, ↓gate_tf, ↓gate_ft, ↓gate_undef, ↓o_bind, ↓stay_v, ↓pop_cons, ↓fin_nil, Option.isNone_none, Option.isNone_some, Bool.not_true, Bool.not_false, Nat.zero_add, decide_true, decide_false, if_true, if_false, Bool.false_eq_true, ↓reduceIte]
    have L4 : Len3 (chA s s.bh s.ah s.hd (s.l.take i)) := ⟨ok.b, ok.a, ok.h⟩
    refine ld_in (b := xb) (v := .int .i64 x.t) h rfl ?_
    try simp only [↓o_nil, ↓o_field, ↓o_add, ↓o_sub, ↓o_mul, ↓o_lss, ↓o_leq, ↓o_gtr, ↓o_geq, ↓o_not, ↓o_pick, ↓o_eqInt, ↓o_neInt, ↓o_eqBool, ↓o_neBool, ↓o_eqPtr, ↓o_nePtr, ↓o_eqPtr', ↓o_eqSl, ↓o_neSl, ↓o_eqStr, ↓o_neStr, ↓o_len, ↓o_lenS, ↓o_min, ↓o_max, ↓o_extract, ↓o_convInt, ↓cd_true, ↓cd_false, ↓gate_tt, ↓gate_ff, ↓gate_tf, ↓gate_ft, ↓gate_undef, ↓o_bind, ↓stay_v, ↓pop_cons, ↓fin_nil, Option.isNone_none, Option.isNone_some, Bool.not_true, Bool.not_false, Nat.zero_add, decide_true, decide_false, if_true, if_false, Bool.false_eq_true, ↓reduceIte]
    refine ld_in (b := p) (v := .int .i64 s.last) h (ic_last3 (s := chA s s.bh s.ah s.hd (s.l.take i)) L4) ?_
    simp only [decide_eq_false (show ¬ s.last < x.t by omega), ↓o_nil, ↓o_field, ↓o_add, ↓o_sub, ↓o_mul, ↓o_lss, ↓o_leq, ↓o_gtr, ↓o_geq, ↓o_not, ↓o_pick, ↓o_eqInt, ↓o_neInt, ↓o_eqBool, ↓o_neBool, ↓o_eqPtr, ↓o_nePtr, ↓o_eqPtr', ↓o_eqSl, ↓o_neSl, ↓o_eqStr, ↓o_neStr, ↓o_len, ↓o_lenS, ↓o_min, ↓o_max, ↓o_extract, ↓o_convInt, ↓cd_true, ↓cd_false, ↓gate_tt, ↓gate_ff, ↓gate_tf, ↓gate_ft, ↓gate_undef, ↓o_bind, ↓stay_v, ↓pop_cons, ↓fin_nil, Option.isNone_none, Option.isNone_some, Bool.not_true, Bool.not_false, Nat.zero_add, decide_true, decide_false, if_true, if_false, Bool.false_eq_true, ↓reduceIte]
    refine ld_in (b := xb) (v := .int .i64 x.t) h rfl ?_
    refine dr_sl h fun w h _ => ?_
    have icl : (icells (chA s s.bh s.ah s.hd (s.l.take i)) v)[99]? = some v := part_cell (.int .i64 s.bn :: (s.bh.map bv ++ (.int .i64 s.an :: (s.ah.map bv ++ (s.hd.map bv ++ [.int .i64 s.last]))))) [] (by simp [icells, chA]) (by simp [ok.b, ok.a, ok.h])
    have ipl : ∀ {u : Value}, (icells (chA s s.bh s.ah s.hd (s.l.take i)) v).set 99 u = icells (chA s s.bh s.ah s.hd (s.l.take (i + 1))) u := fun {u} => part_set (.int .i64 s.bn :: (s.bh.map bv ++ (.int .i64 s.an :: (s.ah.map bv ++ (s.hd.map bv ++ [.int .i64 s.last]))))) [] (x := v) (by simp [icells, chA]) (by simp [ok.b, ok.a, ok.h]) (by simp [icells, chA])
    refine ld_in (b := p) (v := v) h icl ?_
    refine ld_agg (b := xb) (xs := ecells x) h rfl ?_
    refine buildSlice_sl (e := 31) (cs := (ecells x).toArray) h (fun w => by kernel_rfl) fun b5 w h => ?_
    refine st_in (b := p) (v := v) h icl ?_
    refine append_sl (v := v) h (ecells x) (k' := 1) rfl (.inr ⟨b5, 0, _, _, _, rfl, h.pts_get, fun j v hj => by simpa using hj⟩) (ecells_one x) (by omega) (by omega) fun v' w h => ?_
    refine st_agg (b := xb) (xs := ecells x) h rfl ?_
    have hone' : v'.oneCell' = true := by
      obtain ⟨_, _, rfl, _⟩ := osl_shape h
      rfl
    refine store_sl (b := p) h hone' (by rw [ic_len3 L4]; decide) fun w h => ?_
    rw [ipl] at h
    try rw [o_add]
    rw [i64_of (by omega) (by omega)]
    have h := h.lose b5
    have h := h.perm (show _ = pts xb (.cells (ecells x).toArray 31 (0, 0)) * (pts rb (.cells (rvc ⟨110 :: numT x.n, .slice (some ⟨yb, yo, none⟩) 3 yc, [numT x.t, x.what, x.who]⟩).toArray 41 (0, 0)) * (osl 31 4 v' (i + 1) (evs (s.l.take i) ++ ecells x) * (cI p (chA s s.bh s.ah s.hd (s.l.take (i + 1))) v' * (osl 41 2 (.slice (some ⟨ub, 0, none⟩) l.length uc) l.length (rvs l) * (pers (colsP l) * R))))) by unfold cI; ac_rfl)
    have h := h.drop.drop
    have ee : evs (s.l.take i) ++ ecells x = evs (s.l.take (i + 1)) := by rw [htk]; simp [evs]
    rw [ee] at h
    refine hag (s.l.length - (i + 1)) _ _ (by omega) ⟨i + 1, x.t, v', rfl, rfl, by omega, fun z hz => rn.up i x z hx hz, h⟩
  · have hi2 : i = s.l.length := by omega
    subst hi2
    rw [List.take_length] at h
    have h := osl_freeze h
    refine k p v w ?_
    unfold chI
    exact h.perm (by unfold cI chA; ac_rfl)
end Go.Proofs.YtmnaalpjhkkglaaGreatDoor

/-
  Rows of which one is left out are no chain: what the loading tells of them.
-/
set_option linter.all false
set_option maxRecDepth 100000
namespace Go.Proofs.YtmnaalpjhkkglaaGreatDoor
open Go Hold
variable {E : World0} {w : World} {H R : HP} {K : Value → World → Prop}
theorem BadLoad_spec {u : Value} {l : List RV} {s : Ch} {m : Nat} (ok : Ok s m) (hm : m ≤ 1000000) (sm : Small s) (hd : Dbt R) (hl67 : l.length ≤ 68)
    (hs : l.length < 4 ∨ (∃ x, l[0]? = some x ∧ x.key ≠ [35]) ∨ (∃ x, l[0]? = some x ∧ x.said = ([35], [numT s.bn, numT s.an, numT s.last]) ∧ s.bn + l.length - 4 < s.an))
    (h : sat E w (osl 41 2 u l.length (rvs l) * (pers (colsP l) * R)))
    (k : ∀ w', sat E w' (osl 41 2 u l.length (rvs l) * (pers (colsP l) * R)) → K (.tuple #[.pointer none, .int .i64 3]) w') : Calls prog 13 #[u] w (Ret K) := by
  have hfew := ok.few
  obtain ⟨ua, uc, rfl, huc, _, hpos⟩ := osl_shape h
  have hcols := (h.perm (star_left_comm _ _ _)).pers_get
  refine c13 ?_
  unfold B13
  refine New_spec h fun p w h => ?_
  refine dr_sl h fun w h _ => ?_
  have hend : ∀ {w : World} {X Y : HP}, sat E w (X * (Y * (osl 41 2 (.slice ua l.length uc) l.length (rvs l) * (pers (colsP l) * R)))) → sat E w (osl 41 2 (.slice ua l.length uc) l.length (rvs l) * (pers (colsP l) * R)) := fun h => h.drop.drop
  have e35 : (.string ⟨#[35]⟩ : Value) = tv [35] := rfl
  rw [e35]
  rw [o_len]
  by_cases h4 : l.length < 4
  · simp only [decide_eq_true (show (l.length : Int) < 4 by omega), ↓o_nil, ↓o_field, ↓o_add, ↓o_sub, ↓o_mul, ↓o_lss, ↓o_leq, ↓o_gtr, ↓o_geq, ↓o_not, ↓o_pick, ↓o_eqInt, ↓o_neInt, ↓o_eqBool, ↓o_neBool, ↓o_eqPtr, ↓o_nePtr, ↓o_eqPtr', ↓o_eqSl, ↓o_neSl, ↓o_eqStr, ↓o_neStr, ↓o_len, ↓o_lenS, ↓o_min, ↓o_max, ↓o_extract, ↓o_convInt, ↓cd_true, ↓cd_false, ↓gate_tt, ↓gate_ff, ↓gate_tf, ↓gate_ft, ↓gate_undef, ↓o_bind, ↓stay_v, ↓pop_cons, ↓fin_nil, Option.isNone_none, Option.isNone_some, Bool.not_true, Bool.not_false, Nat.zero_add, decide_true, decide_false, if_true, if_false, Bool.false_eq_true, ↓reduceIte]
    exact k w (by unfold chI at h; exact hend h)
  obtain ⟨ub, hub⟩ := hpos (by omega)
  subst hub
  simp only [decide_eq_false (show ¬ (l.length : Int) < 4 by omega), decide_eq_false (show ¬ (68 : Int) < (l.length : Int) by omega), ↓o_nil, ↓o_field, ↓o_add, ↓o_sub, ↓o_mul, ↓o_lss, ↓o_leq, ↓o_gtr, ↓o_geq, ↓o_not, ↓o_pick, ↓o_eqInt, ↓o_neInt, ↓o_eqBool, ↓o_neBool, ↓o_eqPtr, ↓o_nePtr, ↓o_eqPtr', ↓o_eqSl, ↓o_neSl, ↓o_eqStr, ↓o_neStr, ↓o_len, ↓o_lenS, ↓o_min, ↓o_max, ↓o_extract, ↓o_convInt, ↓cd_true, ↓cd_false, ↓gate_tt, ↓gate_ff, ↓gate_tf, ↓gate_ft, ↓gate_undef, ↓o_bind, ↓stay_v, ↓pop_cons, ↓fin_nil, Option.isNone_none, Option.isNone_some, Bool.not_true, Bool.not_false, Nat.zero_add, decide_true, decide_false, if_true, if_false, Bool.false_eq_true, ↓reduceIte]
  have ix : ∀ (i : Nat) {w : World} {K : Value → World → Prop}, i < l.length → pvv prog (Instr.indexAt 37 (.slice (some ⟨ub, 0, none⟩) l.length uc) (.int .i64 (i : Int))) w K = K (.pointer (some ⟨ub, 0 + i * 2, none⟩)) w := fun i {w K} hi => by
    rw [o_index (by omega) (by omega), Int.toNat_natCast]
  have ix0 : ∀ {w : World} {K : Value → World → Prop}, pvv prog (Instr.indexAt 37 (.slice (some ⟨ub, 0, none⟩) l.length uc) (.int .i64 0)) w K = K (.pointer (some ⟨ub, 0, none⟩)) w := fun {w K} => ix 0 (by omega)
  simp only [ix0, ↓o_nil, ↓o_field, ↓o_add, ↓o_sub, ↓o_mul, ↓o_lss, ↓o_leq, ↓o_gtr, ↓o_geq, ↓o_not, ↓o_pick, ↓o_eqInt, ↓o_neInt, ↓o_eqBool, ↓o_neBool, ↓o_eqPtr, ↓o_nePtr, ↓o_eqPtr', ↓o_eqSl, ↓o_neSl, ↓o_eqStr, ↓o_neStr, ↓o_len, ↓o_lenS, ↓o_min, ↓o_max, ↓o_extract, ↓o_convInt, ↓cd_true, ↓cd_false, ↓gate_tt, ↓gate_ff, ↓gate_tf, ↓gate_ft, ↓gate_undef, ↓o_bind, ↓stay_v, ↓pop_cons, ↓fin_nil, Option.isNone_none, Option.isNone_some, Bool.not_true, Bool.not_false, Nat.zero_add, decide_true, decide_false, if_true, if_false, Bool.false_eq_true, ↓reduceIte]
  have hcell : ∀ {i f : Nat} {x : RV} {val : Value}, l[i]? = some x → (rvc x)[f]? = some val → (rvs l)[i * 2 + f]? = some val := fun hx hf => take_cell (rvs_at hx) hf
  have hcol : ∀ {i : Nat} {x : RV}, l[i]? = some x → Rds (pers (colsP l)) x.v x.cols.length (x.cols.map tv) := fun hx E w hs => (hs.whole).pers_get _ (List.mem_of_getElem? hx)
  rcases hs with hs | ⟨x0, hx0, hne⟩ | ⟨x0, hx0, s0, hsh⟩
  · exact absurd hs h4
  · refine ld_rd h Rds.osl.left.right.right (0 * 2 + 0) rfl (hcell hx0 rfl) ?_
    rw [o_neT, decide_eq_false hne]
    simp only [ix0, ↓o_nil, ↓o_field, ↓o_add, ↓o_sub, ↓o_mul, ↓o_lss, ↓o_leq, ↓o_gtr, ↓o_geq, ↓o_not, ↓o_pick, ↓o_eqInt, ↓o_neInt, ↓o_eqBool, ↓o_neBool, ↓o_eqPtr, ↓o_nePtr, ↓o_eqPtr', ↓o_eqSl, ↓o_neSl, ↓o_eqStr, ↓o_neStr, ↓o_len, ↓o_lenS, ↓o_min, ↓o_max, ↓o_extract, ↓o_convInt, ↓cd_true, ↓cd_false, ↓gate_tt, ↓gate_ff, ↓gate_tf, ↓gate_ft, ↓gate_undef, ↓o_bind, ↓stay_v, ↓pop_cons, ↓fin_nil, Option.isNone_none, Option.isNone_some, Bool.not_true, Bool.not_false, Nat.zero_add, decide_true, decide_false, if_true, if_false, Bool.false_eq_true, ↓reduceIte]
    exact k w (by unfold chI at h; exact hend h)
  obtain ⟨k0, v0, c0⟩ := x0
  simp only [RV.said, Prod.mk.injEq] at s0
  obtain ⟨rfl, rfl⟩ := s0
  refine ld_rd h Rds.osl.left.right.right (0 * 2 + 0) rfl (hcell hx0 rfl) ?_
  rw [o_neT, show (!decide (([35] : List UInt8) = [35])) = false from rfl]
  simp only [ix0, ↓o_nil, ↓o_field, ↓o_add, ↓o_sub, ↓o_mul, ↓o_lss, ↓o_leq, ↓o_gtr, ↓o_geq, ↓o_not, ↓o_pick, ↓o_eqInt, ↓o_neInt, ↓o_eqBool, ↓o_neBool, ↓o_eqPtr, ↓o_nePtr, ↓o_eqPtr', ↓o_eqSl, ↓o_neSl, ↓o_eqStr, ↓o_neStr, ↓o_len, ↓o_lenS, ↓o_min, ↓o_max, ↓o_extract, ↓o_convInt, ↓cd_true, ↓cd_false, ↓gate_tt, ↓gate_ff, ↓gate_tf, ↓gate_ft, ↓gate_undef, ↓o_bind, ↓stay_v, ↓pop_cons, ↓fin_nil, Option.isNone_none, Option.isNone_some, Bool.not_true, Bool.not_false, Nat.zero_add, decide_true, decide_false, if_true, if_false, Bool.false_eq_true, ↓reduceIte]
  refine ld_rd h Rds.osl.left.right.right (0 * 2 + 1) rfl (hcell hx0 rfl) ?_
  simp only [↓o_nil, ↓o_field, ↓o_add, ↓o_sub, ↓o_mul, ↓o_lss, ↓o_leq, ↓o_gtr, ↓o_geq, ↓o_not, ↓o_pick, ↓o_eqInt, ↓o_neInt, ↓o_eqBool, ↓o_neBool, ↓o_eqPtr, ↓o_nePtr, ↓o_eqPtr', ↓o_eqSl, ↓o_neSl, ↓o_eqStr, ↓o_neStr, ↓o_len, ↓o_lenS, ↓o_min, ↓o_max, ↓o_extract, ↓o_convInt, ↓cd_true, ↓cd_false, ↓gate_tt, ↓gate_ff, ↓gate_tf, ↓gate_ft, ↓gate_undef, ↓o_bind, ↓stay_v, ↓pop_cons, ↓fin_nil, Option.isNone_none, Option.isNone_some, Bool.not_true, Bool.not_false, Nat.zero_add, decide_true, decide_false, if_true, if_false, Bool.false_eq_true, ↓reduceIte]
  refine buildSlice_sl (e := 92) (cs := #[.pointer (some ⟨p, 0, none⟩), .pointer (some ⟨p, 33, none⟩), .pointer (some ⟨p, 98, none⟩)]) h (fun w => by kernel_rfl) fun b5 w h => ?_
  try simp only [↓o_nil, ↓o_field, ↓o_add, ↓o_sub, ↓o_mul, ↓o_lss, ↓o_leq, ↓o_gtr, ↓o_geq, ↓o_not, ↓o_pick, ↓o_eqInt, ↓o_neInt, ↓o_eqBool, ↓o_neBool, ↓o_eqPtr, ↓o_nePtr, ↓o_eqPtr', ↓o_eqSl, ↓o_neSl, ↓o_eqStr, ↓o_neStr, ↓o_len, ↓o_lenS, ↓o_min, ↓o_max, ↓o_extract, ↓o_convInt, ↓cd_true, ↓cd_false, ↓gate_tt, ↓gate_ff, ↓gate_tf, ↓gate_ft, ↓gate_undef, ↓o_bind, ↓stay_v, ↓pop_cons, ↓fin_nil, Option.isNone_none, Option.isNone_some, Bool.not_true, Bool.not_false, Nat.zero_add, decide_true, decide_false, if_true, if_false, Bool.false_eq_true, ↓reduceIte]
  have hb0 := ok.b0
  have ha0 := ok.a0
  have hle := ok.le
  have htop := ok.top
  have hl0 := sm.l0
  have hl1 := sm.l1
  have stk : ∀ {w : World} {X : HP} {g : Gd} {A : Prop}, sat E w (X * (osl 41 2 (.slice (some ⟨ub, 0, none⟩) l.length uc) l.length (rvs l) * (pers (colsP l) * R))) → A → stv prog g (Instr.loadAt 9 (.pointer (some ⟨ub, 0, none⟩))) (tv [35]) w A := fun h a => st_rd h Rds.osl.left.right (0 * 2 + 0) rfl (hcell hx0 rfl) a
  have h : sat E w ((pts b5 (.cells #[.pointer (some ⟨p, 0, none⟩), .pointer (some ⟨p, 33, none⟩), .pointer (some ⟨p, 98, none⟩)] 92 (0, 0)) * (cI p newS (.slice none 0 0) * pers (immS (.slice none 0 0) newS.l.length (evs newS.l)))) * (osl 41 2 (.slice (some ⟨ub, 0, none⟩) l.length uc) l.length (rvs l) * (pers (colsP l) * R))) := h.perm (by unfold chI cI; ac_rfl)
  refine st_rd h Rds.osl.left.right (0 * 2 + 1) rfl (hcell hx0 rfl) (stk h ?_)
  have hN : [numT s.bn, numT s.an, numT s.last].map tv = [s.bn.toNat, s.an.toNat, s.last.toNat].map fun n => tv (numText n) := by
    simp only [List.map_cons, List.map_nil]
    rw [numT_nat (n := s.bn) (by omega) (by omega), numT_nat (n := s.an) (by omega) (by omega), numT_nat (n := s.last) (by omega) (by omega)]
  have hr0 := hcol hx0
  rw [hN] at hr0
  let Gs : Nat → Ch := fun i => match i with
    | 0 => newS
    | 1 => { newS with bn := s.bn }
    | 2 => { newS with bn := s.bn, an := s.an }
    | _ => { newS with bn := s.bn, an := s.an, last := s.last }
  have h : sat E w (cI p (Gs 0) (.slice none 0 0) * (pts b5 (.cells #[.pointer (some ⟨p, 0, none⟩), .pointer (some ⟨p, 33, none⟩), .pointer (some ⟨p, 98, none⟩)] 92 (0, 0)) * (pers (immS (.slice none 0 0) newS.l.length (evs newS.l)) * (osl 41 2 (.slice (some ⟨ub, 0, none⟩) l.length uc) l.length (rvs l) * (pers (colsP l) * R))))) := h.perm (by unfold cI; ac_rfl)
  refine read_spec (fun i => cI p (Gs i) (.slice none 0 0)) (ns := [s.bn.toNat, s.an.toNat, s.last.toNat]) (ps := [⟨p, 0, none⟩, ⟨p, 33, none⟩, ⟨p, 98, none⟩]) (by simp) ?_ rfl h (hr0.left.right.right.right) ?_ ?_ fun w h => ?_
  · intro n hn
    simp at hn
    omega
  · exact rds_row (b := b5) (e := 92) (xs := [Value.pointer (some ⟨p, 0, none⟩), .pointer (some ⟨p, 33, none⟩), .pointer (some ⟨p, 98, none⟩)]) (sp := []) (fr := (0, 0)) (Nat.le_refl _)
  · intro i n a w K' hn ha h hk
    have nat : ∀ {z : Int}, 0 ≤ z → ((z.toNat : Nat) : Int) = z := fun h => Int.toNat_of_nonneg h
    match i, hn, ha with
    | 0, hn, ha =>
      simp only [List.getElem?_cons_zero, Option.some.injEq] at hn ha
      subst hn ha
      rw [nat hb0]
      exact store_sl (b := p) h rfl (by simp [icells]) fun w h => hk w h
    | 1, hn, ha =>
      simp only [List.getElem?_cons_succ, List.getElem?_cons_zero, Option.some.injEq] at hn ha
      subst hn ha
      rw [nat ha0]
      refine store_sl (b := p) h rfl (by simp [Gs, icells, newS, zeros32]) fun w h => hk w ?_
      rw [ip_an3 (s := Gs 1) ⟨rfl, rfl, rfl⟩] at h
      exact h
    | 2, hn, ha =>
      simp only [List.getElem?_cons_succ, List.getElem?_cons_zero, Option.some.injEq] at hn ha
      subst hn ha
      rw [nat hl0]
      refine store_sl (b := p) h rfl (by simp [Gs, icells, newS, zeros32]) fun w h => hk w ?_
      rw [ip_last3 (s := Gs 2) ⟨rfl, rfl, rfl⟩] at h
      exact h
    | i + 3, hn, ha => simp at hn
  refine stk ((h.perm (show _ = (cI p (Gs 3) (.slice none 0 0) * (pts b5 (.cells #[.pointer (some ⟨p, 0, none⟩), .pointer (some ⟨p, 33, none⟩), .pointer (some ⟨p, 98, none⟩)] 92 (0, 0)) * pers (immS (.slice none 0 0) newS.l.length (evs newS.l)))) * (osl 41 2 (.slice (some ⟨ub, 0, none⟩) l.length uc) l.length (rvs l) * (pers (colsP l) * R)) by ac_rfl))) ?_
  rw [o_not, Bool.not_true, cd_false]
  have h : sat E w (cI p (chA s zeros32 zeros32 zeros32 []) (.slice none 0 0) * (pts b5 (.cells #[.pointer (some ⟨p, 0, none⟩), .pointer (some ⟨p, 33, none⟩), .pointer (some ⟨p, 98, none⟩)] 92 (0, 0)) * (pers (immS (.slice none 0 0) newS.l.length (evs newS.l)) * (osl 41 2 (.slice (some ⟨ub, 0, none⟩) l.length uc) l.length (rvs l) * (pers (colsP l) * R))))) := h
  have h := h.lose b5
  have L3 : Len3 (chA s zeros32 zeros32 zeros32 []) := ⟨rfl, rfl, rfl⟩
  have max3 : ∀ {a b c : Int} {w : World} {K : Value → World → Prop}, K (.int .i64 (max (max a b) c)) w → pv prog (oBi .max #[3, 3, 3] 3 #[false, false, false] #[.int .i64 a, .int .i64 b, .int .i64 c]) w K := by
    intro a b c w K hk
    rw [pv_eq (v := .int .i64 (max (max a b) c)) (fun w => ?_)]
    · exact hk
    · have : (Builtin.max_ #[3, 3, 3] 3 #[.int .i64 a, .int .i64 b, .int .i64 c]).run prog w = .ok (.int .i64 (if c > (if b > a then b else a) then c else (if b > a then b else a))) w := by
        simp [Builtin.max_, Builtin.max2]
      simp only [oBi, builtin, Sem.run_bind, this, Result.andThen_ok, Sem.run_pure]
      congr 3
      omega
  refine dr_sl h fun w h _ => ?_
  refine ld_in (b := p) (v := .int .i64 s.bn) h rfl ?_
  refine ld_in (b := p) (v := .int .i64 s.an) h (ic_an3 (s := chA s zeros32 zeros32 zeros32 []) L3) ?_
  refine ld_in (b := p) (v := .int .i64 s.last) h (ic_last3 (s := chA s zeros32 zeros32 zeros32 []) L3) ?_
  refine max3 ?_
  simp only [decide_eq_true (show max (max s.bn s.an) s.last ≤ 1099511627776 by omega), ↓o_nil, ↓o_field, ↓o_add, ↓o_sub, ↓o_mul, ↓o_lss, ↓o_leq, ↓o_gtr, ↓o_geq, ↓o_not, ↓o_pick, ↓o_eqInt, ↓o_neInt, ↓o_eqBool, ↓o_neBool, ↓o_eqPtr, ↓o_nePtr, ↓o_eqPtr', ↓o_eqSl, ↓o_neSl, ↓o_eqStr, ↓o_neStr, ↓o_len, ↓o_lenS, ↓o_min, ↓o_max, ↓o_extract, ↓o_convInt, ↓cd_true, ↓cd_false, ↓gate_tt, ↓gate_ff, ↓gate_tf, ↓gate_ft, ↓gate_undef, ↓o_bind, ↓stay_v, ↓pop_cons, ↓fin_nil, Option.isNone_none, Option.isNone_some, Bool.not_true, Bool.not_false, Nat.zero_add, decide_true, decide_false, if_true, if_false, Bool.false_eq_true, ↓reduceIte]
  refine ld_in (b := p) (v := .int .i64 s.an) h (ic_an3 (s := chA s zeros32 zeros32 zeros32 []) L3) ?_
  try simp only [↓o_nil, ↓o_field, ↓o_add, ↓o_sub, ↓o_mul, ↓o_lss, ↓o_leq, ↓o_gtr, ↓o_geq, ↓o_not, ↓o_pick, ↓o_eqInt, ↓o_neInt, ↓o_eqBool, ↓o_neBool, ↓o_eqPtr, ↓o_nePtr, ↓o_eqPtr', ↓o_eqSl, ↓o_neSl, ↓o_eqStr, ↓o_neStr, ↓o_len, ↓o_lenS, ↓o_min, ↓o_max, ↓o_extract, ↓o_convInt, ↓cd_true, ↓cd_false, ↓gate_tt, ↓gate_ff, ↓gate_tf, ↓gate_ft, ↓gate_undef, ↓o_bind, ↓stay_v, ↓pop_cons, ↓fin_nil, Option.isNone_none, Option.isNone_some, Bool.not_true, Bool.not_false, Nat.zero_add, decide_true, decide_false, if_true, if_false, Bool.false_eq_true, ↓reduceIte]
  refine ld_in (b := p) (v := .int .i64 s.bn) h rfl ?_
  rw [o_add, i64_of (by omega) (by omega), o_sub, i64_of (by omega) (by omega), o_leq, decide_eq_false (show ¬ s.an ≤ s.bn + (l.length : Int) - 4 by omega)]
  simp only [↓o_nil, ↓o_field, ↓o_add, ↓o_sub, ↓o_mul, ↓o_lss, ↓o_leq, ↓o_gtr, ↓o_geq, ↓o_not, ↓o_pick, ↓o_eqInt, ↓o_neInt, ↓o_eqBool, ↓o_neBool, ↓o_eqPtr, ↓o_nePtr, ↓o_eqPtr', ↓o_eqSl, ↓o_neSl, ↓o_eqStr, ↓o_neStr, ↓o_len, ↓o_lenS, ↓o_min, ↓o_max, ↓o_extract, ↓o_convInt, ↓cd_true, ↓cd_false, ↓gate_tt, ↓gate_ff, ↓gate_tf, ↓gate_ft, ↓gate_undef, ↓o_bind, ↓stay_v, ↓pop_cons, ↓fin_nil, Option.isNone_none, Option.isNone_some, Bool.not_true, Bool.not_false, Nat.zero_add, decide_true, decide_false, if_true, if_false, Bool.false_eq_true, ↓reduceIte]
  refine dr_sl h fun w h _ => ?_
  try simp only [↓o_nil, ↓o_field, ↓o_add, ↓o_sub, ↓o_mul, ↓o_lss, ↓o_leq, ↓o_gtr, ↓o_geq, ↓o_not, ↓o_pick, ↓o_eqInt, ↓o_neInt, ↓o_eqBool, ↓o_neBool, ↓o_eqPtr, ↓o_nePtr, ↓o_eqPtr', ↓o_eqSl, ↓o_neSl, ↓o_eqStr, ↓o_neStr, ↓o_len, ↓o_lenS, ↓o_min, ↓o_max, ↓o_extract, ↓o_convInt, ↓cd_true, ↓cd_false, ↓gate_tt, ↓gate_ff, ↓gate_tf, ↓gate_ft, ↓gate_undef, ↓o_bind, ↓stay_v, ↓pop_cons, ↓fin_nil, Option.isNone_none, Option.isNone_some, Bool.not_true, Bool.not_false, Nat.zero_add, decide_true, decide_false, if_true, if_false, Bool.false_eq_true, ↓reduceIte]
  exact k w (by unfold cI at h; exact hend h)
end Go.Proofs.YtmnaalpjhkkglaaGreatDoor

/-
  Rows of texts compared.
-/
set_option linter.all false
set_option maxRecDepth 10000
namespace Go.Proofs.YtmnaalpjhkkglaaGreatDoor
open Go Hold
variable {E : World0} {w : World} {H R : HP} {K : Value → World → Prop}
end Go.Proofs.YtmnaalpjhkkglaaGreatDoor

/-
  Rows compared; rows put in order that are in order.
-/
set_option linter.all false
set_option maxRecDepth 10000
namespace Go.Proofs.YtmnaalpjhkkglaaGreatDoor
open Go Hold
variable {E : World0} {w : World} {H R : HP} {K : Value → World → Prop}
theorem rvs_cell {l : List RV} {i f : Nat} {x : RV} {v : Value} (h : l[i]? = some x) (hf : (rvc x)[f]? = some v) : (rvs l)[i * 2 + f]? = some v := take_cell (rvs_at h) hf
theorem said_at {l m : List RV} (h : l.map RV.said = m.map RV.said) {i : Nat} (hl : i < l.length) (hm : i < m.length) : l[i].key = m[i].key ∧ l[i].cols = m[i].cols := by
  have := congrArg (fun q : List (List UInt8 × List (List UInt8)) => q[i]?) h
  simp only [List.getElem?_map, List.getElem?_eq_getElem hl, List.getElem?_eq_getElem hm, Option.map_some, Option.some.injEq, RV.said, Prod.mk.injEq] at this
  exact this
end Go.Proofs.YtmnaalpjhkkglaaGreatDoor

/-
  The order of numbers' texts.
-/
set_option linter.all false
set_option maxRecDepth 10000
namespace Go.Proofs.YtmnaalpjhkkglaaGreatDoor
open Go Hold
variable {E : World0} {w : World} {H R : HP} {K : Value → World → Prop}
/-! Texts of numbers are ordered as the numbers are. -/
theorem lex_last {a b : List UInt8} {x y : UInt8} (h : a.length = b.length) : lexB (a ++ [x]) (b ++ [y]) = if a = b then decide (x < y) else lexB a b := by
  induction a generalizing b with
  | nil =>
    have : b = [] := List.eq_nil_of_length_eq_zero h.symm
    subst this
    simp only [List.nil_append, lexB, if_true]
    by_cases hxy : x = y
    · subst hxy; simp
    · simp [hxy]
  | cons c a ih =>
    cases b with
    | nil => simp at h
    | cons d b =>
      simp only [List.cons_append, lexB]
      by_cases hcd : c = d
      · subst hcd
        simp [ih (by simpa using h)]
      · have : ¬ (c :: a = d :: b) := fun h => hcd (List.cons.inj h).1
        rw [if_neg hcd, if_neg this, if_neg hcd]
theorem dig_lt : ∀ x, x < 16 → ∀ y, y < 16 → (decide (dig x < dig y) = decide (x < y)) := by decide
theorem lexB_irrefl (a : List UInt8) : lexB a a = false := by
  induction a with
  | nil => rfl
  | cons c a ih => simp [lexB, ih]
theorem first_byte {m n : Nat} (hm : m ≤ 16) (hn : n ≤ 16) : (UInt8.ofNat (97 + m) = UInt8.ofNat (97 + n) ↔ m = n) ∧ (UInt8.ofNat (97 + m) < UInt8.ofNat (97 + n) ↔ m < n) := by
  rw [UInt8.lt_iff_toNat_lt, ← UInt8.toNat_inj, UInt8.toNat_ofNat', UInt8.toNat_ofNat']
  omega
theorem hexs_len16 {n : Nat} (h : n < 16 ^ 16) : (hexs n).length ≤ 16 := hexs_length 16 n h
theorem num_lex : ∀ (n a b : Nat), a < n → a < 16 ^ 16 → b < 16 ^ 16 → lexB (numText a) (numText b) = decide (a < b)
  | 0, a, b, h, _, _ => by omega
  | n + 1, a, b, hn, ha, hb => by
    have la := hexs_len16 ha
    have lb := hexs_len16 hb
    unfold numText
    simp only [lexB]
    obtain ⟨fe, fl⟩ := first_byte la lb
    by_cases ha0 : a = 0
    · subst ha0
      by_cases hb0 : b = 0
      · subst hb0; rw [hexs_zero]; simp [lexB]
      · have : 0 < (hexs b).length := by rw [hexs_pos hb0]; simp
        rw [hexs_zero] at fe fl ⊢
        have f1 : ¬ (UInt8.ofNat (97 + ([] : List UInt8).length) = UInt8.ofNat (97 + (hexs b).length)) := fun h => by have := fe.1 h; simp at this; omega
        rw [if_neg f1]
        have : UInt8.ofNat (97 + ([] : List UInt8).length) < UInt8.ofNat (97 + (hexs b).length) := fl.2 (by simpa using this)
        rw [decide_eq_true this, decide_eq_true (by omega)]
    · by_cases hb0 : b = 0
      · subst hb0
        have hpos : 0 < (hexs a).length := by rw [hexs_pos ha0]; simp
        rw [hexs_zero] at fe fl ⊢
        have f1 : ¬ (UInt8.ofNat (97 + (hexs a).length) = UInt8.ofNat (97 + ([] : List UInt8).length)) := fun h => by have := fe.1 h; simp only [List.length_nil] at this; omega
        rw [if_neg f1]
        have : ¬ UInt8.ofNat (97 + (hexs a).length) < UInt8.ofNat (97 + ([] : List UInt8).length) := fun h => by have := fl.1 h; simp at this
        rw [decide_eq_false this, decide_eq_false (by omega)]
      · have ih := num_lex n (a / 16) (b / 16) (by omega) (by omega) (by omega)
        unfold numText at ih
        simp only [lexB] at ih
        obtain ⟨ge, gl⟩ := first_byte (hexs_len16 (n := a / 16) (by omega)) (hexs_len16 (n := b / 16) (by omega))
        have ea : (hexs a).length = (hexs (a / 16)).length + 1 := by rw [hexs_pos ha0]; simp
        have eb : (hexs b).length = (hexs (b / 16)).length + 1 := by rw [hexs_pos hb0]; simp
        by_cases hl : (hexs (a / 16)).length = (hexs (b / 16)).length
        · rw [if_pos (fe.2 (by omega)), hexs_pos ha0, hexs_pos hb0, lex_last hl, dig_lt _ (by omega) _ (by omega)]
          rw [if_pos (ge.2 hl)] at ih
          by_cases hh : hexs (a / 16) = hexs (b / 16)
          · rw [if_pos hh]
            rw [hh, lexB_irrefl] at ih
            have ih2 := num_lex n (a / 16) (b / 16) (by omega) (by omega) (by omega)
            have hq : a / 16 = b / 16 := by
              have h1 : ¬ (a / 16 < b / 16) := by simpa using ih.symm
              -- the other way round
              have h2 : ¬ (b / 16 < a / 16) := by
                intro hlt
                have ih3 := num_lex n (b / 16) (a / 16) (by omega) (by omega) (by omega)
                unfold numText at ih3
                rw [hh, lexB_irrefl] at ih3
                have : ¬ (b / 16 < a / 16) := by simpa using ih3.symm
                exact this hlt
              omega
            rw [decide_eq_decide]; omega
          · rw [if_neg hh, ih, decide_eq_decide]
            have hne : a / 16 ≠ b / 16 := fun h => hh (by rw [h])
            omega
        · have f1 : ¬ (UInt8.ofNat (97 + (hexs a).length) = UInt8.ofNat (97 + (hexs b).length)) := fun h => by have := fe.1 h; omega
          have g1 : ¬ (UInt8.ofNat (97 + (hexs (a / 16)).length) = UInt8.ofNat (97 + (hexs (b / 16)).length)) := fun h => hl (ge.1 h)
          rw [if_neg f1, decide_eq_decide, fl]
          rw [if_neg g1, decide_eq_decide, gl] at ih
          have hne : a / 16 ≠ b / 16 := fun h => hl (by rw [h])
          omega
theorem number_lex {a b : Nat} (ha : a ≤ 4611686018427387904) (hb : b ≤ 4611686018427387904) : lexB (numText a) (numText b) = decide (a < b) :=
  num_lex (a + 1) a b (by omega) (by show a < 18446744073709551616; omega) (by show b < 18446744073709551616; omega)
end Go.Proofs.YtmnaalpjhkkglaaGreatDoor

/-
  The reference's rows.
-/
set_option linter.all false
set_option maxRecDepth 10000
namespace Go.Proofs.YtmnaalpjhkkglaaGreatDoor
open Go Hold
variable {E : World0} {w : World} {H R : HP} {K : Value → World → Prop}
/-- The keys rise. -/
theorem keys_rise {s : Ch} {m : Nat} (ok : Ok s m) (hm : m ≤ 1000000000000000) (rs : Risen s) {l : List RV} (hl : l.map RV.said = rowsOf s) : ∀ (i : Nat) (x y : RV), l[i]? = some x → l[i + 1]? = some y → lexB x.key y.key = true := by
  intro i x y hx hy
  have := ok.top; have := ok.b0
  have hkx : ((rowsOf s)[i]?).map (·.1) = some x.key := by rw [← hl, List.getElem?_map, hx]; rfl
  have hky : ((rowsOf s)[i + 1]?).map (·.1) = some y.key := by rw [← hl, List.getElem?_map, hy]; rfl
  have hlen : (heads s).length = 4 := rfl
  unfold rowsOf at hkx hky
  by_cases h4 : i < 3
  · have : i = 0 ∨ i = 1 ∨ i = 2 := by omega
    rcases this with rfl | rfl | rfl
    all_goals
      simp [heads] at hkx hky
      rw [← hkx, ← hky]
      rfl
  · rw [List.getElem?_append_right (by omega), hlen, List.getElem?_map, Option.map_map] at hky
    obtain ⟨b, hb, eb⟩ := Option.map_eq_some_iff.1 hky
    have eb : 110 :: numT b.n = y.key := eb
    by_cases h5 : i = 3
    · subst h5
      simp [heads] at hkx
      rw [← hkx, ← eb]
      rfl
    · rw [List.getElem?_append_right (by omega), hlen, List.getElem?_map, Option.map_map] at hkx
      obtain ⟨a, ha, ea⟩ := Option.map_eq_some_iff.1 hkx
      have ea : 110 :: numT a.n = x.key := ea
      obtain ⟨na, _⟩ := rs.num _ _ ha
      obtain ⟨nb, _⟩ := rs.num _ _ hb
      have hla := (List.getElem?_eq_some_iff.1 ha).1
      have hlb := (List.getElem?_eq_some_iff.1 hb).1
      rw [← ea, ← eb]
      obtain ⟨ka, hka⟩ := Int.eq_ofNat_of_zero_le (show 0 ≤ a.n by omega)
      obtain ⟨kb, hkb⟩ := Int.eq_ofNat_of_zero_le (show 0 ≤ b.n by omega)
      have e : ∀ n : Nat, n ≤ 4611686018427387904 → numT (n : Int) = numText n := fun n hn => by
        unfold numT number
        rw [if_neg (by omega)]
        rfl
      rw [hka, hkb, e ka (by omega), e kb (by omega)]
      have := number_lex (a := ka) (b := kb) (by omega) (by omega)
      simp only [lexB, if_true, this, decide_eq_true_eq]
      omega
def φR (s : Ch) : Nat → Value → PP
  | 1, v => ppOf (v = tv s.ah)
  | 5, v => ppOf (v = tv s.bh)
  | 8, v => ppOf (v = tv s.hd)
  | 0, v => immS v 3 ([numT s.bn, numT s.an, numT s.last].map tv)
  | 3, v => immS v 1 ([s.ah].map tv)
  | 6, v => immS v 1 ([s.bh].map tv)
  | 9, v => immS v 1 ([s.hd].map tv)
  | 2, v => ⟨fun I => ∃ u, v = .agg (rvc ⟨[35], u, [numT s.bn, numT s.an, numT s.last]⟩).toArray ∧ RdS I u 3 ([numT s.bn, numT s.an, numT s.last].map tv), fun hI ⟨u, h1, h2⟩ => ⟨u, h1, h2.mono hI⟩⟩
  | 4, v => ⟨fun I => ∃ u, v = .agg (rvc ⟨[97], u, [s.ah]⟩).toArray ∧ RdS I u 1 ([s.ah].map tv), fun hI ⟨u, h1, h2⟩ => ⟨u, h1, h2.mono hI⟩⟩
  | 7, v => ⟨fun I => ∃ u, v = .agg (rvc ⟨[98], u, [s.bh]⟩).toArray ∧ RdS I u 1 ([s.bh].map tv), fun hI ⟨u, h1, h2⟩ => ⟨u, h1, h2.mono hI⟩⟩
  | 10, v => ⟨fun I => ∃ u, v = .agg (rvc ⟨[104], u, [s.hd]⟩).toArray ∧ RdS I u 1 ([s.hd].map tv), fun hI ⟨u, h1, h2⟩ => ⟨u, h1, h2.mono hI⟩⟩
  | _, _ => ppOf True
end Go.Proofs.YtmnaalpjhkkglaaGreatDoor

/-
  A chain of events made in order, its rows sealed and opened, and rows of which one is left out: plainly.
-/
set_option linter.all false
set_option maxRecDepth 100000
namespace Go.Proofs.YtmnaalpjhkkglaaGreatDoor
open Go Hold
variable {E : World0} {w : World} {H R : HP} {K : Value → World → Prop}
/-- What is kept while events are added at times 0, 1, 2 .. -/
structure Chn (s : Ch) (i : Nat) : Prop where
  ok : Ok s i
  rn : Risen s
  sm : Small s
  rt : Right s
  bn : s.bn = 0
  len : s.l.length = i
  last : s.last ≤ i
theorem chn_new : Chn newS 0 := ⟨ok_new, inv_new, small_new, right_new, rfl, rfl, by simp [newS]⟩
theorem chn_add {s : Ch} {i : Nat} {a b : List UInt8} (h : Chn s i) (hi : i < 60) (ha : a.length ≤ 12) (hb : b.length ≤ 30) : Chn (addS s i a b).1 (i + 1) ∧ (addS s i a b).2.2 = 0 := by
  have e : addS s (i : Int) a b = ({ s with l := s.l ++ [newE s i a b], hd := nx s.hd (newE s i a b), last := (i : Int) }, newE s i a b, 0) := by
    have h1 := h.last
    have h2 := h.len
    unfold addS
    rw [if_neg (by omega), if_neg (by omega), if_neg (by omega), if_neg (by omega)]
  have ed : doS s ⟨0, i, 0, a, b⟩ = (addS s i a b).1 := by unfold doS; rw [if_pos rfl]
  refine ⟨⟨ok_add h.ok, ed ▸ inv_do h.rn, ed ▸ small_do h.sm, ed ▸ right_do h.ok h.rt, ?_, ?_, ?_⟩, ?_⟩
  · rw [e]; exact h.bn
  · rw [e]; simp [h.len]
  · rw [e]; simp only; omega
  · rw [e]
structure Anc (s : Ch) (i : Nat) : Prop where
  ok : Ok s i
  rn : Risen s
  sm : Small s
  rt : Right s
  an : s.an = s.bn + s.l.length
theorem chn_anchor {s : Ch} {i : Nat} (h : Chn s i) : Anc (anchorS s) i := ⟨ok_anchor h.ok, ⟨h.rn.num, h.rn.up⟩, ⟨h.sm.l0, h.sm.l1, h.sm.ev⟩, right_anchor h.ok h.rt, rfl⟩
theorem rows_small {s : Ch} {i : Nat} (h : Anc s i) {y : List UInt8 × List (List UInt8)} (hy : y ∈ rowsOf s) : y.2.length ≤ 3 ∧ ∀ c ∈ y.2, c.length ≤ 1024 := by
  unfold rowsOf at hy
  rcases List.mem_append.1 hy with hy | hy
  · have h1 := numT_length s.bn; have h2 := numT_length s.an; have h3 := numT_length s.last
    have h4 := h.ok.a; have h5 := h.ok.b; have h6 := h.ok.h
    simp only [heads, List.mem_cons, List.not_mem_nil, or_false] at hy
    rcases hy with rfl | rfl | rfl | rfl
    · refine ⟨by simp, fun c hc => ?_⟩
      simp only [List.mem_cons, List.not_mem_nil, or_false] at hc
      rcases hc with rfl | rfl | rfl <;> omega
    · refine ⟨by simp, fun c hc => ?_⟩
      simp only [List.mem_cons, List.not_mem_nil, or_false] at hc
      subst hc; omega
    · refine ⟨by simp, fun c hc => ?_⟩
      simp only [List.mem_cons, List.not_mem_nil, or_false] at hc
      subst hc; omega
    · refine ⟨by simp, fun c hc => ?_⟩
      simp only [List.mem_cons, List.not_mem_nil, or_false] at hc
      subst hc; omega
  · obtain ⟨x, hx, rfl⟩ := List.mem_map.1 hy
    obtain ⟨_, h2, h3⟩ := h.sm.ev x hx
    have h1 := numT_length x.t
    refine ⟨by simp [evRow], fun c hc => ?_⟩
    simp only [evRow, List.mem_cons, List.not_mem_nil, or_false] at hc
    rcases hc with rfl | rfl | rfl <;> omega
theorem less_case {bl : List RV} {s : Ch} {i out : Nat} (h : Anc s i) (hs : bl.map RV.said = rowsOf s) (ho : out < bl.length) :
    (bl.take out ++ bl.drop (out + 1)).length < 4 ∨ (∃ x, (bl.take out ++ bl.drop (out + 1))[0]? = some x ∧ x.key ≠ [35]) ∨
      (∃ x, (bl.take out ++ bl.drop (out + 1))[0]? = some x ∧ x.said = ([35], [numT s.bn, numT s.an, numT s.last]) ∧ s.bn + (bl.take out ++ bl.drop (out + 1)).length - 4 < s.an) := by
  have hlen : bl.length = 4 + s.l.length := by
    have := congrArg List.length hs
    simp [rowsOf, heads] at this
    omega
  have hll : (bl.take out ++ bl.drop (out + 1)).length = bl.length - 1 := by rw [List.length_append, List.length_take, List.length_drop]; omega
  by_cases h0 : out = 0
  · right; left
    subst h0
    obtain ⟨x, hx, hxs⟩ := said_row hs (i := 1) rfl
    refine ⟨x, by simpa using hx, ?_⟩
    have := congrArg Prod.fst hxs
    simp only [RV.said] at this
    rw [this]
    decide
  · right; right
    obtain ⟨x, hx, hxs⟩ := said_row hs (i := 0) rfl
    refine ⟨x, ?_, hxs, ?_⟩
    · rw [List.getElem?_append_left (by rw [List.length_take]; omega), List.getElem?_take, if_pos (by omega)]
      exact hx
    · rw [hll, h.an]; omega
theorem u8_letter (x : UInt8) : ∃ y : UInt8, IntKind.u8.wrap (97 + ((x.toNat : Nat) : Int).tmod 26) = ((y.toNat : Nat) : Int) := by
  refine ⟨UInt8.ofNat (97 + x.toNat % 26), ?_⟩
  rw [IntKind.wrap_u8, UInt8.toNat_ofNat']
  have := x.toNat_lt
  have e : ((x.toNat : Nat) : Int).tmod 26 = ((x.toNat % 26 : Nat) : Int) := by rw [Int.tmod_eq_emod_of_nonneg (by omega)]; omega
  rw [e]
  omega
/-- A part of an owned row of rows. -/
theorem win_rows {e n c b o m : Nat} {bl : List RV} {P1 : HP} (h : sat E w (P1 * (osl e 2 (.slice (some ⟨b, 0, none⟩) n c) n (rvs bl) * R))) (hn : bl.length = n) : win (hp w) (cutA (some ⟨b, 0, none⟩) c o 2) ((rvs (bl.drop o)).take (m * 2)) := by
  have hr : Rds (P1 * (osl e 2 (.slice (some ⟨b, 0, none⟩) n c) n (rvs bl) * R)) (.slice (some ⟨b, 0, none⟩) n c) n (rvs bl) := Rds.osl.left.right
  obtain ⟨_, c', e1, hc, hw⟩ := hr E w h
  cases e1
  have h2 := win_cut (sz := 2) hw (c := c) (n := o) (fun hco => by rw [rvs_length, hn]; omega)
  have e2 : (rvs bl).drop (o * 2) = rvs (bl.drop o) := by
    by_cases ho : o ≤ bl.length
    · have e3 := congrArg rvs (List.take_append_drop o bl)
      rw [rvs_append] at e3
      rw [← e3, List.drop_left' (by rw [rvs_length, List.length_take]; omega)]
    · rw [List.drop_eq_nil_of_le (by rw [rvs_length]; omega), List.drop_eq_nil_of_le (by omega)]
      rfl
  rw [e2] at h2
  exact win_take h2 _
theorem rvs_take {bl : List RV} {o : Nat} (ho : o ≤ bl.length) : (rvs bl).take (o * 2) = rvs (bl.take o) := by
  have e3 := congrArg rvs (List.take_append_drop o bl)
  rw [rvs_append] at e3
  rw [← e3, List.take_left' (by rw [rvs_length, List.length_take]; omega)]
theorem ne28 {a b : List UInt8} (ha : a.length = 32) (hb : b.length = 32) {xo yo : Operand} {K : Value → World → Prop} : pvv prog (oEq .neq 28 xo yo (.agg (a.map bv).toArray) (.agg (b.map bv).toArray)) w K = K (.bool !(a == b)) w := o_neArr (n := 32) (by kernel_rfl) ha hb
end Go.Proofs.YtmnaalpjhkkglaaGreatDoor
