/-
  A chain's rows.
-/
import Derived.Test.YtmnaalpjhkkglaaDoorNumBack
import Derived.Test.YtmnaalpjhkkglaaDoorPar
import Derived.Test.YtmnaalpjhkkglaaDoorPB
import Derived.Test.YtmnaalpjhkkglaaDoorStructs
import Derived.Test.YtmnaalpjhkkglaaDoorHshH
set_option linter.all false
set_option maxRecDepth 10000
namespace Go.Proofs.YtmnaalpjhkkglaaDoor
open Go Hold
variable {E : World0} {w : World} {H R : HP} {K : Value → World → Prop}
/-- A row: its key, its columns, and the slice that they lie in. -/
structure RV where
  key : List UInt8
  v : Value
  cols : List (List UInt8)
def rvc (x : RV) : List Value := [tv x.key, x.v]
def RV.said (x : RV) : List UInt8 × List (List UInt8) := (x.key, x.cols)
def rvs (l : List RV) : List Value := l.flatMap rvc
/-- All columns stay. -/
def colsP (l : List RV) : PP := ⟨fun I => ∀ x ∈ l, RdS I x.v x.cols.length (x.cols.map tv), fun hI h x hx => (h x hx).mono hI⟩
theorem rvs_length (l : List RV) : (rvs l).length = l.length * 2 := fm_length (k := 2) (fun _ => rfl) l
theorem rvs_at {l : List RV} {i : Nat} {x : RV} (h : l[i]? = some x) : ((rvs l).drop (i * 2)).take 2 = rvc x := fm_at (k := 2) (fun _ => rfl) h
theorem rvs_append (a b : List RV) : rvs (a ++ b) = rvs a ++ rvs b := by simp [rvs]
theorem rds_one {v : Value} {n : Nat} {xs : List Value} {J : Hp} (h : RdS J v n xs) : v.oneCell' = true := by obtain ⟨_, _, rfl, _⟩ := h; rfl
theorem rvs_one {l : List RV} {J : Hp} (h : (colsP l).p J) : ∀ x ∈ rvs l, x.oneCell' = true := by
  intro x hx
  obtain ⟨y, hy, hm⟩ := List.mem_flatMap.1 hx
  simp [rvc] at hm
  rcases hm with rfl | rfl
  · rfl
  · exact rds_one (h y hy)
theorem colsP_append {a b : List RV} {I : Hp} (h1 : (colsP a).p I) (h2 : (colsP b).p I) : (colsP (a ++ b)).p I := fun x hx => by
  rcases List.mem_append.1 hx with hx | hx
  · exact h1 x hx
  · exact h2 x hx
def evRow (x : Evt) : List UInt8 × List (List UInt8) := (110 :: numT x.n, [numT x.t, x.what, x.who])
def heads (s : Ch) : List (List UInt8 × List (List UInt8)) := [([35], [numT s.bn, numT s.an, numT s.last]), ([97], [s.ah]), ([98], [s.bh]), ([104], [s.hd])]
def rowsOf (s : Ch) : List (List UInt8 × List (List UInt8)) := heads s ++ s.l.map evRow
theorem win_part {b e o n : Nat} {xs ys : List Value} {fr : Nat × Nat} (h : w.heap[b]? = some (.cells xs.toArray e fr)) (hy : (xs.drop o).take n = ys) (c : Nat) (hn : ys.length = n) (hc : n ≤ c) : RdS (hp w) (.slice (some ⟨b, o, none⟩) n c) n ys :=
  ⟨_, c, rfl, hc, .inr ⟨b, o, _, e, fr, rfl, h, fun j v hj => by simpa using take_cell hy hj⟩⟩
/-- What is known of the slots of the rows' heads. -/
def φI (s : Ch) : Nat → Value → PP
  | 0, v => ppOf (v = tv (numT s.bn))
  | 4, v => ppOf (v = tv (numT s.an))
  | 5, v => ppOf (v = tv (numT s.last))
  | 1, v => ppOf (v = tv s.ah)
  | 2, v => ppOf (v = tv s.bh)
  | 3, v => ppOf (v = tv s.hd)
  | 6, v => immS v 3 ([numT s.bn, numT s.an, numT s.last].map tv)
  | 8, v => immS v 1 ([s.ah].map tv)
  | 10, v => immS v 1 ([s.bh].map tv)
  | 12, v => immS v 1 ([s.hd].map tv)
  | 7, v => ⟨fun I => ∃ u, v = .agg (rvc ⟨[35], u, [numT s.bn, numT s.an, numT s.last]⟩).toArray ∧ RdS I u 3 ([numT s.bn, numT s.an, numT s.last].map tv), fun hI ⟨u, h1, h2⟩ => ⟨u, h1, h2.mono hI⟩⟩
  | 9, v => ⟨fun I => ∃ u, v = .agg (rvc ⟨[97], u, [s.ah]⟩).toArray ∧ RdS I u 1 ([s.ah].map tv), fun hI ⟨u, h1, h2⟩ => ⟨u, h1, h2.mono hI⟩⟩
  | 11, v => ⟨fun I => ∃ u, v = .agg (rvc ⟨[98], u, [s.bh]⟩).toArray ∧ RdS I u 1 ([s.bh].map tv), fun hI ⟨u, h1, h2⟩ => ⟨u, h1, h2.mono hI⟩⟩
  | 13, v => ⟨fun I => ∃ u, v = .agg (rvc ⟨[104], u, [s.hd]⟩).toArray ∧ RdS I u 1 ([s.hd].map tv), fun hI ⟨u, h1, h2⟩ => ⟨u, h1, h2.mono hI⟩⟩
  | _, _ => ppOf True
theorem ic_bh {s : Ch} {v : Value} {m : Nat} (ok : Ok s m) : ((icells s v).drop 1).take 32 = s.bh.map bv := part_at [.int .i64 s.bn] _ (.int .i64 s.an :: (s.ah.map bv ++ (s.hd.map bv ++ [.int .i64 s.last, v]))) (by simp [icells]) rfl (by simp [ok.b])
theorem numT_length (n : Int) : (numT n).length ≤ 17 := by
  unfold numT number
  split
  · simp
  · have := hexs_length 16 n.toNat (by show n.toNat < 16 ^ 16; omega)
    simp only [numText, List.length_cons]
    omega
theorem said_take {l : List Evt} {j : Nat} {hs : List (List UInt8 × List (List UInt8))} {r : List RV} {x : RV} (h : r.map RV.said = hs ++ (l.take j).map evRow) (hj : j < l.length) (hx : x.said = evRow l[j]) : (r ++ [x]).map RV.said = hs ++ (l.take (j + 1)).map evRow := by
  rw [List.map_append, h, List.take_succ_eq_append_getElem hj, List.map_append, List.map_singleton, List.map_singleton, hx, List.append_assoc]
end Go.Proofs.YtmnaalpjhkkglaaDoor

/-
  copy, of a text's bytes into a row of cells.
-/
set_option linter.all false
set_option maxRecDepth 100000
namespace Hold
open Go
variable {P : Program} {E : World0} {w : World} {H R : HP} {K : Value → World → Prop}
theorem bv_list (l : List UInt8) : ((l.toArray.map fun b : UInt8 => Value.int .u8 b.toNat)).toList = l.map bv := by simp [bv]
theorem copy_text (h : sat E w H) {t u ty e e' m : TypeId} {z : Value} [i : SliceT P t e 1 m z] {cs : Array Bool} {b o c : Nat} {xs : List Value} {l : List UInt8} [s : Own H b (.cells xs.toArray e' (0, 0)) R]
    (hle : o + l.length ≤ xs.length) (k : ∀ w', sat E w' (pts b (.cells (xs.take o ++ l.map bv ++ xs.drop (o + l.length)).toArray e' (0, 0)) * R) → K (.int .i64 l.length) w') :
    ef P (oBi .copy #[t, u] ty cs #[.slice (some ⟨b, o, none⟩) l.length c, tv l]) w K := by
  have hs' := h.own b
  have hbl := hs'.pts_get
  have hst := run_storeCells_at P b o e' (l.map bv) 0 xs.toArray w hbl (by simpa using hle) (by intro v hv; obtain ⟨_, _, rfl⟩ := List.mem_map.1 hv; rfl)
  have hsz : (⟨l.toArray⟩ : ByteArray).size = l.length := by simp [ByteArray.size]
  have hex : ((⟨l.toArray⟩ : ByteArray).extract 0 l.length) = ⟨l.toArray⟩ := by
    have := ByteArray.extract_zero_size (b := ⟨l.toArray⟩)
    rwa [hsz] at this
  have hr : (Builtin.copy_ #[t, u] ty #[.slice (some ⟨b, o, none⟩) l.length c, tv l]).run P w = .ok (goInt l.length) (w.setRow b (xs.toArray.toList.take o ++ l.map bv ++ xs.toArray.toList.drop (o + l.length)).toArray) := by
    simp only [Nat.add_zero, List.length_map] at hst
    have hbl2 := bv_list l
    simp [Builtin.copy_, run_underlying i.ul, Builtin.lenOf, Builtin.firstCells, run_sizeOf' i.size, tv, hsz, hex, hst]
    have e1 : List.take l.length (List.map (fun b : UInt8 => Value.int IntKind.u8 (b.toNat : Int)) l) = l.map bv := by
      rw [List.take_of_length_le (by simp)]
      rfl
    rw [e1]
    simp [hst]
  rw [setRow_putObj hbl] at hr
  have ef_bi : ∀ {v' w'}, (Builtin.copy_ #[t, u] ty #[.slice (some ⟨b, o, none⟩) l.length c, tv l]).run P w = .ok v' w' → K v' w' → ef P (oBi .copy #[t, u] ty cs #[.slice (some ⟨b, o, none⟩) l.length c, tv l]) w K := fun hr hk =>
    ef_of (by simp [oBi, builtin, hr]) hk
  exact ef_bi hr (k _ (hs'.set _))
end Hold

/-
  Numbers read out of a row; a hash taken out of one.
-/
set_option linter.all false
set_option maxRecDepth 100000
namespace Go.Proofs.YtmnaalpjhkkglaaDoor
open Go Hold
variable {E : World0} {w : World} {H R : HP} {K : Value → World → Prop}
end Go.Proofs.YtmnaalpjhkkglaaDoor

/-
  A chain loaded from its own rows.
-/
set_option linter.all false
set_option maxRecDepth 100000
namespace Go.Proofs.YtmnaalpjhkkglaaDoor
open Go Hold
variable {E : World0} {w : World} {H R : HP} {K : Value → World → Prop}
structure Small (s : Ch) : Prop where
  l0 : 0 ≤ s.last
  l1 : s.last ≤ 1099511627776
  ev : ∀ x ∈ s.l, 0 ≤ x.t ∧ x.what.length ≤ 12 ∧ x.who.length ≤ 30
theorem small_new : Small newS := ⟨by simp [newS], by simp [newS], by simp [newS]⟩
theorem small_do {s : Ch} {x : Deed} (h : Small s) : Small (doS s x) := by
  unfold doS
  split
  · unfold addS
    split
    · exact h
    · split
      · exact h
      · split
        · exact h
        · split
          · exact h
          · refine ⟨by simp only; omega, by simp only; omega, fun y hy => ?_⟩
            rcases List.mem_append.1 hy with hy | hy
            · exact h.ev y hy
            · rw [List.mem_singleton.1 hy]
              exact ⟨by simp only [newE]; omega, by simp only [newE]; omega, by simp only [newE]; omega⟩
  · split
    · exact ⟨h.l0, h.l1, h.ev⟩
    · split
      · unfold pruneS
        split
        · exact h
        · exact ⟨h.l0, h.l1, fun y hy => h.ev y (List.mem_of_mem_drop hy)⟩
      · exact h
theorem numT_nat {n : Int} (h0 : 0 ≤ n) (h1 : n ≤ 4611686018427387904) : numT n = numText n.toNat := by
  unfold numT number
  rw [if_neg (by omega)]
theorem ip_bn {s : Ch} {v : Value} {n : Int} : (icells s v).set 0 (.int .i64 n) = icells { s with bn := n } v := rfl
theorem ip_an {s : Ch} {m : Nat} {v : Value} (ok : Ok s m) {n : Int} : (icells s v).set 33 (.int .i64 n) = icells { s with an := n } v := part_set (.int .i64 s.bn :: s.bh.map bv) (s.ah.map bv ++ (s.hd.map bv ++ [.int .i64 s.last, v])) (x := .int .i64 s.an) (by simp [icells]) (by simp [ok.b]) (by simp [icells])
structure Len3 (s : Ch) : Prop where
  b : s.bh.length = 32
  a : s.ah.length = 32
  h : s.hd.length = 32
theorem ip_an3 {s : Ch} {v : Value} (ok : Len3 s) {n : Int} : (icells s v).set 33 (.int .i64 n) = icells { s with an := n } v := part_set (.int .i64 s.bn :: s.bh.map bv) (s.ah.map bv ++ (s.hd.map bv ++ [.int .i64 s.last, v])) (x := .int .i64 s.an) (by simp [icells]) (by simp [ok.b]) (by simp [icells])
theorem ip_last3 {s : Ch} {v : Value} (ok : Len3 s) {t : Int} : (icells s v).set 98 (.int .i64 t) = icells { s with last := t } v := part_set (.int .i64 s.bn :: (s.bh.map bv ++ (.int .i64 s.an :: (s.ah.map bv ++ s.hd.map bv)))) [v] (x := .int .i64 s.last) (by simp [icells]) (by simp [ok.b, ok.a, ok.h]) (by simp [icells])
theorem ip_ah3 {s : Ch} {v : Value} (ok : Len3 s) {h : List UInt8} (_ : h.length = 32) : (icells s v).take 34 ++ h.map bv ++ (icells s v).drop (34 + 32) = icells { s with ah := h } v := part_put (.int .i64 s.bn :: (s.bh.map bv ++ [.int .i64 s.an])) (s.ah.map bv) (s.hd.map bv ++ [.int .i64 s.last, v]) _ (by simp [icells]) (by simp [ok.b]) (by simp [ok.a]) (by simp [icells])
theorem ip_bh3 {s : Ch} {v : Value} (ok : Len3 s) {h : List UInt8} (_ : h.length = 32) : (icells s v).take 1 ++ h.map bv ++ (icells s v).drop (1 + 32) = icells { s with bh := h } v := part_put [.int .i64 s.bn] (s.bh.map bv) (.int .i64 s.an :: (s.ah.map bv ++ (s.hd.map bv ++ [.int .i64 s.last, v]))) _ (by simp [icells]) rfl (by simp [ok.b]) (by simp [icells])
theorem ip_hd3 {s : Ch} {v : Value} (ok : Len3 s) {h : List UInt8} (_ : h.length = 32) : (icells s v).take 66 ++ h.map bv ++ (icells s v).drop (66 + 32) = icells { s with hd := h } v := part_put (.int .i64 s.bn :: (s.bh.map bv ++ (.int .i64 s.an :: s.ah.map bv))) (s.hd.map bv) [.int .i64 s.last, v] _ (by simp [icells]) (by simp [ok.b, ok.a]) (by simp [ok.h]) (by simp [icells])
theorem ic_an3 {s : Ch} {v : Value} (ok : Len3 s) : (icells s v)[33]? = some (.int .i64 s.an) := part_cell (.int .i64 s.bn :: s.bh.map bv) (s.ah.map bv ++ (s.hd.map bv ++ [.int .i64 s.last, v])) (by simp [icells]) (by simp [ok.b])
theorem ic_last3 {s : Ch} {v : Value} (ok : Len3 s) : (icells s v)[98]? = some (.int .i64 s.last) := part_cell (.int .i64 s.bn :: (s.bh.map bv ++ (.int .i64 s.an :: (s.ah.map bv ++ s.hd.map bv)))) [v] (by simp [icells]) (by simp [ok.b, ok.a, ok.h])
theorem ic_len3 {s : Ch} {v : Value} (ok : Len3 s) : (icells s v).length = 100 := by simp [icells, ok.b, ok.a, ok.h]
def chA (s : Ch) (bh ah hd : List UInt8) (l : List Evt) : Ch := ⟨s.bn, bh, s.an, ah, hd, s.last, l⟩
/-- The chain while it is loaded: with fresh numbers, hashes, events. -/
abbrev cI (p : Nat) (s : Ch) (v : Value) : HP := pts p (.cells (icells s v).toArray 98 (0, 0))
theorem said_row {l : List RV} {s : Ch} (hs : l.map RV.said = rowsOf s) {i : Nat} {y : List UInt8 × List (List UInt8)} (hy : (rowsOf s)[i]? = some y) : ∃ x, l[i]? = some x ∧ x.said = y := by
  rw [← hs, List.getElem?_map, Option.map_eq_some_iff] at hy
  obtain ⟨x, h1, h2⟩ := hy
  exact ⟨x, h1, h2⟩
end Go.Proofs.YtmnaalpjhkkglaaDoor

/-
  Rows of texts compared.
-/
set_option linter.all false
set_option maxRecDepth 10000
namespace Go.Proofs.YtmnaalpjhkkglaaDoor
open Go Hold
variable {E : World0} {w : World} {H R : HP} {K : Value → World → Prop}
end Go.Proofs.YtmnaalpjhkkglaaDoor

/-
  Rows compared; rows put in order that are in order.
-/
set_option linter.all false
set_option maxRecDepth 10000
namespace Go.Proofs.YtmnaalpjhkkglaaDoor
open Go Hold
variable {E : World0} {w : World} {H R : HP} {K : Value → World → Prop}
theorem rvs_cell {l : List RV} {i f : Nat} {x : RV} {v : Value} (h : l[i]? = some x) (hf : (rvc x)[f]? = some v) : (rvs l)[i * 2 + f]? = some v := take_cell (rvs_at h) hf
theorem said_at {l m : List RV} (h : l.map RV.said = m.map RV.said) {i : Nat} (hl : i < l.length) (hm : i < m.length) : l[i].key = m[i].key ∧ l[i].cols = m[i].cols := by
  have := congrArg (fun q : List (List UInt8 × List (List UInt8)) => q[i]?) h
  simp only [List.getElem?_map, List.getElem?_eq_getElem hl, List.getElem?_eq_getElem hm, Option.map_some, Option.some.injEq, RV.said, Prod.mk.injEq] at this
  exact this
end Go.Proofs.YtmnaalpjhkkglaaDoor

/-
  The order of numbers' texts.
-/
set_option linter.all false
set_option maxRecDepth 10000
namespace Go.Proofs.YtmnaalpjhkkglaaDoor
open Go Hold
variable {E : World0} {w : World} {H R : HP} {K : Value → World → Prop}
/-! Texts of numbers are ordered as the numbers are. -/
theorem lex_last {a b : List UInt8} {x y : UInt8} (h : a.length = b.length) : lexB (a ++ [x]) (b ++ [y]) = if a = b then decide (x < y) else lexB a b := by
  induction a generalizing b with
  | nil =>
    have : b = [] := List.eq_nil_of_length_eq_zero h.symm
    subst this
    simp only [List.nil_append, lexB, if_true]
    by_cases hxy : x = y
    · subst hxy; simp
    · simp [hxy]
  | cons c a ih =>
    cases b with
    | nil => simp at h
    | cons d b =>
      simp only [List.cons_append, lexB]
      by_cases hcd : c = d
      · subst hcd
        simp [ih (by simpa using h)]
      · have : ¬ (c :: a = d :: b) := fun h => hcd (List.cons.inj h).1
        rw [if_neg hcd, if_neg this, if_neg hcd]
theorem dig_lt : ∀ x, x < 16 → ∀ y, y < 16 → (decide (dig x < dig y) = decide (x < y)) := by decide
theorem lexB_irrefl (a : List UInt8) : lexB a a = false := by
  induction a with
  | nil => rfl
  | cons c a ih => simp [lexB, ih]
theorem first_byte {m n : Nat} (hm : m ≤ 16) (hn : n ≤ 16) : (UInt8.ofNat (97 + m) = UInt8.ofNat (97 + n) ↔ m = n) ∧ (UInt8.ofNat (97 + m) < UInt8.ofNat (97 + n) ↔ m < n) := by
  rw [UInt8.lt_iff_toNat_lt, ← UInt8.toNat_inj, UInt8.toNat_ofNat', UInt8.toNat_ofNat']
  omega
theorem hexs_len16 {n : Nat} (h : n < 16 ^ 16) : (hexs n).length ≤ 16 := hexs_length 16 n h
theorem num_lex : ∀ (n a b : Nat), a < n → a < 16 ^ 16 → b < 16 ^ 16 → lexB (numText a) (numText b) = decide (a < b)
  | 0, a, b, h, _, _ => by omega
  | n + 1, a, b, hn, ha, hb => by
    have la := hexs_len16 ha
    have lb := hexs_len16 hb
    unfold numText
    simp only [lexB]
    obtain ⟨fe, fl⟩ := first_byte la lb
    by_cases ha0 : a = 0
    · subst ha0
      by_cases hb0 : b = 0
      · subst hb0; rw [hexs_zero]; simp [lexB]
      · have : 0 < (hexs b).length := by rw [hexs_pos hb0]; simp
        rw [hexs_zero] at fe fl ⊢
        have f1 : ¬ (UInt8.ofNat (97 + ([] : List UInt8).length) = UInt8.ofNat (97 + (hexs b).length)) := fun h => by have := fe.1 h; simp at this; omega
        rw [if_neg f1]
        have : UInt8.ofNat (97 + ([] : List UInt8).length) < UInt8.ofNat (97 + (hexs b).length) := fl.2 (by simpa using this)
        rw [decide_eq_true this, decide_eq_true (by omega)]
    · by_cases hb0 : b = 0
      · subst hb0
        have hpos : 0 < (hexs a).length := by rw [hexs_pos ha0]; simp
        rw [hexs_zero] at fe fl ⊢
        have f1 : ¬ (UInt8.ofNat (97 + (hexs a).length) = UInt8.ofNat (97 + ([] : List UInt8).length)) := fun h => by have := fe.1 h; simp only [List.length_nil] at this; omega
        rw [if_neg f1]
        have : ¬ UInt8.ofNat (97 + (hexs a).length) < UInt8.ofNat (97 + ([] : List UInt8).length) := fun h => by have := fl.1 h; simp at this
        rw [decide_eq_false this, decide_eq_false (by omega)]
      · have ih := num_lex n (a / 16) (b / 16) (by omega) (by omega) (by omega)
        unfold numText at ih
        simp only [lexB] at ih
        obtain ⟨ge, gl⟩ := first_byte (hexs_len16 (n := a / 16) (by omega)) (hexs_len16 (n := b / 16) (by omega))
        have ea : (hexs a).length = (hexs (a / 16)).length + 1 := by rw [hexs_pos ha0]; simp
        have eb : (hexs b).length = (hexs (b / 16)).length + 1 := by rw [hexs_pos hb0]; simp
        by_cases hl : (hexs (a / 16)).length = (hexs (b / 16)).length
        · rw [if_pos (fe.2 (by omega)), hexs_pos ha0, hexs_pos hb0, lex_last hl, dig_lt _ (by omega) _ (by omega)]
          rw [if_pos (ge.2 hl)] at ih
          by_cases hh : hexs (a / 16) = hexs (b / 16)
          · rw [if_pos hh]
            rw [hh, lexB_irrefl] at ih
            have ih2 := num_lex n (a / 16) (b / 16) (by omega) (by omega) (by omega)
            have hq : a / 16 = b / 16 := by
              have h1 : ¬ (a / 16 < b / 16) := by simpa using ih.symm
              -- the other way round
              have h2 : ¬ (b / 16 < a / 16) := by
                intro hlt
                have ih3 := num_lex n (b / 16) (a / 16) (by omega) (by omega) (by omega)
                unfold numText at ih3
                rw [hh, lexB_irrefl] at ih3
                have : ¬ (b / 16 < a / 16) := by simpa using ih3.symm
                exact this hlt
              omega
            rw [decide_eq_decide]; omega
          · rw [if_neg hh, ih, decide_eq_decide]
            have hne : a / 16 ≠ b / 16 := fun h => hh (by rw [h])
            omega
        · have f1 : ¬ (UInt8.ofNat (97 + (hexs a).length) = UInt8.ofNat (97 + (hexs b).length)) := fun h => by have := fe.1 h; omega
          have g1 : ¬ (UInt8.ofNat (97 + (hexs (a / 16)).length) = UInt8.ofNat (97 + (hexs (b / 16)).length)) := fun h => hl (ge.1 h)
          rw [if_neg f1, decide_eq_decide, fl]
          rw [if_neg g1, decide_eq_decide, gl] at ih
          have hne : a / 16 ≠ b / 16 := fun h => hl (by rw [h])
          omega
theorem number_lex {a b : Nat} (ha : a ≤ 4611686018427387904) (hb : b ≤ 4611686018427387904) : lexB (numText a) (numText b) = decide (a < b) :=
  num_lex (a + 1) a b (by omega) (by show a < 18446744073709551616; omega) (by show b < 18446744073709551616; omega)
end Go.Proofs.YtmnaalpjhkkglaaDoor

/-
  The reference's rows.
-/
set_option linter.all false
set_option maxRecDepth 10000
namespace Go.Proofs.YtmnaalpjhkkglaaDoor
open Go Hold
variable {E : World0} {w : World} {H R : HP} {K : Value → World → Prop}
/-- The keys rise. -/
theorem keys_rise {s : Ch} {m : Nat} (ok : Ok s m) (hm : m ≤ 1000000000000000) (rs : Risen s) {l : List RV} (hl : l.map RV.said = rowsOf s) : ∀ (i : Nat) (x y : RV), l[i]? = some x → l[i + 1]? = some y → lexB x.key y.key = true := by
  intro i x y hx hy
  have := ok.top; have := ok.b0
  have hkx : ((rowsOf s)[i]?).map (·.1) = some x.key := by rw [← hl, List.getElem?_map, hx]; rfl
  have hky : ((rowsOf s)[i + 1]?).map (·.1) = some y.key := by rw [← hl, List.getElem?_map, hy]; rfl
  have hlen : (heads s).length = 4 := rfl
  unfold rowsOf at hkx hky
  by_cases h4 : i < 3
  · have : i = 0 ∨ i = 1 ∨ i = 2 := by omega
    rcases this with rfl | rfl | rfl
    all_goals
      simp [heads] at hkx hky
      rw [← hkx, ← hky]
      rfl
  · rw [List.getElem?_append_right (by omega), hlen, List.getElem?_map, Option.map_map] at hky
    obtain ⟨b, hb, eb⟩ := Option.map_eq_some_iff.1 hky
    have eb : 110 :: numT b.n = y.key := eb
    by_cases h5 : i = 3
    · subst h5
      simp [heads] at hkx
      rw [← hkx, ← eb]
      rfl
    · rw [List.getElem?_append_right (by omega), hlen, List.getElem?_map, Option.map_map] at hkx
      obtain ⟨a, ha, ea⟩ := Option.map_eq_some_iff.1 hkx
      have ea : 110 :: numT a.n = x.key := ea
      obtain ⟨na, _⟩ := rs.num _ _ ha
      obtain ⟨nb, _⟩ := rs.num _ _ hb
      have hla := (List.getElem?_eq_some_iff.1 ha).1
      have hlb := (List.getElem?_eq_some_iff.1 hb).1
      rw [← ea, ← eb]
      obtain ⟨ka, hka⟩ := Int.eq_ofNat_of_zero_le (show 0 ≤ a.n by omega)
      obtain ⟨kb, hkb⟩ := Int.eq_ofNat_of_zero_le (show 0 ≤ b.n by omega)
      have e : ∀ n : Nat, n ≤ 4611686018427387904 → numT (n : Int) = numText n := fun n hn => by
        unfold numT number
        rw [if_neg (by omega)]
        rfl
      rw [hka, hkb, e ka (by omega), e kb (by omega)]
      have := number_lex (a := ka) (b := kb) (by omega) (by omega)
      simp only [lexB, if_true, this, decide_eq_true_eq]
      omega
def φR (s : Ch) : Nat → Value → PP
  | 1, v => ppOf (v = tv s.ah)
  | 5, v => ppOf (v = tv s.bh)
  | 8, v => ppOf (v = tv s.hd)
  | 0, v => immS v 3 ([numT s.bn, numT s.an, numT s.last].map tv)
  | 3, v => immS v 1 ([s.ah].map tv)
  | 6, v => immS v 1 ([s.bh].map tv)
  | 9, v => immS v 1 ([s.hd].map tv)
  | 2, v => ⟨fun I => ∃ u, v = .agg (rvc ⟨[35], u, [numT s.bn, numT s.an, numT s.last]⟩).toArray ∧ RdS I u 3 ([numT s.bn, numT s.an, numT s.last].map tv), fun hI ⟨u, h1, h2⟩ => ⟨u, h1, h2.mono hI⟩⟩
  | 4, v => ⟨fun I => ∃ u, v = .agg (rvc ⟨[97], u, [s.ah]⟩).toArray ∧ RdS I u 1 ([s.ah].map tv), fun hI ⟨u, h1, h2⟩ => ⟨u, h1, h2.mono hI⟩⟩
  | 7, v => ⟨fun I => ∃ u, v = .agg (rvc ⟨[98], u, [s.bh]⟩).toArray ∧ RdS I u 1 ([s.bh].map tv), fun hI ⟨u, h1, h2⟩ => ⟨u, h1, h2.mono hI⟩⟩
  | 10, v => ⟨fun I => ∃ u, v = .agg (rvc ⟨[104], u, [s.hd]⟩).toArray ∧ RdS I u 1 ([s.hd].map tv), fun hI ⟨u, h1, h2⟩ => ⟨u, h1, h2.mono hI⟩⟩
  | _, _ => ppOf True
end Go.Proofs.YtmnaalpjhkkglaaDoor

/-
  Forks; both chains the same.
-/
set_option linter.all false
set_option maxRecDepth 100000
namespace Go.Proofs.YtmnaalpjhkkglaaDoor
open Go Hold
variable {E : World0} {w : World} {H R X : HP} {K : Value → World → Prop}
theorem ic_one {s : Ch} {v : Value} (hv : v.oneCell' = true) : ∀ x ∈ icells s v, x.oneCell' = true := by
  intro x hx
  simp only [icells, List.mem_cons, List.mem_append, List.not_mem_nil, or_false] at hx
  rcases hx with rfl | hx | rfl | hx | hx | rfl | rfl
  · rfl
  · exact bv_one _ x hx
  · rfl
  · exact bv_one _ x hx
  · exact bv_one _ x hx
  · rfl
  · exact hv
theorem rc_one {s : Ch} {v : Value} (hv : v.oneCell' = true) : ∀ x ∈ rcells s v, x.oneCell' = true := by
  intro x hx
  simp only [rcells, List.mem_cons, List.mem_append, List.not_mem_nil, or_false] at hx
  rcases hx with rfl | rfl | rfl | hx | hx | hx | rfl
  · rfl
  · rfl
  · rfl
  · exact bv_one _ x hx
  · exact bv_one _ x hx
  · exact bv_one _ x hx
  · exact hv
end Go.Proofs.YtmnaalpjhkkglaaDoor

/-
  TopNoted: the walk.
-/
set_option linter.all false
set_option maxRecDepth 100000
namespace Go.Proofs.YtmnaalpjhkkglaaDoor
open Go Hold
variable {E : World0} {w : World} {H R : HP} {K : Value → World → Prop}
structure NChn (s : Ch) (i d : Nat) : Prop where
  ok : Ok s d
  rt : Right s
  bn : s.bn = 0
  len : s.l.length = d
  last : s.last ≤ i
  le : d ≤ i
theorem nchn_new : NChn newS 0 0 := ⟨ok_new, right_new, rfl, rfl, by simp [newS], by omega⟩
theorem NChn.up {s : Ch} {i d : Nat} (h : NChn s i d) : NChn s (i + 1) d := ⟨h.ok, h.rt, h.bn, h.len, by have := h.last; omega, by have := h.le; omega⟩
theorem nchn_add {s : Ch} {i d : Nat} {a b : List UInt8} (h : NChn s i d) (hi : i < 60) (ha : a.length ≤ 12) (hb : b.length ≤ 30) : NChn (addS s i a b).1 (i + 1) (d + 1) ∧ (addS s i a b).2.2 = 0 := by
  have e : addS s (i : Int) a b = ({ s with l := s.l ++ [newE s i a b], hd := nx s.hd (newE s i a b), last := (i : Int) }, newE s i a b, 0) := by
    have h1 := h.last
    have h2 := h.len
    have h3 := h.le
    unfold addS
    rw [if_neg (by omega), if_neg (by omega), if_neg (by omega), if_neg (by omega)]
  have ed : doS s ⟨0, i, 0, a, b⟩ = (addS s i a b).1 := by unfold doS; rw [if_pos rfl]
  have h3 := h.le
  refine ⟨⟨ok_add h.ok, ed ▸ right_do h.ok h.rt, ?_, ?_, ?_, by omega⟩, ?_⟩
  · rw [e]; exact h.bn
  · rw [e]; simp [h.len]
  · rw [e]; simp only; omega
  · rw [e]
theorem u8_any (z : Int) : ∃ y : UInt8, IntKind.u8.wrap z = ((y.toNat : Nat) : Int) := by
  refine ⟨UInt8.ofNat (z % 256).toNat, ?_⟩
  rw [IntKind.wrap_u8, UInt8.toNat_ofNat']
  omega
theorem u8_rem16 (x : UInt8) : ∃ y : UInt8, (((x.toNat : Nat) : Int).tmod 16) = ((y.toNat : Nat) : Int) ∧ y &&& 15 = y := by
  refine ⟨UInt8.ofNat (x.toNat % 16), ?_, ?_⟩
  · rw [UInt8.toNat_ofNat', Int.tmod_eq_emod_of_nonneg (by omega)]
    omega
  · have h : ∀ n : Fin 16, UInt8.ofNat n.val &&& 15 = UInt8.ofNat n.val := by decide
    exact h ⟨x.toNat % 16, by omega⟩
theorem and15 {s : UInt8} (hs : s &&& 15 = s) {K : Value → World → Prop} : pvv prog (binOp .and 48 (bv s) (.int .u8 15)) w K = K (bv s) w := by
  have h : ∀ s : UInt8, ∀ w : World, s &&& 15 = s → (binOp .and 48 (bv s) (.int .u8 15)).run prog w = .ok (bv s) w := by
    intro s w hs
    have e : IntKind.u8.wrap ((BitVec.ofInt 8 (s.toNat : Int) &&& BitVec.ofInt 8 15).toNat : Int) = (s.toNat : Int) := by
      have h1 : ∀ s : UInt8, (BitVec.ofInt 8 (s.toNat : Int) &&& BitVec.ofInt 8 15).toNat = (s &&& 15).toNat := by
        intro s
        rw [BitVec.toNat_and, UInt8.toNat_and, BitVec.ofInt_natCast, BitVec.toNat_ofNat, Nat.mod_eq_of_lt s.toNat_lt]
        rfl
      rw [h1, hs, IntKind.wrap_u8]
      have := s.toNat_lt
      omega
    show (pure (.int .u8 (IntKind.u8.wrap ((BitVec.ofInt 8 (s.toNat : Int) &&& BitVec.ofInt 8 15).toNat : Int))) : Sem Value).run prog w = _
    rw [e]
    rfl
  exact pvv_eq fun w => h s w hs
theorem Noted_spec (h : sat E w H) (hd : Dbt H) {v : Value} (l : List UInt8) (hl : Rds H v l.length (l.map bv)) (ml : l.length ≤ 140737488351232)
    (k : ∀ w', sat E w' H → K (.bool true) w') : Calls prog 4 #[v] w (Ret K) := by
  obtain ⟨va, vc, rfl, hvc, hl, _⟩ := hl.shape h
  refine c4 ?_
  unfold B4
  refine GNew_spec h fun p a b w h => ?_
  refine New_spec h fun q w h => ?_
  simp only [↓o_eqPtr, Option.isNone_some, ↓gate_ff, ↓o_pick, Bool.false_eq_true, if_false, ↓reduceIte, ↓cd_false]
  refine lp_nat (fun r σ w => ∃ (i d : Nat) (s : Ch) (v1 : Value) (cl : List (K2 × Value)) (co : List (K3 × Value)), σ = [.int .i64 (d : Int), .int .i64 (i : Int)] ∧ r = 60 - i ∧ i ≤ 60 ∧ NChn s i d ∧ Inv cl co i ∧ sat E w (chI q s v1 (gI p a b cl co H))) 60
    ⟨0, 0, newS, _, [], [], rfl, rfl, by omega, nchn_new, inv_zero, h⟩ ?_
  clear h
  rintro r σ w again ⟨i, d, s, v1, cl, co, rfl, rfl, hi, ch, inv, h⟩ hag
  rw [pop_cons, pop_cons, fin_nil, o_len, two_tests]
  refine cd_dec (fun hlt => ?_) (fun hge => ?_)
  · obtain ⟨hlt1, hlt2⟩ := hlt
    have hi2 : i < l.length := by omega
    have hlI : ∀ {s v1 cl co X}, Rds (chI q s v1 (gI p a b cl co (X * H))) (.slice va l.length vc) l.length (l.map bv) := fun {s v1 cl co X} => hl.right.right.right.right.right.right
    have hlE : ∀ {s v1 cl co}, Rds (chI q s v1 (gI p a b cl co H)) (.slice va l.length vc) l.length (l.map bv) := fun {s v1 cl co} => hl.right.right.right.right.right
    obtain ⟨bb, oo, _, ee, _, _⟩ := hlE.opened h (by simp; omega)
    cases ee
    have hli : l[i]? = some l[i] := List.getElem?_eq_getElem hi2
    generalize l[i] = x at hli
    have hbv : (l.map bv)[i]? = some (bv x) := by rw [List.getElem?_map, hli]; rfl
    have ix : ∀ {w : World} {K : Value → World → Prop}, pvv prog (Instr.indexAt 25 (.slice (some ⟨bb, oo, none⟩) l.length vc) (.int .i64 (i : Int))) w K = K (.pointer (some ⟨bb, oo + i * 1, none⟩)) w := fun {w K} => by
      rw [o_index (by omega) (by omega), Int.toNat_natCast]
    have rem : ∀ {m : Int} {w : World} {K : Value → World → Prop}, m ≠ 0 → pvv prog (binOp .rem 5 (bv x) (.int .u8 m)) w K = K (.int .u8 ((x.toNat : Int).tmod m)) w := fun {m w K} hm => by unfold bv; exact o_rem hm
    refine jn_cut (fun σ w => ∃ (d' : Nat) (s' : Ch) (v' : Value) (cl' : List (K2 × Value)) (co' : List (K3 × Value)), σ = [.int .i64 (d' : Int)] ∧ NChn s' (i + 1) d' ∧ Inv cl' co' (i + 1) ∧ sat E w (chI q s' v' (gI p a b cl' co' H))) (fun k16 hk16 => ?_) ?_
    · rw [ix]
      refine ld_rd h hlE i (by omega) hbv ?_
      rw [rem (by decide), o_add]
      obtain ⟨y, hy⟩ := u8_any (97 + ((x.toNat : Nat) : Int).tmod 5)
      rw [hy]
      refine buildSlice_sl (e := 5) (cs := #[bv y]) h (fun w => by kernel_rfl) fun yb w h => ?_
      refine conv_bs (l := [y]) (rds_block (b := yb) (xs := [bv y]) (Nat.le_refl 1) E w h) ?_
      have h := h.drop
      rw [ix]
      refine ld_rd h hlE i (by omega) hbv ?_
      rw [rem (by decide), o_add]
      obtain ⟨y2, hy2⟩ := u8_any (117 + ((x.toNat : Nat) : Int).tmod 3)
      rw [hy2]
      refine buildSlice_sl (e := 5) (cs := #[bv y2]) h (fun w => by kernel_rfl) fun yb2 w h => ?_
      refine conv_bs (l := [y2]) (rds_block (b := yb2) (xs := [bv y2]) (Nat.le_refl 1) E w h) ?_
      have h := h.drop
      refine pvv_of (v := .agg (ocl [116] [y2]).toArray) (fun w => by kernel_rfl) ?_
      refine ow_in h (xs := ocl [116] [y2]) rfl (ocl_one _ _) fun ob w h => ?_
      have h : sat E w (chI q s v1 (gI p a b cl co (pts ob (.cells (ocl [116] [y2]).toArray 46 (0, 0)) * H))) := h.perm (by (try unfold gI); unfold chI; ac_rfl)
      have eny : (.string ⟨[y].toArray⟩ : Value) = tv [y] := rfl
      have en116 : (.string ⟨#[116]⟩ : Value) = tv [116] := rfl
      rw [eny, en116]
      refine jn_cut (fun σ w => ∃ (e : Int) (cl' : List (K2 × Value)) (co' : List (K3 × Value)), σ = [.int .i64 e] ∧ Inv cl' co' (i + 1) ∧ sat E w (chI q s v1 (gI p a b cl' co' (pts ob (.cells (ocl [116] [y2]).toArray 46 (0, 0)) * H)))) (fun k65 hk65 => ?_) ?_
      · rw [ix]
        refine ld_rd h hlI i (by omega) hbv ?_
        rw [rem (by decide), o_eqInt]
        have h := h.perm (show _ = gI p a b cl co (chI q s v1 (pts ob (.cells (ocl [116] [y2]).toArray 46 (0, 0)) * H)) by (try unfold gI); unfold chI; ac_rfl)
        have back : ∀ {w cl co}, sat E w (gI p a b cl co (chI q s v1 (pts ob (.cells (ocl [116] [y2]).toArray 46 (0, 0)) * H))) → sat E w (chI q s v1 (gI p a b cl co (pts ob (.cells (ocl [116] [y2]).toArray 46 (0, 0)) * H))) := fun h => h.perm (by (try unfold gI); unfold chI; ac_rfl)
        refine cd_dec (fun _ => ?_) (fun _ => ?_)
        · refine pvv_of (v := cvv ⟨[116], [y]⟩) (fun w => by kernel_rfl) ?_
          refine Register_spec (by simp) (by simp) inv (by omega) h fun e cl' w inv' h => ?_
          exact hk65 _ _ ⟨e, cl', co, rfl, inv', back h⟩
        · refine jn_cut (fun σ w => ∃ q' : Bool, σ = [.bool q'] ∧ sat E w (gI p a b cl co (chI q s v1 (pts ob (.cells (ocl [116] [y2]).toArray 46 (0, 0)) * H)))) (fun k83 hk83 => ?_) ?_
          · rw [o_eqInt]
            refine cd_dec (fun _ => hk83 _ _ ⟨_, rfl, h⟩) (fun _ => ?_)
            rw [o_eqInt]
            exact hk83 _ _ ⟨_, rfl, h⟩
          · clear h
            rintro σ w ⟨q', rfl, h⟩
            rw [pop_cons, fin_nil]
            refine cd_split (fun _ => ?_) (fun _ => ?_)
            · have hlG : Rds (gI p a b cl co (chI q s v1 (pts ob (.cells (ocl [116] [y2]).toArray 46 (0, 0)) * H))) (.slice (some ⟨bb, oo, none⟩) l.length vc) l.length (l.map bv) := hl.right.right.right.right.right.right
              refine dr_sl h fun w h _ => ?_
              rw [ix]
              try simp only [↓o_bind]
              refine ld_agg (b := ob) h rfl ?_
              refine ld_rd h hlG i (by omega) hbv ?_
              rw [rem (by decide)]
              obtain ⟨z, hz, hz15⟩ := u8_rem16 x
              rw [hz]
              refine pvv_of (v := .agg (cscells ⟨⟨[116], [y2], [y]⟩, z⟩).toArray) (fun w => by kernel_rfl) ?_
              refine Allow_spec (x := ⟨⟨[116], [y2], [y]⟩, z⟩) (by simp) (by simp) hz15 inv (by omega) h fun e co' w inv' h => ?_
              have hlG' : Rds (gI p a b cl co' (chI q s v1 (pts ob (.cells (ocl [116] [y2]).toArray 46 (0, 0)) * H))) (.slice (some ⟨bb, oo, none⟩) l.length vc) l.length (l.map bv) := hl.right.right.right.right.right.right
              try simp only [↓stay_v]
              refine st_rd h hlG' i (by omega) hbv ?_
              refine st_agg (b := ob) h rfl ?_
              exact hk65 _ _ ⟨e, cl, co', rfl, inv', back h⟩
            · refine Drop_spec inv h fun e cl' co' w inv' h => ?_
              exact hk65 _ _ ⟨e, cl', co', rfl, inv'.up, back h⟩
      · clear h
        rintro σ w ⟨e, cl', co', rfl, inv', h⟩
        rw [pop_cons, fin_nil]
        refine jn_cut (fun σ w => ∃ (d' : Nat) (s' : Ch) (v' : Value), σ = [.int .i64 (d' : Int)] ∧ NChn s' (i + 1) d' ∧ sat E w (chI q s' v' (gI p a b cl' co' (pts ob (.cells (ocl [116] [y2]).toArray 46 (0, 0)) * H)))) (fun k56 hk56 => ?_) ?_
        · rw [o_eqInt]
          refine cd_dec (fun _ => ?_) (fun _ => hk56 _ _ ⟨d, s, v1, rfl, ch.up, h⟩)
          obtain ⟨ca, ce⟩ := nchn_add (a := [103, 114, 97, 110, 116]) (b := [y]) ch (by omega) (by simp) (by simp)
          have hdl := ch.le
          refine Add_spec (a := [103, 114, 97, 110, 116]) (b := [y]) ch.ok (by omega) (show Dbt (gI p a b cl' co' (pts ob (.cells (ocl [116] [y2]).toArray 46 (0, 0)) * H)) from hd.right.right.right.right) h fun v' w h => ?_
          rw [o_extract, o_extract]
          refine evt_in h fun b1 w h => ?_
          rw [ce, o_neInt, show (!decide ((0 : Int) = 0)) = false from rfl, cd_false, o_add, i64_of (by omega) (by omega)]
          exact hk56 _ _ ⟨d + 1, _, v', rfl, ca, h.drop⟩
        · clear h
          rintro σ w ⟨d', s', v', rfl, ch', h⟩
          rw [pop_cons, fin_nil]
          refine ld_agg (b := ob) h rfl ?_
          have h := h.perm (show _ = gI p a b cl' co' (chI q s' v' (pts ob (.cells (ocl [116] [y2]).toArray 46 (0, 0)) * H)) by (try unfold gI); unfold chI; ac_rfl)
          have back : ∀ {w}, sat E w (gI p a b cl' co' (chI q s' v' (pts ob (.cells (ocl [116] [y2]).toArray 46 (0, 0)) * H))) → sat E w (chI q s' v' (gI p a b cl' co' H)) := fun h => (h.perm (show _ = pts ob (.cells (ocl [116] [y2]).toArray 46 (0, 0)) * chI q s' v' (gI p a b cl' co' H) by (try unfold gI); unfold chI; ac_rfl)).drop
          have hvs : ∀ y ∈ co', ∃ s : UInt8, y.2 = bv s := fun y hy => (inv'.o y hy).1.imp fun _ h => h.1
          refine GConsent_spec hvs h (fun w h => ?_) (fun z w hm h => ?_)
          · rw [o_extract, o_extract]
            refine cs_in h (xs := zero4) rfl zero4_one fun ab w h => ?_
            rw [o_eqInt, decide_eq_false (by decide), cd_false]
            exact hk16 _ _ ⟨d', s', v', cl', co', rfl, ch', inv', back h.drop⟩
          · rw [o_extract, o_extract]
            refine cs_in h (xs := cscells ⟨⟨[116], [y2], [y]⟩, z⟩) rfl (cs_one _) fun ab w h => ?_
            rw [o_eqInt, decide_eq_true rfl, cd_true]
            obtain ⟨⟨z', hz', hz15⟩, hcl⟩ := inv'.o _ hm
            simp only at hz' hcl
            have hzz : z = z' := bv_ne.1 hz'
            subst hzz
            have h := h.perm (show _ = gI p a b cl' co' (pts ab (.cells (cscells ⟨⟨[116], [y2], [y]⟩, z⟩).toArray 53 (0, 0)) * chI q s' v' (pts ob (.cells (ocl [116] [y2]).toArray 46 (0, 0)) * H)) by (try unfold gI); ac_rfl)
            refine GClient_spec inv'.c h (fun hno w h => ?_) (fun _ w h => ?_)
            · obtain ⟨y', hy', he⟩ := hcl
              exact absurd he (hno y' hy')
            · rw [o_extract, o_extract]
              refine cl_in h (xs := ccells ⟨[116], [y]⟩) rfl (cc_one _) fun xb w h => ?_
              simp only [show decide ((0 : Int) = 0) = true from rfl, ↓o_nil, ↓o_field, ↓o_add, ↓o_sub, ↓o_mul, ↓o_lss, ↓o_leq, ↓o_gtr, ↓o_geq, ↓o_not, ↓o_pick, ↓o_eqInt, ↓o_neInt, ↓o_eqBool, ↓o_neBool, ↓o_eqPtr, ↓o_nePtr, ↓o_eqPtr', ↓o_eqSl, ↓o_neSl, ↓o_eqStr, ↓o_neStr, ↓o_len, ↓o_lenS, ↓o_min, ↓o_max, ↓o_extract, ↓o_convInt, ↓cd_true, ↓cd_false, ↓gate_tt, ↓gate_ff, ↓gate_tf, ↓gate_ft, ↓gate_undef, ↓o_bind, ↓stay_v, ↓pop_cons, ↓fin_nil, Option.isNone_none, Option.isNone_some, Bool.not_true, Bool.not_false, Nat.zero_add, decide_true, decide_false, if_true, if_false, Bool.false_eq_true, ↓reduceIte]
              refine ld_in (b := ab) (v := bv z) h rfl ?_
              try simp only [↓o_nil, ↓o_field, ↓o_add, ↓o_sub, ↓o_mul, ↓o_lss, ↓o_leq, ↓o_gtr, ↓o_geq, ↓o_not, ↓o_pick, ↓o_eqInt, ↓o_neInt, ↓o_eqBool, ↓o_neBool, ↓o_eqPtr, ↓o_nePtr, ↓o_eqPtr', ↓o_eqSl, ↓o_neSl, ↓o_eqStr, ↓o_neStr, ↓o_len, ↓o_lenS, ↓o_min, ↓o_max, ↓o_extract, ↓o_convInt, ↓cd_true, ↓cd_false, ↓gate_tt, ↓gate_ff, ↓gate_tf, ↓gate_ft, ↓gate_undef, ↓o_bind, ↓stay_v, ↓pop_cons, ↓fin_nil, Option.isNone_none, Option.isNone_some, Bool.not_true, Bool.not_false, Nat.zero_add, decide_true, decide_false, if_true, if_false, Bool.false_eq_true, ↓reduceIte]
              refine ld_in (b := xb) (v := .int .u8 15) h rfl ?_
              try simp only [↓o_nil, ↓o_field, ↓o_add, ↓o_sub, ↓o_mul, ↓o_lss, ↓o_leq, ↓o_gtr, ↓o_geq, ↓o_not, ↓o_pick, ↓o_eqInt, ↓o_neInt, ↓o_eqBool, ↓o_neBool, ↓o_eqPtr, ↓o_nePtr, ↓o_eqPtr', ↓o_eqSl, ↓o_neSl, ↓o_eqStr, ↓o_neStr, ↓o_len, ↓o_lenS, ↓o_min, ↓o_max, ↓o_extract, ↓o_convInt, ↓cd_true, ↓cd_false, ↓gate_tt, ↓gate_ff, ↓gate_tf, ↓gate_ft, ↓gate_undef, ↓o_bind, ↓stay_v, ↓pop_cons, ↓fin_nil, Option.isNone_none, Option.isNone_some, Bool.not_true, Bool.not_false, Nat.zero_add, decide_true, decide_false, if_true, if_false, Bool.false_eq_true, ↓reduceIte]
              rw [and15 hz15]
              try simp only [↓o_nil, ↓o_field, ↓o_add, ↓o_sub, ↓o_mul, ↓o_lss, ↓o_leq, ↓o_gtr, ↓o_geq, ↓o_not, ↓o_pick, ↓o_eqInt, ↓o_neInt, ↓o_eqBool, ↓o_neBool, ↓o_eqPtr, ↓o_nePtr, ↓o_eqPtr', ↓o_eqSl, ↓o_neSl, ↓o_eqStr, ↓o_neStr, ↓o_len, ↓o_lenS, ↓o_min, ↓o_max, ↓o_extract, ↓o_convInt, ↓cd_true, ↓cd_false, ↓gate_tt, ↓gate_ff, ↓gate_tf, ↓gate_ft, ↓gate_undef, ↓o_bind, ↓stay_v, ↓pop_cons, ↓fin_nil, Option.isNone_none, Option.isNone_some, Bool.not_true, Bool.not_false, Nat.zero_add, decide_true, decide_false, if_true, if_false, Bool.false_eq_true, ↓reduceIte]
              refine ld_in (b := ab) (v := bv z) h rfl ?_
              unfold bv
              rw [o_neInt, decide_eq_true rfl]
              simp only [Bool.not_true, ↓o_nil, ↓o_field, ↓o_add, ↓o_sub, ↓o_mul, ↓o_lss, ↓o_leq, ↓o_gtr, ↓o_geq, ↓o_not, ↓o_pick, ↓o_eqInt, ↓o_neInt, ↓o_eqBool, ↓o_neBool, ↓o_eqPtr, ↓o_nePtr, ↓o_eqPtr', ↓o_eqSl, ↓o_neSl, ↓o_eqStr, ↓o_neStr, ↓o_len, ↓o_lenS, ↓o_min, ↓o_max, ↓o_extract, ↓o_convInt, ↓cd_true, ↓cd_false, ↓gate_tt, ↓gate_ff, ↓gate_tf, ↓gate_ft, ↓gate_undef, ↓o_bind, ↓stay_v, ↓pop_cons, ↓fin_nil, Option.isNone_none, Option.isNone_some, Bool.not_true, Bool.not_false, Nat.zero_add, decide_true, decide_false, if_true, if_false, Bool.false_eq_true, ↓reduceIte]
              have h := h.drop
              exact hk16 _ _ ⟨d', s', v', cl', co', rfl, ch', inv', back (h.perm (show _ = pts ab (.cells (cscells ⟨⟨[116], [y2], [y]⟩, z⟩).toArray 53 (0, 0)) * gI p a b cl' co' (chI q s' v' (pts ob (.cells (ocl [116] [y2]).toArray 46 (0, 0)) * H)) by (try unfold gI); ac_rfl)).drop⟩
    · clear h
      rintro σ w ⟨d', s', v', cl', co', rfl, ch', inv', h⟩
      rw [pop_cons, fin_nil, o_add, i64_of (by omega) (by omega)]
      exact hag (60 - (i + 1)) _ _ (by omega) ⟨i + 1, d', s', v', cl', co', rfl, rfl, by omega, ch', inv', h⟩
  · have hdl := ch.le
    obtain ⟨wa, wc, rfl, _⟩ := (Rds.evs (s := s) (p := q) (R := gI p a b cl co H)).shape h
    refine Count_spec (p := q) ch.ok (by omega) h fun w h => ?_
    have e1 : s.bn + (s.l.length : Int) = (d : Int) := by rw [ch.bn, ch.len]; omega
    rw [e1]
    simp only [show decide (((d : Nat) : Int) = (d : Int)) = true by simp, ↓o_nil, ↓o_field, ↓o_add, ↓o_sub, ↓o_mul, ↓o_lss, ↓o_leq, ↓o_gtr, ↓o_geq, ↓o_not, ↓o_pick, ↓o_eqInt, ↓o_neInt, ↓o_eqBool, ↓o_neBool, ↓o_eqPtr, ↓o_nePtr, ↓o_eqPtr', ↓o_eqSl, ↓o_neSl, ↓o_eqStr, ↓o_neStr, ↓o_len, ↓o_lenS, ↓o_min, ↓o_max, ↓o_extract, ↓o_convInt, ↓cd_true, ↓cd_false, ↓gate_tt, ↓gate_ff, ↓gate_tf, ↓gate_ft, ↓gate_undef, ↓o_bind, ↓stay_v, ↓pop_cons, ↓fin_nil, Option.isNone_none, Option.isNone_some, Bool.not_true, Bool.not_false, Nat.zero_add, decide_true, decide_false, if_true, if_false, Bool.false_eq_true, ↓reduceIte]
    refine Verify_spec ch.ok (by omega) (show Dbt (gI p a b cl co H) from hd.right.right.right) h fun w h => ?_
    rw [ch.rt.ok]
    simp only [show decide ((0 : Int) = 0) = true from rfl, ↓o_nil, ↓o_field, ↓o_add, ↓o_sub, ↓o_mul, ↓o_lss, ↓o_leq, ↓o_gtr, ↓o_geq, ↓o_not, ↓o_pick, ↓o_eqInt, ↓o_neInt, ↓o_eqBool, ↓o_neBool, ↓o_eqPtr, ↓o_nePtr, ↓o_eqPtr', ↓o_eqSl, ↓o_neSl, ↓o_eqStr, ↓o_neStr, ↓o_len, ↓o_lenS, ↓o_min, ↓o_max, ↓o_extract, ↓o_convInt, ↓cd_true, ↓cd_false, ↓gate_tt, ↓gate_ff, ↓gate_tf, ↓gate_ft, ↓gate_undef, ↓o_bind, ↓stay_v, ↓pop_cons, ↓fin_nil, Option.isNone_none, Option.isNone_some, Bool.not_true, Bool.not_false, Nat.zero_add, decide_true, decide_false, if_true, if_false, Bool.false_eq_true, ↓reduceIte]
    refine Events_spec ch.ok h fun u w h => ?_
    obtain ⟨ua, uc, rfl, _, _, _⟩ := osl_shape h
    simp only [↓o_nil, ↓o_field, ↓o_add, ↓o_sub, ↓o_mul, ↓o_lss, ↓o_leq, ↓o_gtr, ↓o_geq, ↓o_not, ↓o_pick, ↓o_eqInt, ↓o_neInt, ↓o_eqBool, ↓o_neBool, ↓o_eqPtr, ↓o_nePtr, ↓o_eqPtr', ↓o_eqSl, ↓o_neSl, ↓o_eqStr, ↓o_neStr, ↓o_len, ↓o_lenS, ↓o_min, ↓o_max, ↓o_extract, ↓o_convInt, ↓cd_true, ↓cd_false, ↓gate_tt, ↓gate_ff, ↓gate_tf, ↓gate_ft, ↓gate_undef, ↓o_bind, ↓stay_v, ↓pop_cons, ↓fin_nil, Option.isNone_none, Option.isNone_some, Bool.not_true, Bool.not_false, Nat.zero_add, decide_true, decide_false, if_true, if_false, Bool.false_eq_true, ↓reduceIte]
    rw [ch.len]
    simp only [show decide (((d : Nat) : Int) = (d : Int)) = true by simp, ↓o_nil, ↓o_field, ↓o_add, ↓o_sub, ↓o_mul, ↓o_lss, ↓o_leq, ↓o_gtr, ↓o_geq, ↓o_not, ↓o_pick, ↓o_eqInt, ↓o_neInt, ↓o_eqBool, ↓o_neBool, ↓o_eqPtr, ↓o_nePtr, ↓o_eqPtr', ↓o_eqSl, ↓o_neSl, ↓o_eqStr, ↓o_neStr, ↓o_len, ↓o_lenS, ↓o_min, ↓o_max, ↓o_extract, ↓o_convInt, ↓cd_true, ↓cd_false, ↓gate_tt, ↓gate_ff, ↓gate_tf, ↓gate_ft, ↓gate_undef, ↓o_bind, ↓stay_v, ↓pop_cons, ↓fin_nil, Option.isNone_none, Option.isNone_some, Bool.not_true, Bool.not_false, Nat.zero_add, decide_true, decide_false, if_true, if_false, Bool.false_eq_true, ↓reduceIte]
    refine k w ?_
    unfold chI at h
    exact h.drop.drop.drop.drop.drop.drop
end Go.Proofs.YtmnaalpjhkkglaaDoor
