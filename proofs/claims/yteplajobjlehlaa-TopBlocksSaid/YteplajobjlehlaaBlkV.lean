/-
  Arguments, opened: deeds.
-/
import Derived.Test.YteplajobjlehlaaBlkP
import Derived.Test.YteplajobjlehlaaLaw
set_option linter.all false
set_option maxRecDepth 10000
namespace Go.Proofs.Yteplajobjlehlaa
open Go Hold Go.ChangeShapes Go.WideShapes Go.RowKit
theorem u8_of {n : Int} (h : (Lit.int .u8 n).wf = true) : ∃ b : UInt8, Value.int .u8 n = bv b := by
  have hw : 0 ≤ n ∧ n ≤ 255 := by
    have := h
    simp only [Lit.wf, Bool.and_eq_true, decide_eq_true_eq] at this
    exact this
  refine ⟨UInt8.ofNat n.toNat, ?_⟩
  unfold bv
  congr 1
  simp
  omega
theorem open_dd {H : Type} {enc : TypeId × Value → H} {W : World} {r : Reach} {base : Nat} {sp : Nat → Bool} {hd : Bool} {b0 : Nat} {v : Value} {d : DataW H} {p : List MemPlace}
    (hv : Value.okWide prog W r b0 24 v) (h : DataW.Trod enc prog W base sp hd 24 v d p) : ∃ x : Dd, v = x.val := by
  have hs : prog.underlying 24 = some (.struct #[fieldOf prog 24 0, fieldOf prog 24 1, fieldOf prog 24 2]) := by kernel_rfl
  obtain ⟨v0, v1, v2, y0, y1, y2, n, rfl, _, _, h0, h1, h2⟩ := Joins.open_agg3 hs (by kernel_rfl) (by kernel_rfl) hv h
  rw [show (fieldOf prog 24 0).type = 3 by kernel_rfl] at h0
  rw [show (fieldOf prog 24 1).type = 3 by kernel_rfl] at h1
  rw [show (fieldOf prog 24 2).type = 5 by kernel_rfl] at h2
  obtain ⟨n0, e0, _, _⟩ := DataW.trod_int (t := 3) (k := .i64) (by kernel_rfl) h0
  obtain ⟨n1, e1, _, _⟩ := DataW.trod_int (t := 3) (k := .i64) (by kernel_rfl) h1
  obtain ⟨n2, e2, _, w2⟩ := DataW.trod_int (t := 5) (k := .u8) (by kernel_rfl) h2
  cases e0; cases e1; cases e2
  obtain ⟨b, hb⟩ := u8_of w2
  exact ⟨⟨n0, n1, b⟩, by rw [hb]; rfl⟩
theorem dd_of_cells {H : Type} {enc : TypeId × Value → H} {W : World} {base n : Nat} {sp : Nat → Bool} {hd : Bool} {cs : List Value} {y : DataW H × List MemPlace}
    (h : DataW.trod enc prog W base sp hd n 24 cs = some y) : ∃ x : Dd, cs = [.int .i64 x.n, .int .i64 x.len, bv x.b] := by
  have hs : prog.underlying 24 = some (.struct #[fieldOf prog 24 0, fieldOf prog 24 1, fieldOf prog 24 2]) := by kernel_rfl
  obtain ⟨y0, y1, y2, n, _, hl, h0, h1, h2⟩ := Deep.trod_struct3 hs h
  rw [show prog.cellsOf 24 = 3 by kernel_rfl] at hl
  match cs, hl with
  | [v0, v1, v2], _ =>
    rw [show (fieldOf prog 24 0).type = 3 by kernel_rfl, show (fieldOf prog 24 0).offset = 0 by kernel_rfl, show prog.cellsOf 3 = 1 by kernel_rfl] at h0
    rw [show (fieldOf prog 24 1).type = 3 by kernel_rfl, show (fieldOf prog 24 1).offset = 1 by kernel_rfl, show prog.cellsOf 3 = 1 by kernel_rfl] at h1
    rw [show (fieldOf prog 24 2).type = 5 by kernel_rfl, show (fieldOf prog 24 2).offset = 2 by kernel_rfl, show prog.cellsOf 5 = 1 by kernel_rfl] at h2
    obtain ⟨n0, e0, _, _⟩ := DataW.trod_int (t := 3) (k := .i64) (by kernel_rfl) h0
    obtain ⟨n1, e1, _, _⟩ := DataW.trod_int (t := 3) (k := .i64) (by kernel_rfl) h1
    obtain ⟨n2, e2, _, w2⟩ := DataW.trod_int (t := 5) (k := .u8) (by kernel_rfl) h2
    cases e0; cases e1; cases e2
    obtain ⟨b, hb⟩ := u8_of w2
    exact ⟨⟨n0, n1, b⟩, by rw [hb]⟩
/-- Deeds that came in. -/
theorem open_dds {H : Type} {enc : TypeId × Value → H} {W : World} {r : Reach} {b0 : Nat} {v : Value} {d : DataW H} {p : List MemPlace}
    (hv : Value.okWide prog W r b0 22 v) (h : DataW.Trod enc prog W 0 (fun _ => true) true 22 v d p) : ∃ ds : List Dd, Rds (old W) v ds.length (dcells ds) ∧ ds.length ≤ 9223372036854775807 := by
  have ht : prog.underlying 22 = some (.slice 24) := by kernel_rfl
  obtain ⟨a, len, cap, rfl⟩ := okWide_slice ht hv
  obtain ⟨fuel, hf⟩ := h
  rcases Deep.open_slice ht hf with ⟨e, _⟩ | ⟨a', len', cap', m, n, D, Pl, e, _, hlc, hcm, hm, _, hx⟩
  · simp [Value.cells] at e
    obtain ⟨rfl, rfl, rfl⟩ := e
    exact ⟨[], rds_old ⟨none, 0, rfl, Nat.le_refl _, .inl rfl⟩, by simp⟩
  · simp [Value.cells] at e
    obtain ⟨rfl, rfl, rfl⟩ := e
    simp at hm
    subst hm
    rw [show prog.cellsOf 24 = 3 by kernel_rfl] at hx
    obtain ⟨ds, hds⟩ := Deep.choose_lt (α := Dd) (n := len) (p := fun i x => W.cells? 0 (a'.add (i * 3)) 3 = some [.int .i64 x.n, .int .i64 x.len, bv x.b]) (fun i hi => by
      obtain ⟨cs', h1, h2⟩ := hx i (by omega)
      obtain ⟨x, rfl⟩ := dd_of_cells h2
      exact ⟨x, h1⟩)
    refine ⟨(List.range len).map ds, ?_, by simp; simp only [maxLen] at hcm; omega⟩
    have hl : ((List.range len).map ds).length = len := by simp
    rw [hl]
    refine rds_old ⟨some a', _, rfl, hlc, win_of_cells fun j v hj => ?_⟩
    have hj2 := (List.getElem?_eq_some_iff.1 hj).1
    rw [dcells_length, hl] at hj2
    have hi : j / 3 < len := by omega
    obtain ⟨_, hlen, hcell⟩ := World.cells?_some (hds (j / 3) hi)
    obtain ⟨g0, g1, g2⟩ := dcells_get ((List.range len).map ds) (j / 3) (by rw [hl]; exact hi)
    have hds' : ((List.range len).map ds)[j / 3]'(by rw [hl]; exact hi) = ds (j / 3) := by simp
    rw [hds'] at g0 g1 g2
    have hr : j % 3 < 3 := Nat.mod_lt _ (by omega)
    have hj3 : j = j / 3 * 3 + j % 3 := by omega
    have hc := hcell (j % 3) hr
    rw [add_add, ← hj3] at hc
    rw [hc]
    rw [hj3] at hj
    rcases (show j % 3 = 0 ∨ j % 3 = 1 ∨ j % 3 = 2 by omega) with h0 | h0 | h0 <;> rw [h0] at hj ⊢
    · rw [Nat.add_zero, g0] at hj; exact hj
    · rw [g1] at hj; exact hj
    · rw [g2] at hj; exact hj
theorem i64_bounds {n : Int} (h : (Lit.int .i64 n).wf = true) : -9223372036854775808 ≤ n ∧ n ≤ 9223372036854775807 := by
  have := h
  simp only [Lit.wf, Bool.and_eq_true, decide_eq_true_eq] at this
  exact this
theorem open_i64 {H : Type} {enc : TypeId × Value → H} {W : World} {r : Reach} {base : Nat} {sp : Nat → Bool} {hd : Bool} {b0 : Nat} {v : Value} {d : DataW H} {p : List MemPlace}
    (hv : Value.okWide prog W r b0 3 v) (h : DataW.Trod enc prog W base sp hd 3 v d p) : ∃ n : Int, v = .int .i64 n ∧ (-9223372036854775808 ≤ n ∧ n ≤ 9223372036854775807) := by
  obtain ⟨n, rfl, _, _, hw⟩ := open_int (t := 3) (k := .i64) (by kernel_rfl) hv h
  exact ⟨n, rfl, i64_bounds hw⟩
theorem open_u8 {H : Type} {enc : TypeId × Value → H} {W : World} {r : Reach} {base : Nat} {sp : Nat → Bool} {hd : Bool} {b0 : Nat} {v : Value} {d : DataW H} {p : List MemPlace} {t : TypeId} [i : Ul prog t (.int .u8)]
    (hv : Value.okWide prog W r b0 t v) (h : DataW.Trod enc prog W base sp hd t v d p) : ∃ b : UInt8, v = bv b := by
  obtain ⟨n, rfl, _, _, hw⟩ := open_int (k := .u8) i.ul hv h
  exact u8_of hw
theorem open_i64s {H : Type} {enc : TypeId × Value → H} {W : World} {r : Reach} {b0 : Nat} {v : Value} {d : DataW H} {p : List MemPlace}
    (hv : Value.okWide prog W r b0 42 v) (h : DataW.Trod enc prog W 0 (fun _ => true) true 42 v d p) : ∃ xs : List Int, Rds (old W) v xs.length (xs.map iv) ∧ xs.length ≤ 9223372036854775807 := by
  have ht : prog.underlying 42 = some (.slice 3) := by kernel_rfl
  obtain ⟨a, len, cap, rfl⟩ := okWide_slice ht hv
  obtain ⟨fuel, hf⟩ := h
  rcases open_ints (k := .i64) ht (by kernel_rfl) (by kernel_rfl) hf with ⟨e, _⟩ | ⟨a', len', cap', zs, e, _, hlc, hcm, hz, _, hx, _⟩
  · simp [Value.cells] at e
    obtain ⟨rfl, rfl, rfl⟩ := e
    exact ⟨[], rds_old ⟨none, 0, rfl, Nat.le_refl _, .inl rfl⟩, by simp⟩
  · simp [Value.cells] at e
    obtain ⟨rfl, rfl, rfl⟩ := e
    simp at hz
    have hl : (zs.take len).length = len := by simp; omega
    refine ⟨zs.take len, ?_, by rw [hl]; simp only [maxLen] at hcm; omega⟩
    rw [hl]
    refine rds_old ⟨some a', cap, rfl, hlc, win_of_cells fun j v hj => ?_⟩
    have hj2 := (List.getElem?_eq_some_iff.1 hj).1
    simp at hj2
    rw [hx j (by omega)]
    rw [List.getElem?_map, List.getElem?_take, if_pos (by omega), List.getElem?_eq_getElem (by omega)] at hj
    simp only [Option.map_some, Option.some.injEq] at hj
    rw [← hj, List.getD_eq_getElem?_getD, List.getElem?_eq_getElem (by omega)]
    rfl
end Go.Proofs.Yteplajobjlehlaa
