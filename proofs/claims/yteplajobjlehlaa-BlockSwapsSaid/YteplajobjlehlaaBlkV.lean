/-
  Arguments, opened: deeds.
-/
import Derived.Test.YteplajobjlehlaaBlkE
import Derived.Test.YteplajobjlehlaaLaw
set_option linter.all false
set_option maxRecDepth 10000
namespace Go.Proofs.Yteplajobjlehlaa
open Go Hold Go.ChangeShapes Go.WideShapes Go.RowKit
theorem u8_of {n : Int} (h : (Lit.int .u8 n).wf = true) : ∃ b : UInt8, Value.int .u8 n = bv b := by
  have hw : 0 ≤ n ∧ n ≤ 255 := by
    have := h
    simp only [Lit.wf, Bool.and_eq_true, decide_eq_true_eq] at this
    exact this
  refine ⟨UInt8.ofNat n.toNat, ?_⟩
  unfold bv
  congr 1
  simp
  omega
theorem open_dd {H : Type} {enc : TypeId × Value → H} {W : World} {r : Reach} {base : Nat} {sp : Nat → Bool} {hd : Bool} {b0 : Nat} {v : Value} {d : DataW H} {p : List MemPlace}
    (hv : Value.okWide prog W r b0 24 v) (h : DataW.Trod enc prog W base sp hd 24 v d p) : ∃ x : Dd, v = x.val := by
  have hs : prog.underlying 24 = some (.struct #[fieldOf prog 24 0, fieldOf prog 24 1, fieldOf prog 24 2]) := by kernel_rfl
  obtain ⟨v0, v1, v2, y0, y1, y2, n, rfl, _, _, h0, h1, h2⟩ := Joins.open_agg3 hs (by kernel_rfl) (by kernel_rfl) hv h
  rw [show (fieldOf prog 24 0).type = 3 by kernel_rfl] at h0
  rw [show (fieldOf prog 24 1).type = 3 by kernel_rfl] at h1
  rw [show (fieldOf prog 24 2).type = 5 by kernel_rfl] at h2
  obtain ⟨n0, e0, _, _⟩ := DataW.trod_int (t := 3) (k := .i64) (by kernel_rfl) h0
  obtain ⟨n1, e1, _, _⟩ := DataW.trod_int (t := 3) (k := .i64) (by kernel_rfl) h1
  obtain ⟨n2, e2, _, w2⟩ := DataW.trod_int (t := 5) (k := .u8) (by kernel_rfl) h2
  cases e0; cases e1; cases e2
  obtain ⟨b, hb⟩ := u8_of w2
  exact ⟨⟨n0, n1, b⟩, by rw [hb]; rfl⟩
end Go.Proofs.Yteplajobjlehlaa
