/-
  Arrays: their places, their slices.
-/
import Derived.Test.YtnkmgkilfkgfhaaDoorBits
import Derived.Stop.BytesEq
set_option linter.all false
namespace Hold
open Go
section
variable {P : Program} {w : World} {K : Value → World → Prop}
theorem o_indexA {t e : TypeId} {len : Nat} [i : Ul P t (.array len e)] [j : OneC P e] {b o : Nat} {k : IntKind} {x : Int} (h0 : 0 ≤ x) (h1 : x < len) :
    pvv P (Instr.indexAt t (.pointer (some ⟨b, o, none⟩)) (.int k x)) w K = K (.pointer (some ⟨b, o + x.toNat, none⟩)) w := pvv_eq fun w => by
  simp [Instr.indexAt, Instr.sureAddr, asIntOf, run_underlying' i.ul, run_sizeOf' j.size, h0, h1, add_addr]
theorem o_sliceA {t e : TypeId} {len : Nat} [i : Ul P t (.array len e)] [j : OneC P e] {b o : Nat} :
    pvv P (Instr.sliceAt t (.pointer (some ⟨b, o, none⟩)) none none none) w K = K (.slice (some ⟨b, o, none⟩) len len) w := pvv_eq fun w => by
  simp [Instr.sliceAt, Instr.sureAddr, Instr.sliceBounds, Instr.sliceBound, run_underlying' i.ul, run_sizeOf' j.size, add_addr]
theorem res_agg {E : World0} {H : HP} (h : sat E w H) {t n b e : Nat} {xs : List Value} {fr : Nat × Nat} [i : AggC P t n] [hb : Has H b (.cells xs.toArray e fr)] (hn : xs.length = n) (k : K (.agg xs.toArray) w) :
    ∃ r, (do loadVar t (← asAddr (.pointer (some ⟨b, 0, none⟩)))).run P w = .ok r w ∧ K r w := by
  refine ⟨_, ?_, k⟩
  have := run_loadN (P := P) (w := w) (t := t) (b := b) (o := 0) (cs := xs) hn fun j v hj => cell_of (hb.get h) (by simpa using hj)
  simpa [Instr.loadAt, Instr.sureAddr, asAddr] using this
theorem o_eqArr {t e : TypeId} {n : Nat} [i : Ul P t (.array n e)] [j : Ul P e (.int .u8)] [q : OneC P e] {xo yo : Operand} (hg : P.eqGuardType P.depth t = false) {xs ys : List UInt8} (hx : xs.length = n) (hy : ys.length = n) :
    pvv P (oEq .eql t xo yo (.agg (xs.map bv).toArray) (.agg (ys.map bv).toArray)) w K = K (.bool (xs == ys)) w := pvv_eq fun w => by
  have := run_equalIn_bytes (P := P) w 9998 t e n i.ul j.ul (fun w => run_sizeOf' q.size) xs ys hx hy
  have e2 : (Op.equal t (.agg (xs.map bv).toArray) (.agg (ys.map bv).toArray)).run P w = .ok (xs == ys) w := this
  simp [oEq, eqGuard, hg, binOp, e2]
theorem bv_ne {a b : UInt8} : (bv a = bv b) ↔ a = b := by
  unfold bv
  constructor
  · intro h; simp at h; exact UInt8.toNat_inj.1 (by omega)
  · rintro rfl; rfl

end
end Hold
