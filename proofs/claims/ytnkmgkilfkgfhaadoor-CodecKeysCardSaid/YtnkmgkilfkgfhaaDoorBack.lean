/-
  Bytes handed back with an error's number.
-/
import Derived.Test.YtnkmgkilfkgfhaaDoorPB
import Derived.Test.YtnkmgkilfkgfhaaDoorStrs
import Derived.Test.YtnkmgkilfkgfhaaDoorCard
set_option linter.all false
set_option maxRecDepth 10000
namespace Go.Proofs.YtnkmgkilfkgfhaaDoor
open Go Hold
variable {E : World0} {w : World} {H R : HP} {K : Value → World → Prop}
theorem gettv {ps : List (List UInt8)} {i : Nat} (h : i < ps.length) : (ps.map tv)[i]? = some (tv (ps.getD i [])) := by
  simp [List.getD_eq_getElem?_getD, h]
/-- Bytes handed back: they are owned. -/
def back (K : Value → World → Prop) (E : World0) (H : HP) (x : List UInt8 × Int) : Prop := ∀ v w, sat E w (osl 5 1 v x.1.length (x.1.map bv) * H) → K (.tuple #[v, .int .i64 x.2]) w
theorem back_nil (h : sat E w H) {e : Int} (k : back K E H ([], e)) : K (.tuple #[.slice none 0 0, .int .i64 e]) w := k _ _ (osl_nil h 5 1)
end Go.Proofs.YtnkmgkilfkgfhaaDoor
