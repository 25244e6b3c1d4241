/-
  TokenNone: the walk.
-/
import Derived.Test.YtbcimkjgpplcpaaGreatDoorNilT
set_option linter.all false
set_option maxRecDepth 100000
namespace Go.Proofs.YtbcimkjgpplcpaaGreatDoor.None
open Go Hold Go.ChangeShapes Go.WideShapes Go.ChangeAt Go.RowKit
variable {E : World0} {w : World} {H R : HP} {K : Value → World → Prop}
theorem None_spec (h : sat E w H) (n : Int) {A : Prop} (_ : A) (c : List UInt8) {B : Prop} (_ : B) (k : ∀ w', sat E w' H → K (.bool true) w') : Calls prog 5 #[.int .i64 n, tv c] w (Ret K) := T.None_spec h n c k
end Go.Proofs.YtbcimkjgpplcpaaGreatDoor.None
