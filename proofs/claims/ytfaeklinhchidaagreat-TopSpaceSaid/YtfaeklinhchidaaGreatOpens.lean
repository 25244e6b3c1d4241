/-
  Arguments, opened: numbers of other kinds, truths, slices of them.
-/
import Derived.Test.YtfaeklinhchidaaGreatTests
set_option linter.all false
namespace Hold
open Go Go.ChangeShapes Go.WideShapes Go.RowKit Go.Deep
variable {P : Program} {W : World} {H : Type} {enc : TypeId × Value → H} {r : Reach} {b0 : Nat} {v : Value} {d : DataW H} {p : List MemPlace}
end Hold
