/-
  TopBooked: the walk.
-/
import Derived.Test.YtmnaalpjhkkglaaGreatDoorBooB
set_option linter.all false
set_option maxRecDepth 100000
namespace Go.Proofs.YtmnaalpjhkkglaaGreatDoor.Booked
open Go Hold Go.ChangeShapes Go.WideShapes Go.ChangeAt Go.RowKit
variable {E : World0} {w : World} {H R : HP} {K : Value → World → Prop}

end Go.Proofs.YtmnaalpjhkkglaaGreatDoor.Booked
