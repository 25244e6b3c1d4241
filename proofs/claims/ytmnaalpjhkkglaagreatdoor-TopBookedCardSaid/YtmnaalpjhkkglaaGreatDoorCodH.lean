/-
  The listed table by which the lowest bit is found.
-/
import Derived.Test.YtmnaalpjhkkglaaGreatDoorHshR
import Derived.Test.YtmnaalpjhkkglaaGreatDoorRows
import Derived.Stop.LaidErr
set_option linter.all false
set_option maxRecDepth 100000
namespace Go.Proofs.YtmnaalpjhkkglaaGreatDoor
open Go Hold
theorem dbt_of {W : World} {x : String × DataW Unit} {rest : List (String × DataW Unit)} (h : laidMet prog (x :: ("math/bits.deBruijn64tab", Rows.laid_math_bits_deBruijn64tab) :: rest) W) : Dbt (old W) := by
  have h2 : laidMet prog (("math/bits.deBruijn64tab", Lib.tabData .u8 [0, 1, 56, 2, 57, 49, 28, 3, 61, 58, 42, 50, 38, 29, 17, 4, 62, 47, 59, 36, 45, 43, 51, 22, 53, 39, 33, 30, 24, 18, 12, 5, 63, 55, 48, 27, 60, 41, 37, 16, 46, 35, 44, 21, 52, 32, 23, 11, 54, 26, 40, 15, 34, 20, 31, 10, 25, 14, 19, 9, 13, 8, 7, 6]) :: rest) W := laidMet.tail h
  have h3 := Lib.tabIs_of_head (g := 7) (by kernel_rfl) (by kernel_rfl) (ul_171).ul (ul_5).ul (by kernel_rfl) (by kernel_rfl) h2
  exact RdC.old (h3.cell (by kernel_rfl) 15 (by decide))
end Go.Proofs.YtmnaalpjhkkglaaGreatDoor
