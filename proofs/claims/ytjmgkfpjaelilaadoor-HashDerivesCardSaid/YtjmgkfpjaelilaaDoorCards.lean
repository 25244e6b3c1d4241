/-
  DERIVED. GIVEN WITH THE SEED: THE CARDS: each row of YtjmgkfpjaelilaaDoorRows.lean that lists a variable, with what it lists TIED to the program's text (the seventh form; the later family's looks); each row that meets fmt, with fmt's text TOLD by the authors' own Lean function (tested against real Go, not proved from fmt's source: count such statements apart). THE CARD IS WHAT COUNTS. Prove the row's statement (the work); the ties are given (YtjmgkfpjaelilaaDoorTie.lean); close each card by the builder's one call (the guide's Derived/Test/ToyasCard.lean, 'card_holds'). Laid BY PROGRAM, IN A SANDBOX (cutbox-door.mjs). By AI agents, Wed Nov 11 2026. No macro, syntax, notation, axiom, sorry.
-/
import Derived.Test.YtjmgkfpjaelilaaDoorRows
import GoSem.ClaimSeven
namespace Go.Proofs.YtjmgkfpjaelilaaDoor
namespace Rows

/-- THE TIED CARD OF 'holdfastlaw07.HashDerives'. -/
def hashDerivesCard : Claim7 := { stood := { row := hashDerivesRow, standIns := [], harness := (true, "7eda644e54d4ac4fd36c42e0fb5a67553ee4681cadec7890ee33b4ed22ffe980"), looks := false }, kinds := [], alts := [], laidByText := true, laidKinds := [.data, .pinned], laidTests := true, laidLooks := .later }
def HashDerivesCardSaid : Prop := Claim7.holds Tryd.pinned (.plain (OpenSpec.ofChange hashDerivesSpec)) hashDerivesCard

/-- THE SECOND FORM's CARD OF 'holdfastlaw07.HashDerives'. -/
def hashDerivesUptoCard : Claim7 := { stood := { row := hashDerivesUptoRow, standIns := [], harness := (true, "7eda644e54d4ac4fd36c42e0fb5a67553ee4681cadec7890ee33b4ed22ffe980"), looks := false }, kinds := [], alts := [], laidByText := true, laidKinds := [.data, .pinned], laidTests := true, laidLooks := .later }
def HashDerivesUptoCardSaid : Prop := Claim7.holds Tryd.pinned (.plain (OpenSpec.upto hashDerivesSpec)) hashDerivesUptoCard
end Rows
end Go.Proofs.YtjmgkfpjaelilaaDoor
