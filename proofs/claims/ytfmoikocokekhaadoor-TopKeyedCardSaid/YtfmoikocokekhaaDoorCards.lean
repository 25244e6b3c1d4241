/-
  DERIVED. GIVEN WITH THE SEED: THE CARDS: each row of YtfmoikocokekhaaDoorRows.lean that lists a variable, with what it lists TIED to the program's text (the seventh form; the later family's looks); each row that meets fmt, with fmt's text TOLD by the authors' own Lean function (tested against real Go, not proved from fmt's source: count such statements apart). THE CARD IS WHAT COUNTS. Prove the row's statement (the work); the ties are given (YtfmoikocokekhaaDoorTie.lean); close each card by the builder's one call (the guide's Derived/Test/ToyasCard.lean, 'card_holds'). Laid BY PROGRAM, IN A SANDBOX (cutbox-door.mjs). By AI agents, Wed Nov 11 2026. No macro, syntax, notation, axiom, sorry.
-/
import Derived.Test.YtfmoikocokekhaaDoorRows
import GoSem.ClaimSeven
namespace Go.Proofs.YtfmoikocokekhaaDoor
namespace Rows

/-- THE TIED CARD OF 'holdfasttop.TopKeyed'. -/
def topKeyedCard : Claim7 := { stood := { row := topKeyedRow, standIns := [], harness := (true, "dff2d65cbd6dd5d2e3302a51356f6b2ad92cc499ffaef3bdf7d7bda112fb5fae"), looks := false }, kinds := [], alts := [], laidByText := true, laidKinds := [.data, .pinned], laidTests := true, laidLooks := .later }
def TopKeyedCardSaid : Prop := Claim7.holds Tryd.pinned (.plain (OpenSpec.ofChange topKeyedSpec)) topKeyedCard

/-- THE SECOND FORM's CARD OF 'holdfasttop.TopKeyed'. -/
def topKeyedUptoCard : Claim7 := { stood := { row := topKeyedUptoRow, standIns := [], harness := (true, "dff2d65cbd6dd5d2e3302a51356f6b2ad92cc499ffaef3bdf7d7bda112fb5fae"), looks := false }, kinds := [], alts := [], laidByText := true, laidKinds := [.data, .pinned], laidTests := true, laidLooks := .later }
def TopKeyedUptoCardSaid : Prop := Claim7.holds Tryd.pinned (.plain (OpenSpec.upto topKeyedSpec)) topKeyedUptoCard
end Rows
end Go.Proofs.YtfmoikocokekhaaDoor
