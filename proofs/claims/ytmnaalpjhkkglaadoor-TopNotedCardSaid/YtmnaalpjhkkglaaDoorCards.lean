/-
  DERIVED. GIVEN WITH THE SEED: THE CARDS: each row of YtmnaalpjhkkglaaDoorRows.lean that lists a variable, with what it lists TIED to the program's text (the seventh form; the later family's looks); each row that meets fmt, with fmt's text TOLD by the authors' own Lean function (tested against real Go, not proved from fmt's source: count such statements apart). THE CARD IS WHAT COUNTS. Prove the row's statement (the work); the ties are given (YtmnaalpjhkkglaaDoorTie.lean); close each card by the builder's one call (the guide's Derived/Test/ToyasCard.lean, 'card_holds'). Laid BY PROGRAM, IN A SANDBOX (cutbox-door.mjs). By AI agents, Wed Nov 11 2026. No macro, syntax, notation, axiom, sorry.
-/
import Derived.Test.YtmnaalpjhkkglaaDoorRows
import GoSem.ClaimSeven
namespace Go.Proofs.YtmnaalpjhkkglaaDoor
namespace Rows

/-- THE TIED CARD OF 'holdfasttop.TopKeyed'. -/
def topKeyedCard : Claim7 := { stood := { row := topKeyedRow, standIns := [], harness := (true, "3b36a9c62e7ec6bd70c1bec339a813639dfb152f5ce4cf378827f59918eb536a"), looks := false }, kinds := [], alts := [], laidByText := true, laidKinds := [.data, .pinned], laidTests := true, laidLooks := .later }
def TopKeyedCardSaid : Prop := Claim7.holds Tryd.pinned (.plain (OpenSpec.ofChange topKeyedSpec)) topKeyedCard

/-- THE TIED CARD OF 'holdfasttop.TopNoted'. -/
def topNotedCard : Claim7 := { stood := { row := topNotedRow, standIns := [], harness := (true, "3b36a9c62e7ec6bd70c1bec339a813639dfb152f5ce4cf378827f59918eb536a"), looks := false }, kinds := [], alts := [], laidByText := true, laidKinds := [.data, .data, .data, .data, .pinned], laidTests := true, laidLooks := .later }
def TopNotedCardSaid : Prop := Claim7.holds Tryd.pinned (.plain (OpenSpec.ofChange topNotedSpec)) topNotedCard

/-- THE SECOND FORM's CARD OF 'holdfasttop.TopKeyed'. -/
def topKeyedUptoCard : Claim7 := { stood := { row := topKeyedUptoRow, standIns := [], harness := (true, "3b36a9c62e7ec6bd70c1bec339a813639dfb152f5ce4cf378827f59918eb536a"), looks := false }, kinds := [], alts := [], laidByText := true, laidKinds := [.data, .pinned], laidTests := true, laidLooks := .later }
def TopKeyedUptoCardSaid : Prop := Claim7.holds Tryd.pinned (.plain (OpenSpec.upto topKeyedSpec)) topKeyedUptoCard

/-- THE SECOND FORM's CARD OF 'holdfasttop.TopNoted'. -/
def topNotedUptoCard : Claim7 := { stood := { row := topNotedUptoRow, standIns := [], harness := (true, "3b36a9c62e7ec6bd70c1bec339a813639dfb152f5ce4cf378827f59918eb536a"), looks := false }, kinds := [], alts := [], laidByText := true, laidKinds := [.data, .data, .data, .data, .pinned], laidTests := true, laidLooks := .later }
def TopNotedUptoCardSaid : Prop := Claim7.holds Tryd.pinned (.plain (OpenSpec.upto topNotedSpec)) topNotedUptoCard
end Rows
end Go.Proofs.YtmnaalpjhkkglaaDoor
