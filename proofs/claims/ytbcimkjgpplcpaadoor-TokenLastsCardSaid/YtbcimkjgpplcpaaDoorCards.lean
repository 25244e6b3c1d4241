/-
  DERIVED. GIVEN WITH THE SEED: THE CARDS: each row of YtbcimkjgpplcpaaDoorRows.lean that lists a variable, with what it lists TIED to the program's text (the seventh form; the later family's looks); each row that meets fmt, with fmt's text TOLD by the authors' own Lean function (tested against real Go, not proved from fmt's source: count such statements apart). THE CARD IS WHAT COUNTS. Prove the row's statement (the work); the ties are given (YtbcimkjgpplcpaaDoorTie.lean); close each card by the builder's one call (the guide's Derived/Test/ToyasCard.lean, 'card_holds'). Laid BY PROGRAM, IN A SANDBOX (cutbox-door.mjs). By AI agents, Wed Nov 11 2026. No macro, syntax, notation, axiom, sorry.
-/
import Derived.Test.YtbcimkjgpplcpaaDoorRows
import GoSem.ClaimSeven
namespace Go.Proofs.YtbcimkjgpplcpaaDoor
namespace Rows

/-- THE TIED CARD OF 'holdfastlaw12.TokenRooms'. -/
def tokenRoomsCard : Claim7 := { stood := { row := tokenRoomsRow, standIns := [], harness := (true, "fc506e10d803ebe809112be58a7cda43e60e722b897016718366583ec0321a34"), looks := false }, kinds := [], alts := [], laidByText := true, laidKinds := [.data, .pinned], laidTests := true, laidLooks := .later }
def TokenRoomsCardSaid : Prop := Claim7.holds Tryd.pinned (.plain (OpenSpec.ofChange tokenRoomsSpec)) tokenRoomsCard

/-- THE TIED CARD OF 'holdfastlaw12.TokenLasts'. -/
def tokenLastsCard : Claim7 := { stood := { row := tokenLastsRow, standIns := [], harness := (true, "fc506e10d803ebe809112be58a7cda43e60e722b897016718366583ec0321a34"), looks := false }, kinds := [], alts := [], laidByText := true, laidKinds := [.data, .pinned], laidTests := true, laidLooks := .later }
def TokenLastsCardSaid : Prop := Claim7.holds Tryd.pinned (.plain (OpenSpec.ofChange tokenLastsSpec)) tokenLastsCard

/-- THE TIED CARD OF 'holdfastlaw12.TokenNarrow'. -/
def tokenNarrowCard : Claim7 := { stood := { row := tokenNarrowRow, standIns := [], harness := (true, "fc506e10d803ebe809112be58a7cda43e60e722b897016718366583ec0321a34"), looks := false }, kinds := [], alts := [], laidByText := true, laidKinds := [.data, .pinned], laidTests := true, laidLooks := .later }
def TokenNarrowCardSaid : Prop := Claim7.holds Tryd.pinned (.plain (OpenSpec.ofChange tokenNarrowSpec)) tokenNarrowCard

/-- THE TIED CARD OF 'holdfasttop.TopEnded'. -/
def topEndedCard : Claim7 := { stood := { row := topEndedRow, standIns := [], harness := (true, "fc506e10d803ebe809112be58a7cda43e60e722b897016718366583ec0321a34"), looks := false }, kinds := [], alts := [], laidByText := true, laidKinds := [.data, .pinned], laidTests := true, laidLooks := .later }
def TopEndedCardSaid : Prop := Claim7.holds Tryd.pinned (.plain (OpenSpec.ofChange topEndedSpec)) topEndedCard

/-- THE SECOND FORM's CARD OF 'holdfastlaw12.TokenRooms'. -/
def tokenRoomsUptoCard : Claim7 := { stood := { row := tokenRoomsUptoRow, standIns := [], harness := (true, "fc506e10d803ebe809112be58a7cda43e60e722b897016718366583ec0321a34"), looks := false }, kinds := [], alts := [], laidByText := true, laidKinds := [.data, .pinned], laidTests := true, laidLooks := .later }
def TokenRoomsUptoCardSaid : Prop := Claim7.holds Tryd.pinned (.plain (OpenSpec.upto tokenRoomsSpec)) tokenRoomsUptoCard

/-- THE SECOND FORM's CARD OF 'holdfastlaw12.TokenLasts'. -/
def tokenLastsUptoCard : Claim7 := { stood := { row := tokenLastsUptoRow, standIns := [], harness := (true, "fc506e10d803ebe809112be58a7cda43e60e722b897016718366583ec0321a34"), looks := false }, kinds := [], alts := [], laidByText := true, laidKinds := [.data, .pinned], laidTests := true, laidLooks := .later }
def TokenLastsUptoCardSaid : Prop := Claim7.holds Tryd.pinned (.plain (OpenSpec.upto tokenLastsSpec)) tokenLastsUptoCard

/-- THE SECOND FORM's CARD OF 'holdfastlaw12.TokenNarrow'. -/
def tokenNarrowUptoCard : Claim7 := { stood := { row := tokenNarrowUptoRow, standIns := [], harness := (true, "fc506e10d803ebe809112be58a7cda43e60e722b897016718366583ec0321a34"), looks := false }, kinds := [], alts := [], laidByText := true, laidKinds := [.data, .pinned], laidTests := true, laidLooks := .later }
def TokenNarrowUptoCardSaid : Prop := Claim7.holds Tryd.pinned (.plain (OpenSpec.upto tokenNarrowSpec)) tokenNarrowUptoCard

/-- THE SECOND FORM's CARD OF 'holdfasttop.TopEnded'. -/
def topEndedUptoCard : Claim7 := { stood := { row := topEndedUptoRow, standIns := [], harness := (true, "fc506e10d803ebe809112be58a7cda43e60e722b897016718366583ec0321a34"), looks := false }, kinds := [], alts := [], laidByText := true, laidKinds := [.data, .pinned], laidTests := true, laidLooks := .later }
def TopEndedUptoCardSaid : Prop := Claim7.holds Tryd.pinned (.plain (OpenSpec.upto topEndedSpec)) topEndedUptoCard
end Rows
end Go.Proofs.YtbcimkjgpplcpaaDoor
