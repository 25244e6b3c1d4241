/-
  DERIVED. GIVEN WITH THE SEED: THE CARDS: each row of YtnkmgkilfkgfhaaDoorRows.lean that lists a variable, with what it lists TIED to the program's text (the seventh form; the later family's looks); each row that meets fmt, with fmt's text TOLD by the authors' own Lean function (tested against real Go, not proved from fmt's source: count such statements apart). THE CARD IS WHAT COUNTS. Prove the row's statement (the work); the ties are given (YtnkmgkilfkgfhaaDoorTie.lean); close each card by the builder's one call (the guide's Derived/Test/ToyasCard.lean, 'card_holds'). Laid BY PROGRAM, IN A SANDBOX (cutbox-door.mjs). By AI agents, Wed Nov 11 2026. No macro, syntax, notation, axiom, sorry.
-/
import Derived.Test.YtnkmgkilfkgfhaaDoorRows
import GoSem.ClaimSeven
namespace Go.Proofs.YtnkmgkilfkgfhaaDoor
namespace Rows

/-- THE TIED CARD OF 'holdfastlaw02.CodecOrders'. -/
def codecOrdersCard : Claim7 := { stood := { row := codecOrdersRow, standIns := [], harness := (true, "616a866fcb6ab24bd9e4602d5f7c7a3edf413631e8e8e17a22bfb7a96c34ab80"), looks := true }, kinds := [], alts := [], laidByText := true, laidKinds := [.data, .data, .data, .data, .pinned], laidTests := true, laidLooks := .later }
def CodecOrdersCardSaid : Prop := Claim7.holds Tryd.pinned (.plain (OpenSpec.ofChange codecOrdersSpec)) codecOrdersCard

/-- THE TIED CARD OF 'holdfastlaw02.CodecCounts'. -/
def codecCountsCard : Claim7 := { stood := { row := codecCountsRow, standIns := [], harness := (true, "616a866fcb6ab24bd9e4602d5f7c7a3edf413631e8e8e17a22bfb7a96c34ab80"), looks := true }, kinds := [], alts := [], laidByText := true, laidKinds := [.data, .data, .data, .data, .pinned], laidTests := true, laidLooks := .later }
def CodecCountsCardSaid : Prop := Claim7.holds Tryd.pinned (.plain (OpenSpec.ofChange codecCountsSpec)) codecCountsCard

/-- THE TIED CARD OF 'holdfastlaw02.CodecApart'. -/
def codecApartCard : Claim7 := { stood := { row := codecApartRow, standIns := [], harness := (true, "616a866fcb6ab24bd9e4602d5f7c7a3edf413631e8e8e17a22bfb7a96c34ab80"), looks := true }, kinds := [], alts := [], laidByText := true, laidKinds := [.data, .data, .data, .data, .pinned], laidTests := true, laidLooks := .later }
def CodecApartCardSaid : Prop := Claim7.holds Tryd.pinned (.plain (OpenSpec.ofChange codecApartSpec)) codecApartCard

/-- THE TIED CARD OF 'holdfastlaw02.CodecUnder'. -/
def codecUnderCard : Claim7 := { stood := { row := codecUnderRow, standIns := [], harness := (true, "616a866fcb6ab24bd9e4602d5f7c7a3edf413631e8e8e17a22bfb7a96c34ab80"), looks := true }, kinds := [], alts := [], laidByText := true, laidKinds := [.data, .data, .data, .data, .pinned], laidTests := true, laidLooks := .later }
def CodecUnderCardSaid : Prop := Claim7.holds Tryd.pinned (.plain (OpenSpec.ofChange codecUnderSpec)) codecUnderCard

/-- THE TIED CARD OF 'holdfastlaw02.CodecRows'. -/
def codecRowsCard : Claim7 := { stood := { row := codecRowsRow, standIns := [], harness := (true, "616a866fcb6ab24bd9e4602d5f7c7a3edf413631e8e8e17a22bfb7a96c34ab80"), looks := true }, kinds := [], alts := [], laidByText := true, laidKinds := [.data, .data, .data, .data, .pinned], laidTests := true, laidLooks := .later }
def CodecRowsCardSaid : Prop := Claim7.holds Tryd.pinned (.plain (OpenSpec.ofChange codecRowsSpec)) codecRowsCard

/-- THE TIED CARD OF 'holdfastlaw02.CodecWhole'. -/
def codecWholeCard : Claim7 := { stood := { row := codecWholeRow, standIns := [], harness := (true, "616a866fcb6ab24bd9e4602d5f7c7a3edf413631e8e8e17a22bfb7a96c34ab80"), looks := true }, kinds := [], alts := [], laidByText := true, laidKinds := [.data, .data, .data, .data, .pinned], laidTests := true, laidLooks := .later }
def CodecWholeCardSaid : Prop := Claim7.holds Tryd.pinned (.plain (OpenSpec.ofChange codecWholeSpec)) codecWholeCard

/-- THE TIED CARD OF 'holdfastlaw02.CodecKeys'. -/
def codecKeysCard : Claim7 := { stood := { row := codecKeysRow, standIns := [], harness := (true, "616a866fcb6ab24bd9e4602d5f7c7a3edf413631e8e8e17a22bfb7a96c34ab80"), looks := true }, kinds := [], alts := [], laidByText := true, laidKinds := [.data, .data, .data, .data, .pinned], laidTests := true, laidLooks := .later }
def CodecKeysCardSaid : Prop := Claim7.holds Tryd.pinned (.plain (OpenSpec.ofChange codecKeysSpec)) codecKeysCard

/-- THE TIED CARD OF 'holdfastlaw02.CodecNext'. -/
def codecNextCard : Claim7 := { stood := { row := codecNextRow, standIns := [], harness := (true, "616a866fcb6ab24bd9e4602d5f7c7a3edf413631e8e8e17a22bfb7a96c34ab80"), looks := true }, kinds := [], alts := [], laidByText := true, laidKinds := [.data, .data, .data, .data, .sentinel, .sentinel, .pinned], laidTests := true, laidLooks := .later }
def CodecNextCardSaid : Prop := Claim7.holds Tryd.pinned (.plain (OpenSpec.ofChange codecNextSpec)) codecNextCard

/-- THE SECOND FORM's CARD OF 'holdfastlaw02.CodecOrders'. -/
def codecOrdersUptoCard : Claim7 := { stood := { row := codecOrdersUptoRow, standIns := [], harness := (true, "616a866fcb6ab24bd9e4602d5f7c7a3edf413631e8e8e17a22bfb7a96c34ab80"), looks := true }, kinds := [], alts := [], laidByText := true, laidKinds := [.data, .data, .data, .data, .pinned], laidTests := true, laidLooks := .later }
def CodecOrdersUptoCardSaid : Prop := Claim7.holds Tryd.pinned (.plain (OpenSpec.upto codecOrdersSpec)) codecOrdersUptoCard

/-- THE SECOND FORM's CARD OF 'holdfastlaw02.CodecCounts'. -/
def codecCountsUptoCard : Claim7 := { stood := { row := codecCountsUptoRow, standIns := [], harness := (true, "616a866fcb6ab24bd9e4602d5f7c7a3edf413631e8e8e17a22bfb7a96c34ab80"), looks := true }, kinds := [], alts := [], laidByText := true, laidKinds := [.data, .data, .data, .data, .pinned], laidTests := true, laidLooks := .later }
def CodecCountsUptoCardSaid : Prop := Claim7.holds Tryd.pinned (.plain (OpenSpec.upto codecCountsSpec)) codecCountsUptoCard

/-- THE SECOND FORM's CARD OF 'holdfastlaw02.CodecApart'. -/
def codecApartUptoCard : Claim7 := { stood := { row := codecApartUptoRow, standIns := [], harness := (true, "616a866fcb6ab24bd9e4602d5f7c7a3edf413631e8e8e17a22bfb7a96c34ab80"), looks := true }, kinds := [], alts := [], laidByText := true, laidKinds := [.data, .data, .data, .data, .pinned], laidTests := true, laidLooks := .later }
def CodecApartUptoCardSaid : Prop := Claim7.holds Tryd.pinned (.plain (OpenSpec.upto codecApartSpec)) codecApartUptoCard

/-- THE SECOND FORM's CARD OF 'holdfastlaw02.CodecUnder'. -/
def codecUnderUptoCard : Claim7 := { stood := { row := codecUnderUptoRow, standIns := [], harness := (true, "616a866fcb6ab24bd9e4602d5f7c7a3edf413631e8e8e17a22bfb7a96c34ab80"), looks := true }, kinds := [], alts := [], laidByText := true, laidKinds := [.data, .data, .data, .data, .pinned], laidTests := true, laidLooks := .later }
def CodecUnderUptoCardSaid : Prop := Claim7.holds Tryd.pinned (.plain (OpenSpec.upto codecUnderSpec)) codecUnderUptoCard

/-- THE SECOND FORM's CARD OF 'holdfastlaw02.CodecRows'. -/
def codecRowsUptoCard : Claim7 := { stood := { row := codecRowsUptoRow, standIns := [], harness := (true, "616a866fcb6ab24bd9e4602d5f7c7a3edf413631e8e8e17a22bfb7a96c34ab80"), looks := true }, kinds := [], alts := [], laidByText := true, laidKinds := [.data, .data, .data, .data, .pinned], laidTests := true, laidLooks := .later }
def CodecRowsUptoCardSaid : Prop := Claim7.holds Tryd.pinned (.plain (OpenSpec.upto codecRowsSpec)) codecRowsUptoCard

/-- THE SECOND FORM's CARD OF 'holdfastlaw02.CodecWhole'. -/
def codecWholeUptoCard : Claim7 := { stood := { row := codecWholeUptoRow, standIns := [], harness := (true, "616a866fcb6ab24bd9e4602d5f7c7a3edf413631e8e8e17a22bfb7a96c34ab80"), looks := true }, kinds := [], alts := [], laidByText := true, laidKinds := [.data, .data, .data, .data, .pinned], laidTests := true, laidLooks := .later }
def CodecWholeUptoCardSaid : Prop := Claim7.holds Tryd.pinned (.plain (OpenSpec.upto codecWholeSpec)) codecWholeUptoCard

/-- THE SECOND FORM's CARD OF 'holdfastlaw02.CodecKeys'. -/
def codecKeysUptoCard : Claim7 := { stood := { row := codecKeysUptoRow, standIns := [], harness := (true, "616a866fcb6ab24bd9e4602d5f7c7a3edf413631e8e8e17a22bfb7a96c34ab80"), looks := true }, kinds := [], alts := [], laidByText := true, laidKinds := [.data, .data, .data, .data, .pinned], laidTests := true, laidLooks := .later }
def CodecKeysUptoCardSaid : Prop := Claim7.holds Tryd.pinned (.plain (OpenSpec.upto codecKeysSpec)) codecKeysUptoCard

/-- THE SECOND FORM's CARD OF 'holdfastlaw02.CodecNext'. -/
def codecNextUptoCard : Claim7 := { stood := { row := codecNextUptoRow, standIns := [], harness := (true, "616a866fcb6ab24bd9e4602d5f7c7a3edf413631e8e8e17a22bfb7a96c34ab80"), looks := true }, kinds := [], alts := [], laidByText := true, laidKinds := [.data, .data, .data, .data, .sentinel, .sentinel, .pinned], laidTests := true, laidLooks := .later }
def CodecNextUptoCardSaid : Prop := Claim7.holds Tryd.pinned (.plain (OpenSpec.upto codecNextSpec)) codecNextUptoCard
end Rows
end Go.Proofs.YtnkmgkilfkgfhaaDoor
