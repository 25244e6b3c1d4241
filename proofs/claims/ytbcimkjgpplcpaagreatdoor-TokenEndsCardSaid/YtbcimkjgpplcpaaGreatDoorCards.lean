/-
  DERIVED. GIVEN WITH THE SEED: THE CARDS: each row of YtbcimkjgpplcpaaGreatDoorRows.lean that lists a variable, with what it lists TIED to the program's text (the seventh form; the later family's looks); each row that meets fmt, with fmt's text TOLD by the authors' own Lean function (tested against real Go, not proved from fmt's source: count such statements apart). THE CARD IS WHAT COUNTS. Prove the row's statement (the work); the ties are given (YtbcimkjgpplcpaaGreatDoorTie.lean); close each card by the builder's one call (the guide's Derived/Test/ToyasCard.lean, 'card_holds'). Laid BY PROGRAM, IN A SANDBOX (cutbox-door.mjs). By AI agents, Wed Nov 11 2026. No macro, syntax, notation, axiom, sorry.
-/
import Derived.Test.YtbcimkjgpplcpaaGreatDoorRows
import GoSem.ClaimSeven
namespace Go.Proofs.YtbcimkjgpplcpaaGreatDoor
namespace Rows

/-- THE TIED CARD OF 'holdfastlaw12.TokenApart'. -/
def tokenApartCard : Claim7 := { stood := { row := tokenApartRow, standIns := [], harness := (true, "6b84b7f2e3c62baa572c19d3a67d4cf458cbd0ad387ead56b2ae5617afafdd0d"), looks := true }, kinds := [], alts := [], laidByText := true, laidKinds := [.data, .pinned], laidTests := true, laidLooks := .later }
def TokenApartCardSaid : Prop := Claim7.holds Tryz.pinned (.plain (OpenSpec.ofChange tokenApartSpec)) tokenApartCard

/-- THE TIED CARD OF 'holdfastlaw12.TokenEnds'. -/
def tokenEndsCard : Claim7 := { stood := { row := tokenEndsRow, standIns := [], harness := (true, "6b84b7f2e3c62baa572c19d3a67d4cf458cbd0ad387ead56b2ae5617afafdd0d"), looks := true }, kinds := [], alts := [], laidByText := true, laidKinds := [.data, .data, .data, .data, .pinned], laidTests := true, laidLooks := .later }
def TokenEndsCardSaid : Prop := Claim7.holds Tryz.pinned (.plain (OpenSpec.ofChange tokenEndsSpec)) tokenEndsCard

/-- THE TIED CARD OF 'holdfastlaw12.TokenNone'. -/
def tokenNoneCard : Claim7 := { stood := { row := tokenNoneRow, standIns := [], harness := (true, "6b84b7f2e3c62baa572c19d3a67d4cf458cbd0ad387ead56b2ae5617afafdd0d"), looks := true }, kinds := [], alts := [], laidByText := true, laidKinds := [.data, .data, .data, .data, .pinned], laidTests := true, laidLooks := .later }
def TokenNoneCardSaid : Prop := Claim7.holds Tryz.pinned (.plain (OpenSpec.ofChange tokenNoneSpec)) tokenNoneCard

/-- THE SECOND FORM's CARD OF 'holdfastlaw12.TokenApart'. -/
def tokenApartUptoCard : Claim7 := { stood := { row := tokenApartUptoRow, standIns := [], harness := (true, "6b84b7f2e3c62baa572c19d3a67d4cf458cbd0ad387ead56b2ae5617afafdd0d"), looks := true }, kinds := [], alts := [], laidByText := true, laidKinds := [.data, .pinned], laidTests := true, laidLooks := .later }
def TokenApartUptoCardSaid : Prop := Claim7.holds Tryz.pinned (.plain (OpenSpec.upto tokenApartSpec)) tokenApartUptoCard

/-- THE SECOND FORM's CARD OF 'holdfastlaw12.TokenEnds'. -/
def tokenEndsUptoCard : Claim7 := { stood := { row := tokenEndsUptoRow, standIns := [], harness := (true, "6b84b7f2e3c62baa572c19d3a67d4cf458cbd0ad387ead56b2ae5617afafdd0d"), looks := true }, kinds := [], alts := [], laidByText := true, laidKinds := [.data, .data, .data, .data, .pinned], laidTests := true, laidLooks := .later }
def TokenEndsUptoCardSaid : Prop := Claim7.holds Tryz.pinned (.plain (OpenSpec.upto tokenEndsSpec)) tokenEndsUptoCard

/-- THE SECOND FORM's CARD OF 'holdfastlaw12.TokenNone'. -/
def tokenNoneUptoCard : Claim7 := { stood := { row := tokenNoneUptoRow, standIns := [], harness := (true, "6b84b7f2e3c62baa572c19d3a67d4cf458cbd0ad387ead56b2ae5617afafdd0d"), looks := true }, kinds := [], alts := [], laidByText := true, laidKinds := [.data, .data, .data, .data, .pinned], laidTests := true, laidLooks := .later }
def TokenNoneUptoCardSaid : Prop := Claim7.holds Tryz.pinned (.plain (OpenSpec.upto tokenNoneSpec)) tokenNoneUptoCard
end Rows
end Go.Proofs.YtbcimkjgpplcpaaGreatDoor
