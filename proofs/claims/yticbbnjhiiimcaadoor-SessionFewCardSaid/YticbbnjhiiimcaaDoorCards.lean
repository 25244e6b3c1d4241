/-
  DERIVED. GIVEN WITH THE SEED: THE CARDS: each row of YticbbnjhiiimcaaDoorRows.lean that lists a variable, with what it lists TIED to the program's text (the seventh form; the later family's looks); each row that meets fmt, with fmt's text TOLD by the authors' own Lean function (tested against real Go, not proved from fmt's source: count such statements apart). THE CARD IS WHAT COUNTS. Prove the row's statement (the work); the ties are given (YticbbnjhiiimcaaDoorTie.lean); close each card by the builder's one call (the guide's Derived/Test/ToyasCard.lean, 'card_holds'). Laid BY PROGRAM, IN A SANDBOX (cutbox-door.mjs). By AI agents, Wed Nov 11 2026. No macro, syntax, notation, axiom, sorry.
-/
import Derived.Test.YticbbnjhiiimcaaDoorRows
import GoSem.ClaimSeven
namespace Go.Proofs.YticbbnjhiiimcaaDoor
namespace Rows

/-- THE TIED CARD OF 'holdfastlaw11.SessionUntils'. -/
def sessionUntilsCard : Claim7 := { stood := { row := sessionUntilsRow, standIns := [], harness := (true, "6f8d861ccb095c92022ea5d6f2d43763d352a46e41411f0a31fb0156fc6f37f9"), looks := false }, kinds := [], alts := [], laidByText := true, laidKinds := [.data, .pinned], laidTests := true, laidLooks := .later }
def SessionUntilsCardSaid : Prop := Claim7.holds Tryd.pinned (.plain (OpenSpec.ofChange sessionUntilsSpec)) sessionUntilsCard

/-- THE TIED CARD OF 'holdfastlaw11.SessionApart'. -/
def sessionApartCard : Claim7 := { stood := { row := sessionApartRow, standIns := [], harness := (true, "6f8d861ccb095c92022ea5d6f2d43763d352a46e41411f0a31fb0156fc6f37f9"), looks := false }, kinds := [], alts := [], laidByText := true, laidKinds := [.data, .pinned], laidTests := true, laidLooks := .later }
def SessionApartCardSaid : Prop := Claim7.holds Tryd.pinned (.plain (OpenSpec.ofChange sessionApartSpec)) sessionApartCard

/-- THE TIED CARD OF 'holdfastlaw11.SessionLasts'. -/
def sessionLastsCard : Claim7 := { stood := { row := sessionLastsRow, standIns := [], harness := (true, "6f8d861ccb095c92022ea5d6f2d43763d352a46e41411f0a31fb0156fc6f37f9"), looks := false }, kinds := [], alts := [], laidByText := true, laidKinds := [.data, .pinned], laidTests := true, laidLooks := .later }
def SessionLastsCardSaid : Prop := Claim7.holds Tryd.pinned (.plain (OpenSpec.ofChange sessionLastsSpec)) sessionLastsCard

/-- THE TIED CARD OF 'holdfastlaw11.SessionOver'. -/
def sessionOverCard : Claim7 := { stood := { row := sessionOverRow, standIns := [], harness := (true, "6f8d861ccb095c92022ea5d6f2d43763d352a46e41411f0a31fb0156fc6f37f9"), looks := false }, kinds := [], alts := [], laidByText := true, laidKinds := [.data, .pinned], laidTests := true, laidLooks := .later }
def SessionOverCardSaid : Prop := Claim7.holds Tryd.pinned (.plain (OpenSpec.ofChange sessionOverSpec)) sessionOverCard

/-- THE TIED CARD OF 'holdfastlaw11.SessionFew'. -/
def sessionFewCard : Claim7 := { stood := { row := sessionFewRow, standIns := [], harness := (true, "6f8d861ccb095c92022ea5d6f2d43763d352a46e41411f0a31fb0156fc6f37f9"), looks := false }, kinds := [], alts := [], laidByText := true, laidKinds := [.data, .pinned], laidTests := true, laidLooks := .later }
def SessionFewCardSaid : Prop := Claim7.holds Tryd.pinned (.plain (OpenSpec.ofChange sessionFewSpec)) sessionFewCard

/-- THE SECOND FORM's CARD OF 'holdfastlaw11.SessionUntils'. -/
def sessionUntilsUptoCard : Claim7 := { stood := { row := sessionUntilsUptoRow, standIns := [], harness := (true, "6f8d861ccb095c92022ea5d6f2d43763d352a46e41411f0a31fb0156fc6f37f9"), looks := false }, kinds := [], alts := [], laidByText := true, laidKinds := [.data, .pinned], laidTests := true, laidLooks := .later }
def SessionUntilsUptoCardSaid : Prop := Claim7.holds Tryd.pinned (.plain (OpenSpec.upto sessionUntilsSpec)) sessionUntilsUptoCard

/-- THE SECOND FORM's CARD OF 'holdfastlaw11.SessionApart'. -/
def sessionApartUptoCard : Claim7 := { stood := { row := sessionApartUptoRow, standIns := [], harness := (true, "6f8d861ccb095c92022ea5d6f2d43763d352a46e41411f0a31fb0156fc6f37f9"), looks := false }, kinds := [], alts := [], laidByText := true, laidKinds := [.data, .pinned], laidTests := true, laidLooks := .later }
def SessionApartUptoCardSaid : Prop := Claim7.holds Tryd.pinned (.plain (OpenSpec.upto sessionApartSpec)) sessionApartUptoCard

/-- THE SECOND FORM's CARD OF 'holdfastlaw11.SessionLasts'. -/
def sessionLastsUptoCard : Claim7 := { stood := { row := sessionLastsUptoRow, standIns := [], harness := (true, "6f8d861ccb095c92022ea5d6f2d43763d352a46e41411f0a31fb0156fc6f37f9"), looks := false }, kinds := [], alts := [], laidByText := true, laidKinds := [.data, .pinned], laidTests := true, laidLooks := .later }
def SessionLastsUptoCardSaid : Prop := Claim7.holds Tryd.pinned (.plain (OpenSpec.upto sessionLastsSpec)) sessionLastsUptoCard

/-- THE SECOND FORM's CARD OF 'holdfastlaw11.SessionOver'. -/
def sessionOverUptoCard : Claim7 := { stood := { row := sessionOverUptoRow, standIns := [], harness := (true, "6f8d861ccb095c92022ea5d6f2d43763d352a46e41411f0a31fb0156fc6f37f9"), looks := false }, kinds := [], alts := [], laidByText := true, laidKinds := [.data, .pinned], laidTests := true, laidLooks := .later }
def SessionOverUptoCardSaid : Prop := Claim7.holds Tryd.pinned (.plain (OpenSpec.upto sessionOverSpec)) sessionOverUptoCard

/-- THE SECOND FORM's CARD OF 'holdfastlaw11.SessionFew'. -/
def sessionFewUptoCard : Claim7 := { stood := { row := sessionFewUptoRow, standIns := [], harness := (true, "6f8d861ccb095c92022ea5d6f2d43763d352a46e41411f0a31fb0156fc6f37f9"), looks := false }, kinds := [], alts := [], laidByText := true, laidKinds := [.data, .pinned], laidTests := true, laidLooks := .later }
def SessionFewUptoCardSaid : Prop := Claim7.holds Tryd.pinned (.plain (OpenSpec.upto sessionFewSpec)) sessionFewUptoCard
end Rows
end Go.Proofs.YticbbnjhiiimcaaDoor
