/-
  DERIVED. GIVEN WITH THE SEED: THE CARDS: each row of YtjeiojibnmfibaaDoorRows.lean that lists a variable, with what it lists TIED to the program's text (the seventh form; the later family's looks); each row that meets fmt, with fmt's text TOLD by the authors' own Lean function (tested against real Go, not proved from fmt's source: count such statements apart). THE CARD IS WHAT COUNTS. Prove the row's statement (the work); the ties are given (YtjeiojibnmfibaaDoorTie.lean); close each card by the builder's one call (the guide's Derived/Test/ToyasCard.lean, 'card_holds'). Laid BY PROGRAM, IN A SANDBOX (cutbox-door.mjs). By AI agents, Wed Nov 11 2026. No macro, syntax, notation, axiom, sorry.
-/
import Derived.Test.YtjeiojibnmfibaaDoorRows
import GoSem.ClaimSeven
namespace Go.Proofs.YtjeiojibnmfibaaDoor
namespace Rows

/-- THE TIED CARD OF 'holdfastlaw14.AuditOrder'. -/
def auditOrderCard : Claim7 := { stood := { row := auditOrderRow, standIns := [], harness := (true, "7ba1b2b9812d8b13d9187038b7817e605415b08d36fe35512d3597cef1ce7ff7"), looks := true }, kinds := [], alts := [], laidByText := true, laidKinds := [.data, .data, .data], laidTests := true, laidLooks := .later }
def AuditOrderCardSaid : Prop := Claim7.holds Tryd.pinned (.plain (OpenSpec.ofChange auditOrderSpec)) auditOrderCard

/-- THE TIED CARD OF 'holdfastlaw14.AuditRooms'. -/
def auditRoomsCard : Claim7 := { stood := { row := auditRoomsRow, standIns := [], harness := (true, "7ba1b2b9812d8b13d9187038b7817e605415b08d36fe35512d3597cef1ce7ff7"), looks := true }, kinds := [], alts := [], laidByText := true, laidKinds := [.data, .data, .data], laidTests := true, laidLooks := .later }
def AuditRoomsCardSaid : Prop := Claim7.holds Tryd.pinned (.plain (OpenSpec.ofChange auditRoomsSpec)) auditRoomsCard

/-- THE TIED CARD OF 'holdfastlaw14.AuditPrunes'. -/
def auditPrunesCard : Claim7 := { stood := { row := auditPrunesRow, standIns := [], harness := (true, "7ba1b2b9812d8b13d9187038b7817e605415b08d36fe35512d3597cef1ce7ff7"), looks := true }, kinds := [], alts := [], laidByText := true, laidKinds := [.data, .data, .data], laidTests := true, laidLooks := .later }
def AuditPrunesCardSaid : Prop := Claim7.holds Tryd.pinned (.plain (OpenSpec.ofChange auditPrunesSpec)) auditPrunesCard

/-- THE TIED CARD OF 'holdfastlaw14.AuditPlays'. -/
def auditPlaysCard : Claim7 := { stood := { row := auditPlaysRow, standIns := [], harness := (true, "7ba1b2b9812d8b13d9187038b7817e605415b08d36fe35512d3597cef1ce7ff7"), looks := true }, kinds := [], alts := [], laidByText := true, laidKinds := [.data, .data, .data], laidTests := true, laidLooks := .later }
def AuditPlaysCardSaid : Prop := Claim7.holds Tryd.pinned (.plain (OpenSpec.ofChange auditPlaysSpec)) auditPlaysCard

/-- THE TIED CARD OF 'holdfastlaw14.AuditNone'. -/
def auditNoneCard : Claim7 := { stood := { row := auditNoneRow, standIns := [], harness := (true, "7ba1b2b9812d8b13d9187038b7817e605415b08d36fe35512d3597cef1ce7ff7"), looks := true }, kinds := [], alts := [], laidByText := true, laidKinds := [.data, .data, .data], laidTests := true, laidLooks := .later }
def AuditNoneCardSaid : Prop := Claim7.holds Tryd.pinned (.plain (OpenSpec.ofChange auditNoneSpec)) auditNoneCard

/-- THE TIED CARD OF 'holdfastlaw14.AuditSound'. -/
def auditSoundCard : Claim7 := { stood := { row := auditSoundRow, standIns := [], harness := (true, "7ba1b2b9812d8b13d9187038b7817e605415b08d36fe35512d3597cef1ce7ff7"), looks := true }, kinds := [], alts := [], laidByText := true, laidKinds := [.data, .data, .data, .data, .sentinel, .sentinel, .pinned], laidTests := true, laidLooks := .later }
def AuditSoundCardSaid : Prop := Claim7.holds Tryd.pinned (.plain (OpenSpec.ofChange auditSoundSpec)) auditSoundCard

/-- THE SECOND FORM's CARD OF 'holdfastlaw14.AuditOrder'. -/
def auditOrderUptoCard : Claim7 := { stood := { row := auditOrderUptoRow, standIns := [], harness := (true, "7ba1b2b9812d8b13d9187038b7817e605415b08d36fe35512d3597cef1ce7ff7"), looks := true }, kinds := [], alts := [], laidByText := true, laidKinds := [.data, .data, .data], laidTests := true, laidLooks := .later }
def AuditOrderUptoCardSaid : Prop := Claim7.holds Tryd.pinned (.plain (OpenSpec.upto auditOrderSpec)) auditOrderUptoCard

/-- THE SECOND FORM's CARD OF 'holdfastlaw14.AuditRooms'. -/
def auditRoomsUptoCard : Claim7 := { stood := { row := auditRoomsUptoRow, standIns := [], harness := (true, "7ba1b2b9812d8b13d9187038b7817e605415b08d36fe35512d3597cef1ce7ff7"), looks := true }, kinds := [], alts := [], laidByText := true, laidKinds := [.data, .data, .data], laidTests := true, laidLooks := .later }
def AuditRoomsUptoCardSaid : Prop := Claim7.holds Tryd.pinned (.plain (OpenSpec.upto auditRoomsSpec)) auditRoomsUptoCard

/-- THE SECOND FORM's CARD OF 'holdfastlaw14.AuditPrunes'. -/
def auditPrunesUptoCard : Claim7 := { stood := { row := auditPrunesUptoRow, standIns := [], harness := (true, "7ba1b2b9812d8b13d9187038b7817e605415b08d36fe35512d3597cef1ce7ff7"), looks := true }, kinds := [], alts := [], laidByText := true, laidKinds := [.data, .data, .data], laidTests := true, laidLooks := .later }
def AuditPrunesUptoCardSaid : Prop := Claim7.holds Tryd.pinned (.plain (OpenSpec.upto auditPrunesSpec)) auditPrunesUptoCard

/-- THE SECOND FORM's CARD OF 'holdfastlaw14.AuditPlays'. -/
def auditPlaysUptoCard : Claim7 := { stood := { row := auditPlaysUptoRow, standIns := [], harness := (true, "7ba1b2b9812d8b13d9187038b7817e605415b08d36fe35512d3597cef1ce7ff7"), looks := true }, kinds := [], alts := [], laidByText := true, laidKinds := [.data, .data, .data], laidTests := true, laidLooks := .later }
def AuditPlaysUptoCardSaid : Prop := Claim7.holds Tryd.pinned (.plain (OpenSpec.upto auditPlaysSpec)) auditPlaysUptoCard

/-- THE SECOND FORM's CARD OF 'holdfastlaw14.AuditNone'. -/
def auditNoneUptoCard : Claim7 := { stood := { row := auditNoneUptoRow, standIns := [], harness := (true, "7ba1b2b9812d8b13d9187038b7817e605415b08d36fe35512d3597cef1ce7ff7"), looks := true }, kinds := [], alts := [], laidByText := true, laidKinds := [.data, .data, .data], laidTests := true, laidLooks := .later }
def AuditNoneUptoCardSaid : Prop := Claim7.holds Tryd.pinned (.plain (OpenSpec.upto auditNoneSpec)) auditNoneUptoCard

/-- THE SECOND FORM's CARD OF 'holdfastlaw14.AuditSound'. -/
def auditSoundUptoCard : Claim7 := { stood := { row := auditSoundUptoRow, standIns := [], harness := (true, "7ba1b2b9812d8b13d9187038b7817e605415b08d36fe35512d3597cef1ce7ff7"), looks := true }, kinds := [], alts := [], laidByText := true, laidKinds := [.data, .data, .data, .data, .sentinel, .sentinel, .pinned], laidTests := true, laidLooks := .later }
def AuditSoundUptoCardSaid : Prop := Claim7.holds Tryd.pinned (.plain (OpenSpec.upto auditSoundSpec)) auditSoundUptoCard
end Rows
end Go.Proofs.YtjeiojibnmfibaaDoor
