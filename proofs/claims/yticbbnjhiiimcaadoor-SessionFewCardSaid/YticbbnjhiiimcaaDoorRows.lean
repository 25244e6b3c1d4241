/-
  NARROWER THAN 'FOR EVERY INPUT', by the rows' own cells (each row's printed sentence says how): SessionUntils: laid · SessionApart: laid · SessionLasts: laid · SessionOver: laid · SessionFew: laid.
  DERIVED. THE GIVEN ROWS OF THIS SEAT. 5 by the template 'for every input the law returns true; each argument reads behind the call as it read before'; 0 by the template 'total and deterministic' (their statements: YticbbnjhiiimcaaDoorTotals.lean).
  GIVEN WITH THE SEED: the statements are not yours to turn. If you find one false, say at which input.
  Laid BY PROGRAM, IN A SANDBOX (cutbox-rows.mjs): the forced cells as the released guide's own fill.sh prints them over the translation 708fc7f27c5ed6ab… (all of the seat's roots in one cut). By AI agents, Wed Nov 11 2026. No macro, syntax, notation, axiom, sorry.
-/
import Derived.Test.YticbbnjhiiimcaaDoorChecked
import GoSem.PinnedTables
import GoSem.Claim
import GoSem.ClaimJoined
import GoSem.ClaimMapViews
import Derived.JoinedTies
import Derived.KernelRfl
namespace Go.Proofs.YticbbnjhiiimcaaDoor
/- THE CELL 'sum', in the pinned program and in every row, IS THE sha256 OF THE DUMP (.gsa) THAT YticbbnjhiiimcaaDoorProg.lean LOADS. Nothing in Lean hashes anything: it is a label: what it is worth is what the hold of that sum in a sandbox is worth. -/
noncomputable def Tryd.pinned : Pinned := { name := "yticbbnjhiiimcaadoor", sum := "708fc7f27c5ed6abf98c187291c62f2b7d10d528f35af21c908a5e62bbdc03f1", checked := Tryd.checked }
namespace Rows
def none {H : Type} : Left H := { results := [], args := [] }

/- WHAT THE LISTED PACKAGE-LEVEL VARIABLES READ AS WHEN THE CALL BEGINS. Each datum BY PROGRAM (the guide's laid-datum.mjs) off the statement by which the dump's own 'gosem.cut.vars' lays the variable. In a bare row this is a premise. The card (YticbbnjhiiimcaaDoorCards.lean) ties it to the program's text. -/
def laid_unicode_utf8_acceptRanges {H : Type} : DataW H := .agg [.agg [.lit (.int .u8 128), .lit (.int .u8 191)], .agg [.lit (.int .u8 160), .lit (.int .u8 191)], .agg [.lit (.int .u8 128), .lit (.int .u8 159)], .agg [.lit (.int .u8 144), .lit (.int .u8 191)], .agg [.lit (.int .u8 128), .lit (.int .u8 143)], .agg [.lit (.int .u8 0), .lit (.int .u8 0)], .agg [.lit (.int .u8 0), .lit (.int .u8 0)], .agg [.lit (.int .u8 0), .lit (.int .u8 0)], .agg [.lit (.int .u8 0), .lit (.int .u8 0)], .agg [.lit (.int .u8 0), .lit (.int .u8 0)], .agg [.lit (.int .u8 0), .lit (.int .u8 0)], .agg [.lit (.int .u8 0), .lit (.int .u8 0)], .agg [.lit (.int .u8 0), .lit (.int .u8 0)], .agg [.lit (.int .u8 0), .lit (.int .u8 0)], .agg [.lit (.int .u8 0), .lit (.int .u8 0)], .agg [.lit (.int .u8 0), .lit (.int .u8 0)]]
/-- One of Go's own tables, pinned by name: the form's constant. -/
def laid_unicode_utf8_first : DataW Unit := Go.Pinned.utf8First

/-- 'holdfastlaw11.SessionUntils': WHATEVER THE INPUT: true; the input reads as it did. -/
def sessionUntilsSpec : ChangeSpec := { name := "sessionUntils", fn := fun _ => fun
  | [d] => { results := [.lit (.bool true)], args := [d] }
  | _ => none }
def sessionUntilsRow : OpenClaim := { program := "yticbbnjhiiimcaadoor", sum := "708fc7f27c5ed6abf98c187291c62f2b7d10d528f35af21c908a5e62bbdc03f1", func := "holdfast/holdfastlaw11.SessionUntils", spec := "sessionUntils", inPlace := ["internal/bytealg.IndexByteString", "internal/bytealg.IndexString"], unfollowed := true, recurses := true, named := ["unicode/utf8.first", "unicode/utf8.acceptRanges", "internal/bytealg.MaxLen"], apart := false, laid := [("unicode/utf8.acceptRanges", laid_unicode_utf8_acceptRanges), ("unicode/utf8.first", laid_unicode_utf8_first)] }
def SessionUntilsSaid : Prop := sessionUntilsRow.holds Tryd.pinned (OpenSpec.ofChange sessionUntilsSpec)

/-- ITS FALSE NEIGHBOUR: 'it returns false'. Refute it at one input. -/
def sessionUntilsWrong : ChangeSpec := { name := "sessionUntils", fn := fun _ => fun
  | [d] => { results := [.lit (.bool false)], args := [d] }
  | _ => none }
def SessionUntilsWrongFalsely : Prop := sessionUntilsRow.holds Tryd.pinned (OpenSpec.ofChange sessionUntilsWrong)

/-- 'holdfastlaw11.SessionApart': WHATEVER THE INPUT: true; the input reads as it did. -/
def sessionApartSpec : ChangeSpec := { name := "sessionApart", fn := fun _ => fun
  | [d1, d2] => { results := [.lit (.bool true)], args := [d1, d2] }
  | _ => none }
def sessionApartRow : OpenClaim := { program := "yticbbnjhiiimcaadoor", sum := "708fc7f27c5ed6abf98c187291c62f2b7d10d528f35af21c908a5e62bbdc03f1", func := "holdfast/holdfastlaw11.SessionApart", spec := "sessionApart", inPlace := ["internal/bytealg.IndexByteString", "internal/bytealg.IndexString"], unfollowed := true, recurses := true, named := ["unicode/utf8.first", "unicode/utf8.acceptRanges", "internal/bytealg.MaxLen"], apart := false, laid := [("unicode/utf8.acceptRanges", laid_unicode_utf8_acceptRanges), ("unicode/utf8.first", laid_unicode_utf8_first)] }
def SessionApartSaid : Prop := sessionApartRow.holds Tryd.pinned (OpenSpec.ofChange sessionApartSpec)

/-- ITS FALSE NEIGHBOUR: 'it returns false'. Refute it at one input. -/
def sessionApartWrong : ChangeSpec := { name := "sessionApart", fn := fun _ => fun
  | [d1, d2] => { results := [.lit (.bool false)], args := [d1, d2] }
  | _ => none }
def SessionApartWrongFalsely : Prop := sessionApartRow.holds Tryd.pinned (OpenSpec.ofChange sessionApartWrong)

/-- 'holdfastlaw11.SessionLasts': WHATEVER THE INPUT: true; the input reads as it did. -/
def sessionLastsSpec : ChangeSpec := { name := "sessionLasts", fn := fun _ => fun
  | [d1, d2] => { results := [.lit (.bool true)], args := [d1, d2] }
  | _ => none }
def sessionLastsRow : OpenClaim := { program := "yticbbnjhiiimcaadoor", sum := "708fc7f27c5ed6abf98c187291c62f2b7d10d528f35af21c908a5e62bbdc03f1", func := "holdfast/holdfastlaw11.SessionLasts", spec := "sessionLasts", inPlace := ["internal/bytealg.IndexByteString", "internal/bytealg.IndexString"], unfollowed := true, recurses := true, named := ["unicode/utf8.first", "unicode/utf8.acceptRanges", "internal/bytealg.MaxLen"], apart := false, laid := [("unicode/utf8.acceptRanges", laid_unicode_utf8_acceptRanges), ("unicode/utf8.first", laid_unicode_utf8_first)] }
def SessionLastsSaid : Prop := sessionLastsRow.holds Tryd.pinned (OpenSpec.ofChange sessionLastsSpec)

/-- ITS FALSE NEIGHBOUR: 'it returns false'. Refute it at one input. -/
def sessionLastsWrong : ChangeSpec := { name := "sessionLasts", fn := fun _ => fun
  | [d1, d2] => { results := [.lit (.bool false)], args := [d1, d2] }
  | _ => none }
def SessionLastsWrongFalsely : Prop := sessionLastsRow.holds Tryd.pinned (OpenSpec.ofChange sessionLastsWrong)

/-- 'holdfastlaw11.SessionOver': WHATEVER THE INPUT: true; the input reads as it did. -/
def sessionOverSpec : ChangeSpec := { name := "sessionOver", fn := fun _ => fun
  | [d1, d2, d3] => { results := [.lit (.bool true)], args := [d1, d2, d3] }
  | _ => none }
def sessionOverRow : OpenClaim := { program := "yticbbnjhiiimcaadoor", sum := "708fc7f27c5ed6abf98c187291c62f2b7d10d528f35af21c908a5e62bbdc03f1", func := "holdfast/holdfastlaw11.SessionOver", spec := "sessionOver", inPlace := ["internal/bytealg.IndexByteString", "internal/bytealg.IndexString"], unfollowed := true, recurses := true, named := ["unicode/utf8.first", "unicode/utf8.acceptRanges", "internal/bytealg.MaxLen"], apart := false, laid := [("unicode/utf8.acceptRanges", laid_unicode_utf8_acceptRanges), ("unicode/utf8.first", laid_unicode_utf8_first)] }
def SessionOverSaid : Prop := sessionOverRow.holds Tryd.pinned (OpenSpec.ofChange sessionOverSpec)

/-- ITS FALSE NEIGHBOUR: 'it returns false'. Refute it at one input. -/
def sessionOverWrong : ChangeSpec := { name := "sessionOver", fn := fun _ => fun
  | [d1, d2, d3] => { results := [.lit (.bool false)], args := [d1, d2, d3] }
  | _ => none }
def SessionOverWrongFalsely : Prop := sessionOverRow.holds Tryd.pinned (OpenSpec.ofChange sessionOverWrong)

/-- 'holdfastlaw11.SessionFew': WHATEVER THE INPUT: true; the input reads as it did. -/
def sessionFewSpec : ChangeSpec := { name := "sessionFew", fn := fun _ => fun
  | [d1, d2, d3] => { results := [.lit (.bool true)], args := [d1, d2, d3] }
  | _ => none }
def sessionFewRow : OpenClaim := { program := "yticbbnjhiiimcaadoor", sum := "708fc7f27c5ed6abf98c187291c62f2b7d10d528f35af21c908a5e62bbdc03f1", func := "holdfast/holdfastlaw11.SessionFew", spec := "sessionFew", inPlace := ["internal/bytealg.IndexByteString", "internal/bytealg.IndexString"], unfollowed := true, recurses := true, named := ["unicode/utf8.first", "unicode/utf8.acceptRanges", "internal/bytealg.MaxLen"], apart := false, laid := [("unicode/utf8.acceptRanges", laid_unicode_utf8_acceptRanges), ("unicode/utf8.first", laid_unicode_utf8_first)] }
def SessionFewSaid : Prop := sessionFewRow.holds Tryd.pinned (OpenSpec.ofChange sessionFewSpec)

/-- ITS FALSE NEIGHBOUR: 'it returns false'. Refute it at one input. -/
def sessionFewWrong : ChangeSpec := { name := "sessionFew", fn := fun _ => fun
  | [d1, d2, d3] => { results := [.lit (.bool false)], args := [d1, d2, d3] }
  | _ => none }
def SessionFewWrongFalsely : Prop := sessionFewRow.holds Tryd.pinned (OpenSpec.ofChange sessionFewWrong)

/- THE SECOND FORM. 'bulk': how many values and letters a reading holds, each counted each time it is reached (what is shared counts as often as it is met; a slice's spare places count too). A statement '..UptoSaid' is the law's where the arguments, and the package variables that the reading takes, are together of bulk at most 1048576: NARROWER than '..Said'. Prove '..Said' where nothing that the law and all that it calls make is longer than what came in: it says more and counts as full. Else prove '..UptoSaid'. A law counts once. -/
mutual
def uptoBulk {H : Type} : DataW H → Nat
  | .lit (.string bytes) => bytes.length + 1
  | .lit _ => 1
  | .nil => 1
  | .ptr d => uptoBulk d + 1
  | .slice elems spare => uptoBulkAll elems + uptoBulkAll spare + 1
  | .agg parts => uptoBulkAll parts + 1
  | .iface _ d => uptoBulk d + 1
  | .map entries => uptoBulkEntries entries + 1
  | .held _ => 1
def uptoBulkAll {H : Type} : List (DataW H) → Nat
  | [] => 0
  | d :: r => uptoBulk d + uptoBulkAll r
def uptoBulkEntries {H : Type} : List (Lit × DataW H) → Nat
  | [] => 0
  | x :: r => uptoBulkEntry x + uptoBulkEntries r
def uptoBulkEntry {H : Type} : Lit × DataW H → Nat
  | (.string bytes, d) => bytes.length + uptoBulk d + 1
  | (_, d) => uptoBulk d + 1
 end
def uptoSmall : (H : Type) → List (DataW H) → Bool := fun _ ds => decide (uptoBulkAll ds ≤ 1048576)
def OpenSpec.upto (s : _root_.Go.ChangeSpec) : _root_.Go.OpenSpec := { _root_.Go.OpenSpec.ofChange s with cond := some uptoSmall }

/-- 'holdfastlaw11.SessionUntils', WHERE WHAT IT READS IS OF BULK AT MOST 1048576: true; the input reads as it did. -/
def sessionUntilsUptoRow : OpenClaim := { program := "yticbbnjhiiimcaadoor", sum := "708fc7f27c5ed6abf98c187291c62f2b7d10d528f35af21c908a5e62bbdc03f1", func := "holdfast/holdfastlaw11.SessionUntils", spec := "sessionUntils", inPlace := ["internal/bytealg.IndexByteString", "internal/bytealg.IndexString"], unfollowed := true, recurses := true, named := ["unicode/utf8.first", "unicode/utf8.acceptRanges", "internal/bytealg.MaxLen"], apart := false, laid := [("unicode/utf8.acceptRanges", laid_unicode_utf8_acceptRanges), ("unicode/utf8.first", laid_unicode_utf8_first)], narrowed := true }
def SessionUntilsUptoSaid : Prop := sessionUntilsUptoRow.holds Tryd.pinned (OpenSpec.upto sessionUntilsSpec)

/-- 'holdfastlaw11.SessionApart', WHERE WHAT IT READS IS OF BULK AT MOST 1048576: true; the input reads as it did. -/
def sessionApartUptoRow : OpenClaim := { program := "yticbbnjhiiimcaadoor", sum := "708fc7f27c5ed6abf98c187291c62f2b7d10d528f35af21c908a5e62bbdc03f1", func := "holdfast/holdfastlaw11.SessionApart", spec := "sessionApart", inPlace := ["internal/bytealg.IndexByteString", "internal/bytealg.IndexString"], unfollowed := true, recurses := true, named := ["unicode/utf8.first", "unicode/utf8.acceptRanges", "internal/bytealg.MaxLen"], apart := false, laid := [("unicode/utf8.acceptRanges", laid_unicode_utf8_acceptRanges), ("unicode/utf8.first", laid_unicode_utf8_first)], narrowed := true }
def SessionApartUptoSaid : Prop := sessionApartUptoRow.holds Tryd.pinned (OpenSpec.upto sessionApartSpec)

/-- 'holdfastlaw11.SessionLasts', WHERE WHAT IT READS IS OF BULK AT MOST 1048576: true; the input reads as it did. -/
def sessionLastsUptoRow : OpenClaim := { program := "yticbbnjhiiimcaadoor", sum := "708fc7f27c5ed6abf98c187291c62f2b7d10d528f35af21c908a5e62bbdc03f1", func := "holdfast/holdfastlaw11.SessionLasts", spec := "sessionLasts", inPlace := ["internal/bytealg.IndexByteString", "internal/bytealg.IndexString"], unfollowed := true, recurses := true, named := ["unicode/utf8.first", "unicode/utf8.acceptRanges", "internal/bytealg.MaxLen"], apart := false, laid := [("unicode/utf8.acceptRanges", laid_unicode_utf8_acceptRanges), ("unicode/utf8.first", laid_unicode_utf8_first)], narrowed := true }
def SessionLastsUptoSaid : Prop := sessionLastsUptoRow.holds Tryd.pinned (OpenSpec.upto sessionLastsSpec)

/-- 'holdfastlaw11.SessionOver', WHERE WHAT IT READS IS OF BULK AT MOST 1048576: true; the input reads as it did. -/
def sessionOverUptoRow : OpenClaim := { program := "yticbbnjhiiimcaadoor", sum := "708fc7f27c5ed6abf98c187291c62f2b7d10d528f35af21c908a5e62bbdc03f1", func := "holdfast/holdfastlaw11.SessionOver", spec := "sessionOver", inPlace := ["internal/bytealg.IndexByteString", "internal/bytealg.IndexString"], unfollowed := true, recurses := true, named := ["unicode/utf8.first", "unicode/utf8.acceptRanges", "internal/bytealg.MaxLen"], apart := false, laid := [("unicode/utf8.acceptRanges", laid_unicode_utf8_acceptRanges), ("unicode/utf8.first", laid_unicode_utf8_first)], narrowed := true }
def SessionOverUptoSaid : Prop := sessionOverUptoRow.holds Tryd.pinned (OpenSpec.upto sessionOverSpec)

/-- 'holdfastlaw11.SessionFew', WHERE WHAT IT READS IS OF BULK AT MOST 1048576: true; the input reads as it did. -/
def sessionFewUptoRow : OpenClaim := { program := "yticbbnjhiiimcaadoor", sum := "708fc7f27c5ed6abf98c187291c62f2b7d10d528f35af21c908a5e62bbdc03f1", func := "holdfast/holdfastlaw11.SessionFew", spec := "sessionFew", inPlace := ["internal/bytealg.IndexByteString", "internal/bytealg.IndexString"], unfollowed := true, recurses := true, named := ["unicode/utf8.first", "unicode/utf8.acceptRanges", "internal/bytealg.MaxLen"], apart := false, laid := [("unicode/utf8.acceptRanges", laid_unicode_utf8_acceptRanges), ("unicode/utf8.first", laid_unicode_utf8_first)], narrowed := true }
def SessionFewUptoSaid : Prop := sessionFewUptoRow.holds Tryd.pinned (OpenSpec.upto sessionFewSpec)

end Rows
end Go.Proofs.YticbbnjhiiimcaaDoor
