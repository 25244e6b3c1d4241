/-
  No cell of these rows narrows 'for every input' (looked for: loops, veiled, ifaces, maps, wideKeys, modest, calm, conditions, laid).
  DERIVED. THE GIVEN ROWS OF THIS SEAT. 6 by the template 'for every input the law returns true; each argument reads behind the call as it read before'; 0 by the template 'total and deterministic' (their statements: YtjmgkfpjaelilaaTotals.lean).
  GIVEN WITH THE SEED: the statements are not yours to turn. If you find one false, say at which input.
  Laid BY PROGRAM, IN A SANDBOX (cutbox-rows.mjs): the forced cells as the released guide's own fill.sh prints them over the translation b008ba6f04a0ce06… (all of the seat's roots in one cut). By AI agents, Wed Nov 11 2026. No macro, syntax, notation, axiom, sorry.
-/
import Derived.Test.YtjmgkfpjaelilaaChecked
import GoSem.Claim
import GoSem.ClaimJoined
import GoSem.ClaimMapViews
import Derived.JoinedTies
import Derived.KernelRfl
namespace Go.Proofs.Ytjmgkfpjaelilaa
/- THE CELL 'sum', in the pinned program and in every row, IS THE sha256 OF THE DUMP (.gsa) THAT YtjmgkfpjaelilaaProg.lean LOADS. Nothing in Lean hashes anything: it is a label: what it is worth is what the hold of that sum in a sandbox is worth. -/
noncomputable def Try.pinned : Pinned := { name := "ytjmgkfpjaelilaa", sum := "b008ba6f04a0ce069e2bd6ca8d8d29b1ba69b3737c87c166472e8d663d10bb04", checked := Try.checked }
namespace Rows
def none {H : Type} : Left H := { results := [], args := [] }

/-- 'holdfastlaw07.HashParts': WHATEVER THE INPUT: true; the input reads as it did. -/
def hashPartsSpec : ChangeSpec := { name := "hashParts", fn := fun _ => fun
  | [d1, d2] => { results := [.lit (.bool true)], args := [d1, d2] }
  | _ => none }
def hashPartsRow : OpenClaim := { program := "ytjmgkfpjaelilaa", sum := "b008ba6f04a0ce069e2bd6ca8d8d29b1ba69b3737c87c166472e8d663d10bb04", func := "holdfast/holdfastlaw07.HashParts", spec := "hashParts", inPlace := ["internal/abi.NoEscape"], apart := false }
def HashPartsSaid : Prop := hashPartsRow.holds Try.pinned (OpenSpec.ofChange hashPartsSpec)

/-- ITS FALSE NEIGHBOUR: 'it returns false'. Refute it at one input. -/
def hashPartsWrong : ChangeSpec := { name := "hashParts", fn := fun _ => fun
  | [d1, d2] => { results := [.lit (.bool false)], args := [d1, d2] }
  | _ => none }
def HashPartsWrongFalsely : Prop := hashPartsRow.holds Try.pinned (OpenSpec.ofChange hashPartsWrong)

/-- 'holdfastlaw07.HashSums': WHATEVER THE INPUT: true; the input reads as it did. -/
def hashSumsSpec : ChangeSpec := { name := "hashSums", fn := fun _ => fun
  | [d1, d2] => { results := [.lit (.bool true)], args := [d1, d2] }
  | _ => none }
def hashSumsRow : OpenClaim := { program := "ytjmgkfpjaelilaa", sum := "b008ba6f04a0ce069e2bd6ca8d8d29b1ba69b3737c87c166472e8d663d10bb04", func := "holdfast/holdfastlaw07.HashSums", spec := "hashSums", inPlace := ["internal/abi.NoEscape"], apart := false }
def HashSumsSaid : Prop := hashSumsRow.holds Try.pinned (OpenSpec.ofChange hashSumsSpec)

/-- ITS FALSE NEIGHBOUR: 'it returns false'. Refute it at one input. -/
def hashSumsWrong : ChangeSpec := { name := "hashSums", fn := fun _ => fun
  | [d1, d2] => { results := [.lit (.bool false)], args := [d1, d2] }
  | _ => none }
def HashSumsWrongFalsely : Prop := hashSumsRow.holds Try.pinned (OpenSpec.ofChange hashSumsWrong)

/-- 'holdfastlaw07.HashBlocks': WHATEVER THE INPUT: true; the input reads as it did. -/
def hashBlocksSpec : ChangeSpec := { name := "hashBlocks", fn := fun _ => fun
  | [d1, d2] => { results := [.lit (.bool true)], args := [d1, d2] }
  | _ => none }
def hashBlocksRow : OpenClaim := { program := "ytjmgkfpjaelilaa", sum := "b008ba6f04a0ce069e2bd6ca8d8d29b1ba69b3737c87c166472e8d663d10bb04", func := "holdfast/holdfastlaw07.HashBlocks", spec := "hashBlocks", inPlace := ["internal/abi.NoEscape"], apart := false }
def HashBlocksSaid : Prop := hashBlocksRow.holds Try.pinned (OpenSpec.ofChange hashBlocksSpec)

/-- ITS FALSE NEIGHBOUR: 'it returns false'. Refute it at one input. -/
def hashBlocksWrong : ChangeSpec := { name := "hashBlocks", fn := fun _ => fun
  | [d1, d2] => { results := [.lit (.bool false)], args := [d1, d2] }
  | _ => none }
def HashBlocksWrongFalsely : Prop := hashBlocksRow.holds Try.pinned (OpenSpec.ofChange hashBlocksWrong)

/-- 'holdfastlaw07.HashDigits': WHATEVER THE INPUT: true; the input reads as it did. -/
def hashDigitsSpec : ChangeSpec := { name := "hashDigits", fn := fun _ => fun
  | [d1, d2, d3] => { results := [.lit (.bool true)], args := [d1, d2, d3] }
  | _ => none }
def hashDigitsRow : OpenClaim := { program := "ytjmgkfpjaelilaa", sum := "b008ba6f04a0ce069e2bd6ca8d8d29b1ba69b3737c87c166472e8d663d10bb04", func := "holdfast/holdfastlaw07.HashDigits", spec := "hashDigits", inPlace := ["internal/bytealg.IndexByteString", "internal/abi.NoEscape"], apart := false }
def HashDigitsSaid : Prop := hashDigitsRow.holds Try.pinned (OpenSpec.ofChange hashDigitsSpec)

/-- ITS FALSE NEIGHBOUR: 'it returns false'. Refute it at one input. -/
def hashDigitsWrong : ChangeSpec := { name := "hashDigits", fn := fun _ => fun
  | [d1, d2, d3] => { results := [.lit (.bool false)], args := [d1, d2, d3] }
  | _ => none }
def HashDigitsWrongFalsely : Prop := hashDigitsRow.holds Try.pinned (OpenSpec.ofChange hashDigitsWrong)

/-- 'holdfastlaw07.HashIterates': WHATEVER THE INPUT: true; the input reads as it did. -/
def hashIteratesSpec : ChangeSpec := { name := "hashIterates", fn := fun _ => fun
  | [d1, d2, d3] => { results := [.lit (.bool true)], args := [d1, d2, d3] }
  | _ => none }
def hashIteratesRow : OpenClaim := { program := "ytjmgkfpjaelilaa", sum := "b008ba6f04a0ce069e2bd6ca8d8d29b1ba69b3737c87c166472e8d663d10bb04", func := "holdfast/holdfastlaw07.HashIterates", spec := "hashIterates", inPlace := ["internal/abi.NoEscape"], apart := false }
def HashIteratesSaid : Prop := hashIteratesRow.holds Try.pinned (OpenSpec.ofChange hashIteratesSpec)

/-- ITS FALSE NEIGHBOUR: 'it returns false'. Refute it at one input. -/
def hashIteratesWrong : ChangeSpec := { name := "hashIterates", fn := fun _ => fun
  | [d1, d2, d3] => { results := [.lit (.bool false)], args := [d1, d2, d3] }
  | _ => none }
def HashIteratesWrongFalsely : Prop := hashIteratesRow.holds Try.pinned (OpenSpec.ofChange hashIteratesWrong)

/-- 'holdfastlaw07.HashRounds': WHATEVER THE INPUT: true; the input reads as it did. -/
def hashRoundsSpec : ChangeSpec := { name := "hashRounds", fn := fun _ => fun
  | [d1, d2, d3] => { results := [.lit (.bool true)], args := [d1, d2, d3] }
  | _ => none }
def hashRoundsRow : OpenClaim := { program := "ytjmgkfpjaelilaa", sum := "b008ba6f04a0ce069e2bd6ca8d8d29b1ba69b3737c87c166472e8d663d10bb04", func := "holdfast/holdfastlaw07.HashRounds", spec := "hashRounds", inPlace := ["internal/abi.NoEscape"], apart := false }
def HashRoundsSaid : Prop := hashRoundsRow.holds Try.pinned (OpenSpec.ofChange hashRoundsSpec)

/-- ITS FALSE NEIGHBOUR: 'it returns false'. Refute it at one input. -/
def hashRoundsWrong : ChangeSpec := { name := "hashRounds", fn := fun _ => fun
  | [d1, d2, d3] => { results := [.lit (.bool false)], args := [d1, d2, d3] }
  | _ => none }
def HashRoundsWrongFalsely : Prop := hashRoundsRow.holds Try.pinned (OpenSpec.ofChange hashRoundsWrong)

/- THE SECOND FORM. 'bulk': how many values and letters a reading holds, each counted each time it is reached (what is shared counts as often as it is met; a slice's spare places count too). A statement '..UptoSaid' is the law's where the arguments, and the package variables that the reading takes, are together of bulk at most 1048576: NARROWER than '..Said'. Prove '..Said' where nothing that the law and all that it calls make is longer than what came in: it says more and counts as full. Else prove '..UptoSaid'. A law counts once. -/
mutual
def uptoBulk {H : Type} : DataW H → Nat
  | .lit (.string bytes) => bytes.length + 1
  | .lit _ => 1
  | .nil => 1
  | .ptr d => uptoBulk d + 1
  | .slice elems spare => uptoBulkAll elems + uptoBulkAll spare + 1
  | .agg parts => uptoBulkAll parts + 1
  | .iface _ d => uptoBulk d + 1
  | .map entries => uptoBulkEntries entries + 1
  | .held _ => 1
def uptoBulkAll {H : Type} : List (DataW H) → Nat
  | [] => 0
  | d :: r => uptoBulk d + uptoBulkAll r
def uptoBulkEntries {H : Type} : List (Lit × DataW H) → Nat
  | [] => 0
  | x :: r => uptoBulkEntry x + uptoBulkEntries r
def uptoBulkEntry {H : Type} : Lit × DataW H → Nat
  | (.string bytes, d) => bytes.length + uptoBulk d + 1
  | (_, d) => uptoBulk d + 1
 end
def uptoSmall : (H : Type) → List (DataW H) → Bool := fun _ ds => decide (uptoBulkAll ds ≤ 1048576)
def OpenSpec.upto (s : _root_.Go.ChangeSpec) : _root_.Go.OpenSpec := { _root_.Go.OpenSpec.ofChange s with cond := some uptoSmall }

/-- 'holdfastlaw07.HashParts', WHERE WHAT IT READS IS OF BULK AT MOST 1048576: true; the input reads as it did. -/
def hashPartsUptoRow : OpenClaim := { program := "ytjmgkfpjaelilaa", sum := "b008ba6f04a0ce069e2bd6ca8d8d29b1ba69b3737c87c166472e8d663d10bb04", func := "holdfast/holdfastlaw07.HashParts", spec := "hashParts", inPlace := ["internal/abi.NoEscape"], apart := false, narrowed := true }
def HashPartsUptoSaid : Prop := hashPartsUptoRow.holds Try.pinned (OpenSpec.upto hashPartsSpec)

/-- 'holdfastlaw07.HashSums', WHERE WHAT IT READS IS OF BULK AT MOST 1048576: true; the input reads as it did. -/
def hashSumsUptoRow : OpenClaim := { program := "ytjmgkfpjaelilaa", sum := "b008ba6f04a0ce069e2bd6ca8d8d29b1ba69b3737c87c166472e8d663d10bb04", func := "holdfast/holdfastlaw07.HashSums", spec := "hashSums", inPlace := ["internal/abi.NoEscape"], apart := false, narrowed := true }
def HashSumsUptoSaid : Prop := hashSumsUptoRow.holds Try.pinned (OpenSpec.upto hashSumsSpec)

/-- 'holdfastlaw07.HashBlocks', WHERE WHAT IT READS IS OF BULK AT MOST 1048576: true; the input reads as it did. -/
def hashBlocksUptoRow : OpenClaim := { program := "ytjmgkfpjaelilaa", sum := "b008ba6f04a0ce069e2bd6ca8d8d29b1ba69b3737c87c166472e8d663d10bb04", func := "holdfast/holdfastlaw07.HashBlocks", spec := "hashBlocks", inPlace := ["internal/abi.NoEscape"], apart := false, narrowed := true }
def HashBlocksUptoSaid : Prop := hashBlocksUptoRow.holds Try.pinned (OpenSpec.upto hashBlocksSpec)

/-- 'holdfastlaw07.HashDigits', WHERE WHAT IT READS IS OF BULK AT MOST 1048576: true; the input reads as it did. -/
def hashDigitsUptoRow : OpenClaim := { program := "ytjmgkfpjaelilaa", sum := "b008ba6f04a0ce069e2bd6ca8d8d29b1ba69b3737c87c166472e8d663d10bb04", func := "holdfast/holdfastlaw07.HashDigits", spec := "hashDigits", inPlace := ["internal/bytealg.IndexByteString", "internal/abi.NoEscape"], apart := false, narrowed := true }
def HashDigitsUptoSaid : Prop := hashDigitsUptoRow.holds Try.pinned (OpenSpec.upto hashDigitsSpec)

/-- 'holdfastlaw07.HashIterates', WHERE WHAT IT READS IS OF BULK AT MOST 1048576: true; the input reads as it did. -/
def hashIteratesUptoRow : OpenClaim := { program := "ytjmgkfpjaelilaa", sum := "b008ba6f04a0ce069e2bd6ca8d8d29b1ba69b3737c87c166472e8d663d10bb04", func := "holdfast/holdfastlaw07.HashIterates", spec := "hashIterates", inPlace := ["internal/abi.NoEscape"], apart := false, narrowed := true }
def HashIteratesUptoSaid : Prop := hashIteratesUptoRow.holds Try.pinned (OpenSpec.upto hashIteratesSpec)

/-- 'holdfastlaw07.HashRounds', WHERE WHAT IT READS IS OF BULK AT MOST 1048576: true; the input reads as it did. -/
def hashRoundsUptoRow : OpenClaim := { program := "ytjmgkfpjaelilaa", sum := "b008ba6f04a0ce069e2bd6ca8d8d29b1ba69b3737c87c166472e8d663d10bb04", func := "holdfast/holdfastlaw07.HashRounds", spec := "hashRounds", inPlace := ["internal/abi.NoEscape"], apart := false, narrowed := true }
def HashRoundsUptoSaid : Prop := hashRoundsUptoRow.holds Try.pinned (OpenSpec.upto hashRoundsSpec)

end Rows
end Go.Proofs.Ytjmgkfpjaelilaa
