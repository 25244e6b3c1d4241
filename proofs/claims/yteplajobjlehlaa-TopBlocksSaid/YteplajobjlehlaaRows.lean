/-
  No cell of these rows narrows 'for every input' (looked for: loops, veiled, ifaces, maps, wideKeys, modest, calm, conditions, laid).
  DERIVED. THE GIVEN ROWS OF THIS SEAT. 9 by the template 'for every input the law returns true; each argument reads behind the call as it read before'; 0 by the template 'total and deterministic' (their statements: YteplajobjlehlaaTotals.lean).
  GIVEN WITH THE SEED: the statements are not yours to turn. If you find one false, say at which input.
  Laid BY PROGRAM, IN A SANDBOX (cutbox-rows.mjs): the forced cells as the released guide's own fill.sh prints them over the translation 463f8138d275e97c… (all of the seat's roots in one cut). By AI agents, Wed Nov 11 2026. No macro, syntax, notation, axiom, sorry.
-/
import Derived.Test.YteplajobjlehlaaChecked
import GoSem.Claim
import GoSem.ClaimJoined
import GoSem.ClaimMapViews
import Derived.JoinedTies
import Derived.KernelRfl
namespace Go.Proofs.Yteplajobjlehlaa
/- THE CELL 'sum', in the pinned program and in every row, IS THE sha256 OF THE DUMP (.gsa) THAT YteplajobjlehlaaProg.lean LOADS. Nothing in Lean hashes anything: it is a label: what it is worth is what the hold of that sum in a sandbox is worth. -/
noncomputable def Try.pinned : Pinned := { name := "yteplajobjlehlaa", sum := "463f8138d275e97c96477c2fdf677f1974b0ef76624cb13c98603d36fa23a54b", checked := Try.checked }
namespace Rows
def none {H : Type} : Left H := { results := [], args := [] }

/-- 'holdfastlaw01.BlockLast': WHATEVER THE INPUT: true; the input reads as it did. -/
def blockLastSpec : ChangeSpec := { name := "blockLast", fn := fun _ => fun
  | [d1, d2] => { results := [.lit (.bool true)], args := [d1, d2] }
  | _ => none }
def blockLastRow : OpenClaim := { program := "yteplajobjlehlaa", sum := "463f8138d275e97c96477c2fdf677f1974b0ef76624cb13c98603d36fa23a54b", func := "holdfast/holdfastlaw01.BlockLast", spec := "blockLast", inPlace := ["sync/atomic.AddInt64", "sync/atomic.LoadInt64"], unfollowed := true, recurses := true, apart := false }
def BlockLastSaid : Prop := blockLastRow.holds Try.pinned (OpenSpec.ofChange blockLastSpec)

/-- ITS FALSE NEIGHBOUR: 'it returns false'. Refute it at one input. -/
def blockLastWrong : ChangeSpec := { name := "blockLast", fn := fun _ => fun
  | [d1, d2] => { results := [.lit (.bool false)], args := [d1, d2] }
  | _ => none }
def BlockLastWrongFalsely : Prop := blockLastRow.holds Try.pinned (OpenSpec.ofChange blockLastWrong)

/-- 'holdfastlaw01.BlockPlays': WHATEVER THE INPUT: true; the input reads as it did. -/
def blockPlaysSpec : ChangeSpec := { name := "blockPlays", fn := fun _ => fun
  | [d1, d2, d3] => { results := [.lit (.bool true)], args := [d1, d2, d3] }
  | _ => none }
def blockPlaysRow : OpenClaim := { program := "yteplajobjlehlaa", sum := "463f8138d275e97c96477c2fdf677f1974b0ef76624cb13c98603d36fa23a54b", func := "holdfast/holdfastlaw01.BlockPlays", spec := "blockPlays", inPlace := ["sync/atomic.AddInt64", "sync/atomic.LoadInt64"], unfollowed := true, recurses := true, apart := false }
def BlockPlaysSaid : Prop := blockPlaysRow.holds Try.pinned (OpenSpec.ofChange blockPlaysSpec)

/-- ITS FALSE NEIGHBOUR: 'it returns false'. Refute it at one input. -/
def blockPlaysWrong : ChangeSpec := { name := "blockPlays", fn := fun _ => fun
  | [d1, d2, d3] => { results := [.lit (.bool false)], args := [d1, d2, d3] }
  | _ => none }
def BlockPlaysWrongFalsely : Prop := blockPlaysRow.holds Try.pinned (OpenSpec.ofChange blockPlaysWrong)

/-- 'holdfastlaw01.BlockReplays': WHATEVER THE INPUT: true; the input reads as it did. -/
def blockReplaysSpec : ChangeSpec := { name := "blockReplays", fn := fun _ => fun
  | [d1, d2] => { results := [.lit (.bool true)], args := [d1, d2] }
  | _ => none }
def blockReplaysRow : OpenClaim := { program := "yteplajobjlehlaa", sum := "463f8138d275e97c96477c2fdf677f1974b0ef76624cb13c98603d36fa23a54b", func := "holdfast/holdfastlaw01.BlockReplays", spec := "blockReplays", inPlace := ["sync/atomic.AddInt64", "sync/atomic.LoadInt64"], unfollowed := true, recurses := true, apart := false }
def BlockReplaysSaid : Prop := blockReplaysRow.holds Try.pinned (OpenSpec.ofChange blockReplaysSpec)

/-- ITS FALSE NEIGHBOUR: 'it returns false'. Refute it at one input. -/
def blockReplaysWrong : ChangeSpec := { name := "blockReplays", fn := fun _ => fun
  | [d1, d2] => { results := [.lit (.bool false)], args := [d1, d2] }
  | _ => none }
def BlockReplaysWrongFalsely : Prop := blockReplaysRow.holds Try.pinned (OpenSpec.ofChange blockReplaysWrong)

/-- 'holdfastlaw01.BlockSwaps': WHATEVER THE INPUT: true; the input reads as it did. -/
def blockSwapsSpec : ChangeSpec := { name := "blockSwaps", fn := fun _ => fun
  | [d1, d2] => { results := [.lit (.bool true)], args := [d1, d2] }
  | _ => none }
def blockSwapsRow : OpenClaim := { program := "yteplajobjlehlaa", sum := "463f8138d275e97c96477c2fdf677f1974b0ef76624cb13c98603d36fa23a54b", func := "holdfast/holdfastlaw01.BlockSwaps", spec := "blockSwaps", inPlace := ["sync/atomic.AddInt64", "sync/atomic.LoadInt64"], unfollowed := true, recurses := true, apart := false }
def BlockSwapsSaid : Prop := blockSwapsRow.holds Try.pinned (OpenSpec.ofChange blockSwapsSpec)

/-- ITS FALSE NEIGHBOUR: 'it returns false'. Refute it at one input. -/
def blockSwapsWrong : ChangeSpec := { name := "blockSwaps", fn := fun _ => fun
  | [d1, d2] => { results := [.lit (.bool false)], args := [d1, d2] }
  | _ => none }
def BlockSwapsWrongFalsely : Prop := blockSwapsRow.holds Try.pinned (OpenSpec.ofChange blockSwapsWrong)

/-- 'holdfastlaw01.BlockLoads': WHATEVER THE INPUT: true; the input reads as it did. -/
def blockLoadsSpec : ChangeSpec := { name := "blockLoads", fn := fun _ => fun
  | [d1, d2] => { results := [.lit (.bool true)], args := [d1, d2] }
  | _ => none }
def blockLoadsRow : OpenClaim := { program := "yteplajobjlehlaa", sum := "463f8138d275e97c96477c2fdf677f1974b0ef76624cb13c98603d36fa23a54b", func := "holdfast/holdfastlaw01.BlockLoads", spec := "blockLoads", inPlace := ["sync/atomic.AddInt64", "sync/atomic.LoadInt64"], unfollowed := true, recurses := true, apart := false }
def BlockLoadsSaid : Prop := blockLoadsRow.holds Try.pinned (OpenSpec.ofChange blockLoadsSpec)

/-- ITS FALSE NEIGHBOUR: 'it returns false'. Refute it at one input. -/
def blockLoadsWrong : ChangeSpec := { name := "blockLoads", fn := fun _ => fun
  | [d1, d2] => { results := [.lit (.bool false)], args := [d1, d2] }
  | _ => none }
def BlockLoadsWrongFalsely : Prop := blockLoadsRow.holds Try.pinned (OpenSpec.ofChange blockLoadsWrong)

/-- 'holdfastlaw01.BlockCuts': WHATEVER THE INPUT: true; the input reads as it did. -/
def blockCutsSpec : ChangeSpec := { name := "blockCuts", fn := fun _ => fun
  | [d1, d2] => { results := [.lit (.bool true)], args := [d1, d2] }
  | _ => none }
def blockCutsRow : OpenClaim := { program := "yteplajobjlehlaa", sum := "463f8138d275e97c96477c2fdf677f1974b0ef76624cb13c98603d36fa23a54b", func := "holdfast/holdfastlaw01.BlockCuts", spec := "blockCuts", inPlace := ["sync/atomic.AddInt64", "sync/atomic.LoadInt64"], unfollowed := true, recurses := true, apart := false }
def BlockCutsSaid : Prop := blockCutsRow.holds Try.pinned (OpenSpec.ofChange blockCutsSpec)

/-- ITS FALSE NEIGHBOUR: 'it returns false'. Refute it at one input. -/
def blockCutsWrong : ChangeSpec := { name := "blockCuts", fn := fun _ => fun
  | [d1, d2] => { results := [.lit (.bool false)], args := [d1, d2] }
  | _ => none }
def BlockCutsWrongFalsely : Prop := blockCutsRow.holds Try.pinned (OpenSpec.ofChange blockCutsWrong)

/-- 'holdfastlaw01.BlockForks': WHATEVER THE INPUT: true; the input reads as it did. -/
def blockForksSpec : ChangeSpec := { name := "blockForks", fn := fun _ => fun
  | [d1, d2] => { results := [.lit (.bool true)], args := [d1, d2] }
  | _ => none }
def blockForksRow : OpenClaim := { program := "yteplajobjlehlaa", sum := "463f8138d275e97c96477c2fdf677f1974b0ef76624cb13c98603d36fa23a54b", func := "holdfast/holdfastlaw01.BlockForks", spec := "blockForks", inPlace := ["sync/atomic.AddInt64", "sync/atomic.LoadInt64", "sync/atomic.StoreInt64"], unfollowed := true, recurses := true, apart := false }
def BlockForksSaid : Prop := blockForksRow.holds Try.pinned (OpenSpec.ofChange blockForksSpec)

/-- ITS FALSE NEIGHBOUR: 'it returns false'. Refute it at one input. -/
def blockForksWrong : ChangeSpec := { name := "blockForks", fn := fun _ => fun
  | [d1, d2] => { results := [.lit (.bool false)], args := [d1, d2] }
  | _ => none }
def BlockForksWrongFalsely : Prop := blockForksRow.holds Try.pinned (OpenSpec.ofChange blockForksWrong)

/-- 'holdfastlaw01.BlockNone': WHATEVER THE INPUT: true; the input reads as it did. -/
def blockNoneSpec : ChangeSpec := { name := "blockNone", fn := fun _ => fun
  | [d] => { results := [.lit (.bool true)], args := [d] }
  | _ => none }
def blockNoneRow : OpenClaim := { program := "yteplajobjlehlaa", sum := "463f8138d275e97c96477c2fdf677f1974b0ef76624cb13c98603d36fa23a54b", func := "holdfast/holdfastlaw01.BlockNone", spec := "blockNone", inPlace := ["sync/atomic.AddInt64", "sync/atomic.LoadInt64", "sync/atomic.StoreInt64"], unfollowed := true, recurses := true, apart := false }
def BlockNoneSaid : Prop := blockNoneRow.holds Try.pinned (OpenSpec.ofChange blockNoneSpec)

/-- ITS FALSE NEIGHBOUR: 'it returns false'. Refute it at one input. -/
def blockNoneWrong : ChangeSpec := { name := "blockNone", fn := fun _ => fun
  | [d] => { results := [.lit (.bool false)], args := [d] }
  | _ => none }
def BlockNoneWrongFalsely : Prop := blockNoneRow.holds Try.pinned (OpenSpec.ofChange blockNoneWrong)

/-- 'holdfasttop.TopBlocks': WHATEVER THE INPUT: true; the input reads as it did. -/
def topBlocksSpec : ChangeSpec := { name := "topBlocks", fn := fun _ => fun
  | [d1, d2, d3] => { results := [.lit (.bool true)], args := [d1, d2, d3] }
  | _ => none }
def topBlocksRow : OpenClaim := { program := "yteplajobjlehlaa", sum := "463f8138d275e97c96477c2fdf677f1974b0ef76624cb13c98603d36fa23a54b", func := "holdfast/holdfasttop.TopBlocks", spec := "topBlocks", inPlace := ["sync/atomic.AddInt64", "sync/atomic.LoadInt64"], unfollowed := true, recurses := true, apart := false }
def TopBlocksSaid : Prop := topBlocksRow.holds Try.pinned (OpenSpec.ofChange topBlocksSpec)

/-- ITS FALSE NEIGHBOUR: 'it returns false'. Refute it at one input. -/
def topBlocksWrong : ChangeSpec := { name := "topBlocks", fn := fun _ => fun
  | [d1, d2, d3] => { results := [.lit (.bool false)], args := [d1, d2, d3] }
  | _ => none }
def TopBlocksWrongFalsely : Prop := topBlocksRow.holds Try.pinned (OpenSpec.ofChange topBlocksWrong)

/- THE SECOND FORM. 'bulk': how many values and letters a reading holds, each counted each time it is reached (what is shared counts as often as it is met; a slice's spare places count too). A statement '..UptoSaid' is the law's where the arguments, and the package variables that the reading takes, are together of bulk at most 1048576: NARROWER than '..Said'. Prove '..Said' where nothing that the law and all that it calls make is longer than what came in: it says more and counts as full. Else prove '..UptoSaid'. A law counts once. -/
mutual
def uptoBulk {H : Type} : DataW H → Nat
  | .lit (.string bytes) => bytes.length + 1
  | .lit _ => 1
  | .nil => 1
  | .ptr d => uptoBulk d + 1
  | .slice elems spare => uptoBulkAll elems + uptoBulkAll spare + 1
  | .agg parts => uptoBulkAll parts + 1
  | .iface _ d => uptoBulk d + 1
  | .map entries => uptoBulkEntries entries + 1
  | .held _ => 1
def uptoBulkAll {H : Type} : List (DataW H) → Nat
  | [] => 0
  | d :: r => uptoBulk d + uptoBulkAll r
def uptoBulkEntries {H : Type} : List (Lit × DataW H) → Nat
  | [] => 0
  | x :: r => uptoBulkEntry x + uptoBulkEntries r
def uptoBulkEntry {H : Type} : Lit × DataW H → Nat
  | (.string bytes, d) => bytes.length + uptoBulk d + 1
  | (_, d) => uptoBulk d + 1
 end
def uptoSmall : (H : Type) → List (DataW H) → Bool := fun _ ds => decide (uptoBulkAll ds ≤ 1048576)
def OpenSpec.upto (s : _root_.Go.ChangeSpec) : _root_.Go.OpenSpec := { _root_.Go.OpenSpec.ofChange s with cond := some uptoSmall }

/-- 'holdfastlaw01.BlockLast', WHERE WHAT IT READS IS OF BULK AT MOST 1048576: true; the input reads as it did. -/
def blockLastUptoRow : OpenClaim := { program := "yteplajobjlehlaa", sum := "463f8138d275e97c96477c2fdf677f1974b0ef76624cb13c98603d36fa23a54b", func := "holdfast/holdfastlaw01.BlockLast", spec := "blockLast", inPlace := ["sync/atomic.AddInt64", "sync/atomic.LoadInt64"], unfollowed := true, recurses := true, apart := false, narrowed := true }
def BlockLastUptoSaid : Prop := blockLastUptoRow.holds Try.pinned (OpenSpec.upto blockLastSpec)

/-- 'holdfastlaw01.BlockPlays', WHERE WHAT IT READS IS OF BULK AT MOST 1048576: true; the input reads as it did. -/
def blockPlaysUptoRow : OpenClaim := { program := "yteplajobjlehlaa", sum := "463f8138d275e97c96477c2fdf677f1974b0ef76624cb13c98603d36fa23a54b", func := "holdfast/holdfastlaw01.BlockPlays", spec := "blockPlays", inPlace := ["sync/atomic.AddInt64", "sync/atomic.LoadInt64"], unfollowed := true, recurses := true, apart := false, narrowed := true }
def BlockPlaysUptoSaid : Prop := blockPlaysUptoRow.holds Try.pinned (OpenSpec.upto blockPlaysSpec)

/-- 'holdfastlaw01.BlockReplays', WHERE WHAT IT READS IS OF BULK AT MOST 1048576: true; the input reads as it did. -/
def blockReplaysUptoRow : OpenClaim := { program := "yteplajobjlehlaa", sum := "463f8138d275e97c96477c2fdf677f1974b0ef76624cb13c98603d36fa23a54b", func := "holdfast/holdfastlaw01.BlockReplays", spec := "blockReplays", inPlace := ["sync/atomic.AddInt64", "sync/atomic.LoadInt64"], unfollowed := true, recurses := true, apart := false, narrowed := true }
def BlockReplaysUptoSaid : Prop := blockReplaysUptoRow.holds Try.pinned (OpenSpec.upto blockReplaysSpec)

/-- 'holdfastlaw01.BlockSwaps', WHERE WHAT IT READS IS OF BULK AT MOST 1048576: true; the input reads as it did. -/
def blockSwapsUptoRow : OpenClaim := { program := "yteplajobjlehlaa", sum := "463f8138d275e97c96477c2fdf677f1974b0ef76624cb13c98603d36fa23a54b", func := "holdfast/holdfastlaw01.BlockSwaps", spec := "blockSwaps", inPlace := ["sync/atomic.AddInt64", "sync/atomic.LoadInt64"], unfollowed := true, recurses := true, apart := false, narrowed := true }
def BlockSwapsUptoSaid : Prop := blockSwapsUptoRow.holds Try.pinned (OpenSpec.upto blockSwapsSpec)

/-- 'holdfastlaw01.BlockLoads', WHERE WHAT IT READS IS OF BULK AT MOST 1048576: true; the input reads as it did. -/
def blockLoadsUptoRow : OpenClaim := { program := "yteplajobjlehlaa", sum := "463f8138d275e97c96477c2fdf677f1974b0ef76624cb13c98603d36fa23a54b", func := "holdfast/holdfastlaw01.BlockLoads", spec := "blockLoads", inPlace := ["sync/atomic.AddInt64", "sync/atomic.LoadInt64"], unfollowed := true, recurses := true, apart := false, narrowed := true }
def BlockLoadsUptoSaid : Prop := blockLoadsUptoRow.holds Try.pinned (OpenSpec.upto blockLoadsSpec)

/-- 'holdfastlaw01.BlockCuts', WHERE WHAT IT READS IS OF BULK AT MOST 1048576: true; the input reads as it did. -/
def blockCutsUptoRow : OpenClaim := { program := "yteplajobjlehlaa", sum := "463f8138d275e97c96477c2fdf677f1974b0ef76624cb13c98603d36fa23a54b", func := "holdfast/holdfastlaw01.BlockCuts", spec := "blockCuts", inPlace := ["sync/atomic.AddInt64", "sync/atomic.LoadInt64"], unfollowed := true, recurses := true, apart := false, narrowed := true }
def BlockCutsUptoSaid : Prop := blockCutsUptoRow.holds Try.pinned (OpenSpec.upto blockCutsSpec)

/-- 'holdfastlaw01.BlockForks', WHERE WHAT IT READS IS OF BULK AT MOST 1048576: true; the input reads as it did. -/
def blockForksUptoRow : OpenClaim := { program := "yteplajobjlehlaa", sum := "463f8138d275e97c96477c2fdf677f1974b0ef76624cb13c98603d36fa23a54b", func := "holdfast/holdfastlaw01.BlockForks", spec := "blockForks", inPlace := ["sync/atomic.AddInt64", "sync/atomic.LoadInt64", "sync/atomic.StoreInt64"], unfollowed := true, recurses := true, apart := false, narrowed := true }
def BlockForksUptoSaid : Prop := blockForksUptoRow.holds Try.pinned (OpenSpec.upto blockForksSpec)

/-- 'holdfastlaw01.BlockNone', WHERE WHAT IT READS IS OF BULK AT MOST 1048576: true; the input reads as it did. -/
def blockNoneUptoRow : OpenClaim := { program := "yteplajobjlehlaa", sum := "463f8138d275e97c96477c2fdf677f1974b0ef76624cb13c98603d36fa23a54b", func := "holdfast/holdfastlaw01.BlockNone", spec := "blockNone", inPlace := ["sync/atomic.AddInt64", "sync/atomic.LoadInt64", "sync/atomic.StoreInt64"], unfollowed := true, recurses := true, apart := false, narrowed := true }
def BlockNoneUptoSaid : Prop := blockNoneUptoRow.holds Try.pinned (OpenSpec.upto blockNoneSpec)

/-- 'holdfasttop.TopBlocks', WHERE WHAT IT READS IS OF BULK AT MOST 1048576: true; the input reads as it did. -/
def topBlocksUptoRow : OpenClaim := { program := "yteplajobjlehlaa", sum := "463f8138d275e97c96477c2fdf677f1974b0ef76624cb13c98603d36fa23a54b", func := "holdfast/holdfasttop.TopBlocks", spec := "topBlocks", inPlace := ["sync/atomic.AddInt64", "sync/atomic.LoadInt64"], unfollowed := true, recurses := true, apart := false, narrowed := true }
def TopBlocksUptoSaid : Prop := topBlocksUptoRow.holds Try.pinned (OpenSpec.upto topBlocksSpec)

end Rows
end Go.Proofs.Yteplajobjlehlaa
