/-
  No cell of these rows narrows 'for every input' (looked for: loops, veiled, ifaces, maps, wideKeys, modest, calm, conditions, laid).
  DERIVED. THE GIVEN ROWS OF THIS SEAT. 4 by the template 'for every input the law returns true; each argument reads behind the call as it read before'; 0 by the template 'total and deterministic' (their statements: YtgkeplodfkmnlaaGreatTotals.lean).
  GIVEN WITH THE SEED: the statements are not yours to turn. If you find one false, say at which input.
  Laid BY PROGRAM, IN A SANDBOX (cutbox-rows.mjs): the forced cells as the released guide's own fill.sh prints them over the translation fd29b137946fc1c6… (all of the seat's roots in one cut). By AI agents, Wed Nov 11 2026. No macro, syntax, notation, axiom, sorry.
-/
import Derived.Test.YtgkeplodfkmnlaaGreatChecked
import GoSem.Claim
import GoSem.ClaimJoined
import GoSem.ClaimMapViews
import Derived.JoinedTies
import Derived.KernelRfl
namespace Go.Proofs.YtgkeplodfkmnlaaGreat
/- THE CELL 'sum', in the pinned program and in every row, IS THE sha256 OF THE DUMP (.gsa) THAT YtgkeplodfkmnlaaGreatProg.lean LOADS. Nothing in Lean hashes anything: it is a label: what it is worth is what the hold of that sum in a sandbox is worth. -/
noncomputable def Tryz.pinned : Pinned := { name := "ytgkeplodfkmnlaagreat", sum := "fd29b137946fc1c62459c58996bd91f6d501ec0befada6e6333b89441e9686a3", checked := Tryz.checked }
namespace Rows
def none {H : Type} : Left H := { results := [], args := [] }

/-- 'holdfastlaw03.WalEmptied': WHATEVER THE INPUT: true; the input reads as it did. -/
def walEmptiedSpec : ChangeSpec := { name := "walEmptied", fn := fun _ => fun
  | [d1, d2] => { results := [.lit (.bool true)], args := [d1, d2] }
  | _ => none }
def walEmptiedRow : OpenClaim := { program := "ytgkeplodfkmnlaagreat", sum := "fd29b137946fc1c62459c58996bd91f6d501ec0befada6e6333b89441e9686a3", func := "holdfast/holdfastlaw03.WalEmptied", spec := "walEmptied", inPlace := ["sync/atomic.AddInt64", "sync/atomic.LoadInt64", "sync/atomic.StoreInt64"], unfollowed := true, recurses := true, apart := false }
def WalEmptiedSaid : Prop := walEmptiedRow.holds Tryz.pinned (OpenSpec.ofChange walEmptiedSpec)

/-- ITS FALSE NEIGHBOUR: 'it returns false'. Refute it at one input. -/
def walEmptiedWrong : ChangeSpec := { name := "walEmptied", fn := fun _ => fun
  | [d1, d2] => { results := [.lit (.bool false)], args := [d1, d2] }
  | _ => none }
def WalEmptiedWrongFalsely : Prop := walEmptiedRow.holds Tryz.pinned (OpenSpec.ofChange walEmptiedWrong)

/-- 'holdfastlaw03.WalOpens': WHATEVER THE INPUT: true; the input reads as it did. -/
def walOpensSpec : ChangeSpec := { name := "walOpens", fn := fun _ => fun
  | [d1, d2] => { results := [.lit (.bool true)], args := [d1, d2] }
  | _ => none }
def walOpensRow : OpenClaim := { program := "ytgkeplodfkmnlaagreat", sum := "fd29b137946fc1c62459c58996bd91f6d501ec0befada6e6333b89441e9686a3", func := "holdfast/holdfastlaw03.WalOpens", spec := "walOpens", inPlace := ["sync/atomic.AddInt64", "sync/atomic.LoadInt64", "sync/atomic.StoreInt64"], unfollowed := true, recurses := true, apart := false }
def WalOpensSaid : Prop := walOpensRow.holds Tryz.pinned (OpenSpec.ofChange walOpensSpec)

/-- ITS FALSE NEIGHBOUR: 'it returns false'. Refute it at one input. -/
def walOpensWrong : ChangeSpec := { name := "walOpens", fn := fun _ => fun
  | [d1, d2] => { results := [.lit (.bool false)], args := [d1, d2] }
  | _ => none }
def WalOpensWrongFalsely : Prop := walOpensRow.holds Tryz.pinned (OpenSpec.ofChange walOpensWrong)

/-- 'holdfastlaw03.WalCuts': WHATEVER THE INPUT: true; the input reads as it did. -/
def walCutsSpec : ChangeSpec := { name := "walCuts", fn := fun _ => fun
  | [d1, d2, d3] => { results := [.lit (.bool true)], args := [d1, d2, d3] }
  | _ => none }
def walCutsRow : OpenClaim := { program := "ytgkeplodfkmnlaagreat", sum := "fd29b137946fc1c62459c58996bd91f6d501ec0befada6e6333b89441e9686a3", func := "holdfast/holdfastlaw03.WalCuts", spec := "walCuts", inPlace := ["sync/atomic.AddInt64", "sync/atomic.LoadInt64", "sync/atomic.StoreInt64"], unfollowed := true, recurses := true, apart := false }
def WalCutsSaid : Prop := walCutsRow.holds Tryz.pinned (OpenSpec.ofChange walCutsSpec)

/-- ITS FALSE NEIGHBOUR: 'it returns false'. Refute it at one input. -/
def walCutsWrong : ChangeSpec := { name := "walCuts", fn := fun _ => fun
  | [d1, d2, d3] => { results := [.lit (.bool false)], args := [d1, d2, d3] }
  | _ => none }
def WalCutsWrongFalsely : Prop := walCutsRow.holds Tryz.pinned (OpenSpec.ofChange walCutsWrong)

/-- 'holdfastlaw03.WalRefused': WHATEVER THE INPUT: true; the input reads as it did. -/
def walRefusedSpec : ChangeSpec := { name := "walRefused", fn := fun _ => fun
  | [d1, d2, d3] => { results := [.lit (.bool true)], args := [d1, d2, d3] }
  | _ => none }
def walRefusedRow : OpenClaim := { program := "ytgkeplodfkmnlaagreat", sum := "fd29b137946fc1c62459c58996bd91f6d501ec0befada6e6333b89441e9686a3", func := "holdfast/holdfastlaw03.WalRefused", spec := "walRefused", inPlace := ["sync/atomic.AddInt64", "sync/atomic.LoadInt64", "sync/atomic.StoreInt64"], unfollowed := true, recurses := true, apart := false }
def WalRefusedSaid : Prop := walRefusedRow.holds Tryz.pinned (OpenSpec.ofChange walRefusedSpec)

/-- ITS FALSE NEIGHBOUR: 'it returns false'. Refute it at one input. -/
def walRefusedWrong : ChangeSpec := { name := "walRefused", fn := fun _ => fun
  | [d1, d2, d3] => { results := [.lit (.bool false)], args := [d1, d2, d3] }
  | _ => none }
def WalRefusedWrongFalsely : Prop := walRefusedRow.holds Tryz.pinned (OpenSpec.ofChange walRefusedWrong)

/- THE SECOND FORM. 'bulk': how many values and letters a reading holds, each counted each time it is reached (what is shared counts as often as it is met; a slice's spare places count too). A statement '..UptoSaid' is the law's where the arguments, and the package variables that the reading takes, are together of bulk at most 1048576: NARROWER than '..Said'. Prove '..Said' where nothing that the law and all that it calls make is longer than what came in: it says more and counts as full. Else prove '..UptoSaid'. A law counts once. -/
mutual
def uptoBulk {H : Type} : DataW H → Nat
  | .lit (.string bytes) => bytes.length + 1
  | .lit _ => 1
  | .nil => 1
  | .ptr d => uptoBulk d + 1
  | .slice elems spare => uptoBulkAll elems + uptoBulkAll spare + 1
  | .agg parts => uptoBulkAll parts + 1
  | .iface _ d => uptoBulk d + 1
  | .map entries => uptoBulkEntries entries + 1
  | .held _ => 1
def uptoBulkAll {H : Type} : List (DataW H) → Nat
  | [] => 0
  | d :: r => uptoBulk d + uptoBulkAll r
def uptoBulkEntries {H : Type} : List (Lit × DataW H) → Nat
  | [] => 0
  | x :: r => uptoBulkEntry x + uptoBulkEntries r
def uptoBulkEntry {H : Type} : Lit × DataW H → Nat
  | (.string bytes, d) => bytes.length + uptoBulk d + 1
  | (_, d) => uptoBulk d + 1
 end
def uptoSmall : (H : Type) → List (DataW H) → Bool := fun _ ds => decide (uptoBulkAll ds ≤ 1048576)
def OpenSpec.upto (s : _root_.Go.ChangeSpec) : _root_.Go.OpenSpec := { _root_.Go.OpenSpec.ofChange s with cond := some uptoSmall }

/-- 'holdfastlaw03.WalEmptied', WHERE WHAT IT READS IS OF BULK AT MOST 1048576: true; the input reads as it did. -/
def walEmptiedUptoRow : OpenClaim := { program := "ytgkeplodfkmnlaagreat", sum := "fd29b137946fc1c62459c58996bd91f6d501ec0befada6e6333b89441e9686a3", func := "holdfast/holdfastlaw03.WalEmptied", spec := "walEmptied", inPlace := ["sync/atomic.AddInt64", "sync/atomic.LoadInt64", "sync/atomic.StoreInt64"], unfollowed := true, recurses := true, apart := false, narrowed := true }
def WalEmptiedUptoSaid : Prop := walEmptiedUptoRow.holds Tryz.pinned (OpenSpec.upto walEmptiedSpec)

/-- 'holdfastlaw03.WalOpens', WHERE WHAT IT READS IS OF BULK AT MOST 1048576: true; the input reads as it did. -/
def walOpensUptoRow : OpenClaim := { program := "ytgkeplodfkmnlaagreat", sum := "fd29b137946fc1c62459c58996bd91f6d501ec0befada6e6333b89441e9686a3", func := "holdfast/holdfastlaw03.WalOpens", spec := "walOpens", inPlace := ["sync/atomic.AddInt64", "sync/atomic.LoadInt64", "sync/atomic.StoreInt64"], unfollowed := true, recurses := true, apart := false, narrowed := true }
def WalOpensUptoSaid : Prop := walOpensUptoRow.holds Tryz.pinned (OpenSpec.upto walOpensSpec)

/-- 'holdfastlaw03.WalCuts', WHERE WHAT IT READS IS OF BULK AT MOST 1048576: true; the input reads as it did. -/
def walCutsUptoRow : OpenClaim := { program := "ytgkeplodfkmnlaagreat", sum := "fd29b137946fc1c62459c58996bd91f6d501ec0befada6e6333b89441e9686a3", func := "holdfast/holdfastlaw03.WalCuts", spec := "walCuts", inPlace := ["sync/atomic.AddInt64", "sync/atomic.LoadInt64", "sync/atomic.StoreInt64"], unfollowed := true, recurses := true, apart := false, narrowed := true }
def WalCutsUptoSaid : Prop := walCutsUptoRow.holds Tryz.pinned (OpenSpec.upto walCutsSpec)

/-- 'holdfastlaw03.WalRefused', WHERE WHAT IT READS IS OF BULK AT MOST 1048576: true; the input reads as it did. -/
def walRefusedUptoRow : OpenClaim := { program := "ytgkeplodfkmnlaagreat", sum := "fd29b137946fc1c62459c58996bd91f6d501ec0befada6e6333b89441e9686a3", func := "holdfast/holdfastlaw03.WalRefused", spec := "walRefused", inPlace := ["sync/atomic.AddInt64", "sync/atomic.LoadInt64", "sync/atomic.StoreInt64"], unfollowed := true, recurses := true, apart := false, narrowed := true }
def WalRefusedUptoSaid : Prop := walRefusedUptoRow.holds Tryz.pinned (OpenSpec.upto walRefusedSpec)

end Rows
end Go.Proofs.YtgkeplodfkmnlaaGreat
