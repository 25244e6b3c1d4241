/-
  No cell of these rows narrows 'for every input' (looked for: loops, veiled, ifaces, maps, wideKeys, modest, calm, conditions, laid).
  DERIVED. THE GIVEN ROWS OF THIS SEAT. 6 by the template 'for every input the law returns true; each argument reads behind the call as it read before'; 0 by the template 'total and deterministic' (their statements: YtcjklbhobmkalaaGreatTotals.lean).
  GIVEN WITH THE SEED: the statements are not yours to turn. If you find one false, say at which input.
  Laid BY PROGRAM, IN A SANDBOX (cutbox-rows.mjs): the forced cells as the released guide's own fill.sh prints them over the translation b5b38d37fe4a3604… (all of the seat's roots in one cut). By AI agents, Wed Nov 11 2026. No macro, syntax, notation, axiom, sorry.
-/
import Derived.Test.YtcjklbhobmkalaaGreatChecked
import GoSem.Claim
import GoSem.ClaimJoined
import GoSem.ClaimMapViews
import Derived.JoinedTies
import Derived.KernelRfl
namespace Go.Proofs.YtcjklbhobmkalaaGreat
/- THE CELL 'sum', in the pinned program and in every row, IS THE sha256 OF THE DUMP (.gsa) THAT YtcjklbhobmkalaaGreatProg.lean LOADS. Nothing in Lean hashes anything: it is a label: what it is worth is what the hold of that sum in a sandbox is worth. -/
noncomputable def Tryz.pinned : Pinned := { name := "ytcjklbhobmkalaagreat", sum := "b5b38d37fe4a360411cef6a257b3d7d1ec275e2d92c67bcff0b992851b99781a", checked := Tryz.checked }
namespace Rows
def none {H : Type} : Left H := { results := [], args := [] }

/-- 'holdfastlaw04.PagerOwn': WHATEVER THE INPUT: true; the input reads as it did. -/
def pagerOwnSpec : ChangeSpec := { name := "pagerOwn", fn := fun _ => fun
  | [d] => { results := [.lit (.bool true)], args := [d] }
  | _ => none }
def pagerOwnRow : OpenClaim := { program := "ytcjklbhobmkalaagreat", sum := "b5b38d37fe4a360411cef6a257b3d7d1ec275e2d92c67bcff0b992851b99781a", func := "holdfast/holdfastlaw04.PagerOwn", spec := "pagerOwn", inPlace := ["sync/atomic.AddInt64", "sync/atomic.LoadInt64"], unfollowed := true, recurses := true, apart := false }
def PagerOwnSaid : Prop := pagerOwnRow.holds Tryz.pinned (OpenSpec.ofChange pagerOwnSpec)

/-- ITS FALSE NEIGHBOUR: 'it returns false'. Refute it at one input. -/
def pagerOwnWrong : ChangeSpec := { name := "pagerOwn", fn := fun _ => fun
  | [d] => { results := [.lit (.bool false)], args := [d] }
  | _ => none }
def PagerOwnWrongFalsely : Prop := pagerOwnRow.holds Tryz.pinned (OpenSpec.ofChange pagerOwnWrong)

/-- 'holdfastlaw04.PagerAborts': WHATEVER THE INPUT: true; the input reads as it did. -/
def pagerAbortsSpec : ChangeSpec := { name := "pagerAborts", fn := fun _ => fun
  | [d] => { results := [.lit (.bool true)], args := [d] }
  | _ => none }
def pagerAbortsRow : OpenClaim := { program := "ytcjklbhobmkalaagreat", sum := "b5b38d37fe4a360411cef6a257b3d7d1ec275e2d92c67bcff0b992851b99781a", func := "holdfast/holdfastlaw04.PagerAborts", spec := "pagerAborts", inPlace := ["sync/atomic.AddInt64", "sync/atomic.LoadInt64"], unfollowed := true, recurses := true, apart := false }
def PagerAbortsSaid : Prop := pagerAbortsRow.holds Tryz.pinned (OpenSpec.ofChange pagerAbortsSpec)

/-- ITS FALSE NEIGHBOUR: 'it returns false'. Refute it at one input. -/
def pagerAbortsWrong : ChangeSpec := { name := "pagerAborts", fn := fun _ => fun
  | [d] => { results := [.lit (.bool false)], args := [d] }
  | _ => none }
def PagerAbortsWrongFalsely : Prop := pagerAbortsRow.holds Tryz.pinned (OpenSpec.ofChange pagerAbortsWrong)

/-- 'holdfastlaw04.PagerSame': WHATEVER THE INPUT: true; the input reads as it did. -/
def pagerSameSpec : ChangeSpec := { name := "pagerSame", fn := fun _ => fun
  | [d1, d2, d3] => { results := [.lit (.bool true)], args := [d1, d2, d3] }
  | _ => none }
def pagerSameRow : OpenClaim := { program := "ytcjklbhobmkalaagreat", sum := "b5b38d37fe4a360411cef6a257b3d7d1ec275e2d92c67bcff0b992851b99781a", func := "holdfast/holdfastlaw04.PagerSame", spec := "pagerSame", inPlace := ["sync/atomic.AddInt64", "sync/atomic.LoadInt64", "sync/atomic.StoreInt64"], unfollowed := true, recurses := true, apart := false }
def PagerSameSaid : Prop := pagerSameRow.holds Tryz.pinned (OpenSpec.ofChange pagerSameSpec)

/-- ITS FALSE NEIGHBOUR: 'it returns false'. Refute it at one input. -/
def pagerSameWrong : ChangeSpec := { name := "pagerSame", fn := fun _ => fun
  | [d1, d2, d3] => { results := [.lit (.bool false)], args := [d1, d2, d3] }
  | _ => none }
def PagerSameWrongFalsely : Prop := pagerSameRow.holds Tryz.pinned (OpenSpec.ofChange pagerSameWrong)

/-- 'holdfastlaw04.PagerPins': WHATEVER THE INPUT: true; the input reads as it did. -/
def pagerPinsSpec : ChangeSpec := { name := "pagerPins", fn := fun _ => fun
  | [d1, d2] => { results := [.lit (.bool true)], args := [d1, d2] }
  | _ => none }
def pagerPinsRow : OpenClaim := { program := "ytcjklbhobmkalaagreat", sum := "b5b38d37fe4a360411cef6a257b3d7d1ec275e2d92c67bcff0b992851b99781a", func := "holdfast/holdfastlaw04.PagerPins", spec := "pagerPins", inPlace := ["sync/atomic.AddInt64", "sync/atomic.LoadInt64", "maps.clone"], unfollowed := true, recurses := true, apart := false }
def PagerPinsSaid : Prop := pagerPinsRow.holds Tryz.pinned (OpenSpec.ofChange pagerPinsSpec)

/-- ITS FALSE NEIGHBOUR: 'it returns false'. Refute it at one input. -/
def pagerPinsWrong : ChangeSpec := { name := "pagerPins", fn := fun _ => fun
  | [d1, d2] => { results := [.lit (.bool false)], args := [d1, d2] }
  | _ => none }
def PagerPinsWrongFalsely : Prop := pagerPinsRow.holds Tryz.pinned (OpenSpec.ofChange pagerPinsWrong)

/-- 'holdfastlaw04.PagerCuts': WHATEVER THE INPUT: true; the input reads as it did. -/
def pagerCutsSpec : ChangeSpec := { name := "pagerCuts", fn := fun _ => fun
  | [d1, d2, d3] => { results := [.lit (.bool true)], args := [d1, d2, d3] }
  | _ => none }
def pagerCutsRow : OpenClaim := { program := "ytcjklbhobmkalaagreat", sum := "b5b38d37fe4a360411cef6a257b3d7d1ec275e2d92c67bcff0b992851b99781a", func := "holdfast/holdfastlaw04.PagerCuts", spec := "pagerCuts", inPlace := ["sync/atomic.AddInt64", "sync/atomic.LoadInt64", "sync/atomic.StoreInt64"], unfollowed := true, recurses := true, apart := false }
def PagerCutsSaid : Prop := pagerCutsRow.holds Tryz.pinned (OpenSpec.ofChange pagerCutsSpec)

/-- ITS FALSE NEIGHBOUR: 'it returns false'. Refute it at one input. -/
def pagerCutsWrong : ChangeSpec := { name := "pagerCuts", fn := fun _ => fun
  | [d1, d2, d3] => { results := [.lit (.bool false)], args := [d1, d2, d3] }
  | _ => none }
def PagerCutsWrongFalsely : Prop := pagerCutsRow.holds Tryz.pinned (OpenSpec.ofChange pagerCutsWrong)

/-- 'holdfastlaw04.PagerNone': WHATEVER THE INPUT: true; the input reads as it did. -/
def pagerNoneSpec : ChangeSpec := { name := "pagerNone", fn := fun _ => fun
  | [d] => { results := [.lit (.bool true)], args := [d] }
  | _ => none }
def pagerNoneRow : OpenClaim := { program := "ytcjklbhobmkalaagreat", sum := "b5b38d37fe4a360411cef6a257b3d7d1ec275e2d92c67bcff0b992851b99781a", func := "holdfast/holdfastlaw04.PagerNone", spec := "pagerNone", inPlace := ["sync/atomic.AddInt64", "sync/atomic.LoadInt64", "maps.clone"], unfollowed := true, recurses := true, apart := false }
def PagerNoneSaid : Prop := pagerNoneRow.holds Tryz.pinned (OpenSpec.ofChange pagerNoneSpec)

/-- ITS FALSE NEIGHBOUR: 'it returns false'. Refute it at one input. -/
def pagerNoneWrong : ChangeSpec := { name := "pagerNone", fn := fun _ => fun
  | [d] => { results := [.lit (.bool false)], args := [d] }
  | _ => none }
def PagerNoneWrongFalsely : Prop := pagerNoneRow.holds Tryz.pinned (OpenSpec.ofChange pagerNoneWrong)

/- THE SECOND FORM. 'bulk': how many values and letters a reading holds, each counted each time it is reached (what is shared counts as often as it is met; a slice's spare places count too). A statement '..UptoSaid' is the law's where the arguments, and the package variables that the reading takes, are together of bulk at most 1048576: NARROWER than '..Said'. Prove '..Said' where nothing that the law and all that it calls make is longer than what came in: it says more and counts as full. Else prove '..UptoSaid'. A law counts once. -/
mutual
def uptoBulk {H : Type} : DataW H → Nat
  | .lit (.string bytes) => bytes.length + 1
  | .lit _ => 1
  | .nil => 1
  | .ptr d => uptoBulk d + 1
  | .slice elems spare => uptoBulkAll elems + uptoBulkAll spare + 1
  | .agg parts => uptoBulkAll parts + 1
  | .iface _ d => uptoBulk d + 1
  | .map entries => uptoBulkEntries entries + 1
  | .held _ => 1
def uptoBulkAll {H : Type} : List (DataW H) → Nat
  | [] => 0
  | d :: r => uptoBulk d + uptoBulkAll r
def uptoBulkEntries {H : Type} : List (Lit × DataW H) → Nat
  | [] => 0
  | x :: r => uptoBulkEntry x + uptoBulkEntries r
def uptoBulkEntry {H : Type} : Lit × DataW H → Nat
  | (.string bytes, d) => bytes.length + uptoBulk d + 1
  | (_, d) => uptoBulk d + 1
 end
def uptoSmall : (H : Type) → List (DataW H) → Bool := fun _ ds => decide (uptoBulkAll ds ≤ 1048576)
def OpenSpec.upto (s : _root_.Go.ChangeSpec) : _root_.Go.OpenSpec := { _root_.Go.OpenSpec.ofChange s with cond := some uptoSmall }

/-- 'holdfastlaw04.PagerOwn', WHERE WHAT IT READS IS OF BULK AT MOST 1048576: true; the input reads as it did. -/
def pagerOwnUptoRow : OpenClaim := { program := "ytcjklbhobmkalaagreat", sum := "b5b38d37fe4a360411cef6a257b3d7d1ec275e2d92c67bcff0b992851b99781a", func := "holdfast/holdfastlaw04.PagerOwn", spec := "pagerOwn", inPlace := ["sync/atomic.AddInt64", "sync/atomic.LoadInt64"], unfollowed := true, recurses := true, apart := false, narrowed := true }
def PagerOwnUptoSaid : Prop := pagerOwnUptoRow.holds Tryz.pinned (OpenSpec.upto pagerOwnSpec)

/-- 'holdfastlaw04.PagerAborts', WHERE WHAT IT READS IS OF BULK AT MOST 1048576: true; the input reads as it did. -/
def pagerAbortsUptoRow : OpenClaim := { program := "ytcjklbhobmkalaagreat", sum := "b5b38d37fe4a360411cef6a257b3d7d1ec275e2d92c67bcff0b992851b99781a", func := "holdfast/holdfastlaw04.PagerAborts", spec := "pagerAborts", inPlace := ["sync/atomic.AddInt64", "sync/atomic.LoadInt64"], unfollowed := true, recurses := true, apart := false, narrowed := true }
def PagerAbortsUptoSaid : Prop := pagerAbortsUptoRow.holds Tryz.pinned (OpenSpec.upto pagerAbortsSpec)

/-- 'holdfastlaw04.PagerSame', WHERE WHAT IT READS IS OF BULK AT MOST 1048576: true; the input reads as it did. -/
def pagerSameUptoRow : OpenClaim := { program := "ytcjklbhobmkalaagreat", sum := "b5b38d37fe4a360411cef6a257b3d7d1ec275e2d92c67bcff0b992851b99781a", func := "holdfast/holdfastlaw04.PagerSame", spec := "pagerSame", inPlace := ["sync/atomic.AddInt64", "sync/atomic.LoadInt64", "sync/atomic.StoreInt64"], unfollowed := true, recurses := true, apart := false, narrowed := true }
def PagerSameUptoSaid : Prop := pagerSameUptoRow.holds Tryz.pinned (OpenSpec.upto pagerSameSpec)

/-- 'holdfastlaw04.PagerPins', WHERE WHAT IT READS IS OF BULK AT MOST 1048576: true; the input reads as it did. -/
def pagerPinsUptoRow : OpenClaim := { program := "ytcjklbhobmkalaagreat", sum := "b5b38d37fe4a360411cef6a257b3d7d1ec275e2d92c67bcff0b992851b99781a", func := "holdfast/holdfastlaw04.PagerPins", spec := "pagerPins", inPlace := ["sync/atomic.AddInt64", "sync/atomic.LoadInt64", "maps.clone"], unfollowed := true, recurses := true, apart := false, narrowed := true }
def PagerPinsUptoSaid : Prop := pagerPinsUptoRow.holds Tryz.pinned (OpenSpec.upto pagerPinsSpec)

/-- 'holdfastlaw04.PagerCuts', WHERE WHAT IT READS IS OF BULK AT MOST 1048576: true; the input reads as it did. -/
def pagerCutsUptoRow : OpenClaim := { program := "ytcjklbhobmkalaagreat", sum := "b5b38d37fe4a360411cef6a257b3d7d1ec275e2d92c67bcff0b992851b99781a", func := "holdfast/holdfastlaw04.PagerCuts", spec := "pagerCuts", inPlace := ["sync/atomic.AddInt64", "sync/atomic.LoadInt64", "sync/atomic.StoreInt64"], unfollowed := true, recurses := true, apart := false, narrowed := true }
def PagerCutsUptoSaid : Prop := pagerCutsUptoRow.holds Tryz.pinned (OpenSpec.upto pagerCutsSpec)

/-- 'holdfastlaw04.PagerNone', WHERE WHAT IT READS IS OF BULK AT MOST 1048576: true; the input reads as it did. -/
def pagerNoneUptoRow : OpenClaim := { program := "ytcjklbhobmkalaagreat", sum := "b5b38d37fe4a360411cef6a257b3d7d1ec275e2d92c67bcff0b992851b99781a", func := "holdfast/holdfastlaw04.PagerNone", spec := "pagerNone", inPlace := ["sync/atomic.AddInt64", "sync/atomic.LoadInt64", "maps.clone"], unfollowed := true, recurses := true, apart := false, narrowed := true }
def PagerNoneUptoSaid : Prop := pagerNoneUptoRow.holds Tryz.pinned (OpenSpec.upto pagerNoneSpec)

end Rows
end Go.Proofs.YtcjklbhobmkalaaGreat
