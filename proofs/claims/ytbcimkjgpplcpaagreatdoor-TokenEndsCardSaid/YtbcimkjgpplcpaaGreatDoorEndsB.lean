/-
  The library's sort of rows by their keys answers.
-/
import Derived.Test.YtbcimkjgpplcpaaGreatDoorEndsA
import Derived.Test.YtbcimkjgpplcpaaGreatDoorPF
import Derived.Shelf.SlSortCmp.WholeK
set_option linter.all false
set_option maxRecDepth 100000
namespace Go.Proofs.YtbcimkjgpplcpaaGreatDoor.T
open Go Hold Go.Sort Go.Shelf Go.Proofs
theorem agg84 (w : World) : (isAgg 84).run prog w = .ok true w := aggC_84.agg w
theorem size84 (w : World) : (Go.sizeOf 84).run prog w = .ok 2 w := run_sizeOf' (aggC_84).size
theorem sortOk : SortOk := fun blk off cap d w hH hb hs => by
  have eg : ∀ args w, (callFunc 45 args).run prog w = .ok (.enter 45 args) w := enters_of Tryz.func45 (by kernel_rfl) rfl
  have hcmp : CmpLays prog 45 #[] rwc 2 cmpT blk off d.size w := fun _ _ _ _ x y => cmp_exact x y _
  have hcon := AnyQ.slices_SortFunc (P := prog) (ρ := sortRows_ren) sortRows 2 agg84 size84 rwc (fun _ => rfl) rwc_one cmpT swoT 45 #[] blk off cap d w eg hcmp hH hb hs
  refine hcon.mono ?_
  rintro e w' ⟨rfl, d', n, os, hp, _, rfl⟩
  exact ⟨rfl, d', n, os, hp.1, rfl⟩
end Go.Proofs.YtbcimkjgpplcpaaGreatDoor.T
