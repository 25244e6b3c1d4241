/-
  A world in which the listed variables lie as they were laid, sentinels (errors made by errors.New) among them.
-/
import Derived.Test.YtmnaalpjhkkglaaGreatDoorCard
set_option linter.all false
namespace Hold
open Go Go.ChangeShapes Go.WideShapes Go.RowKit
def layOneS (P : Program) (w : World) (x : String × DataW Unit) : World :=
  match x.2 with
  | .iface name (.ptr d) =>
    match P.globalNamed x.1, (List.range P.types.size).find? (fun u => P.typeName? 3 u == some name) with
    | some g, some u =>
      match P.underlying u with
      | some (.pointer e) =>
        let w' := w.alloc (.cells (litCells 6 d).toArray e (0, 0))
        { w' with heap := w'.heap.modify g fun
          | .cells _ t fr => .cells #[.iface u (.pointer (some ⟨w.heap.size, 0, none⟩))] t fr
          | o => o }
      | _ => w
    | _, _ => w
  | _ => layOne P w x
def layAllS (P : Program) (laid : List (String × DataW Unit)) (w : World) : World := laid.foldl (layOneS P) w
end Hold
