/-
  TokenEnds: the walk.
-/
import Derived.Test.YtbcimkjgpplcpaaGreatDoorEndsB
set_option linter.all false
set_option maxRecDepth 100000
namespace Go.Proofs.YtbcimkjgpplcpaaGreatDoor.Ends
open Go Hold Go.ChangeShapes Go.WideShapes Go.ChangeAt Go.RowKit
variable {E : World0} {w : World} {H R : HP} {K : Value → World → Prop}
open T
theorem open_ss {W : World} {H : Type} {enc : TypeId × Value → H} {r : Reach} {b0 : Nat} {v : Value} {d : DataW H} {p : List MemPlace} (hv : Value.okWide prog W r b0 23 v) (h : DataW.Trod enc prog W 0 (fun _ => true) true 23 v d p) (_hw : ∀ n ∈ d.weights prog 23, n ≤ 140737488351232) : ∃ l : List Int, Rds (old W) v l.length (l.map iv) ∧ l.length ≤ 9223372036854775807 := by
  obtain ⟨l, h1, h2, _⟩ := open_intsG (t := 23) (e := 3) (by kernel_rfl) (by kernel_rfl) (by kernel_rfl) hv h
  exact ⟨l, h1, h2⟩
theorem Ends_spec (h : sat E w H) (hd : Dbt H) {v : Value} (l : List T.Dd) (hl : Rds H v l.length (l.flatMap T.dcells)) (ml : l.length ≤ 9223372036854775807) (sl : ∀ x ∈ l, T.OkD H x)
    {u : Value} (ss : List Int) (hs : Rds H u ss.length (ss.map iv)) (ms : ss.length ≤ 9223372036854775807)
    (k : ∀ w', sat E w' H → K (.bool true) w') : Calls prog 4 #[v, u] w (Ret K) := T.Ends_spec h hd l hl ml sl ss hs ms T.sortOk k
end Go.Proofs.YtbcimkjgpplcpaaGreatDoor.Ends
