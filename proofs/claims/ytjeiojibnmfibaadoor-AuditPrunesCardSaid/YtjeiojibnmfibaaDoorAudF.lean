/-
  Whether the events are those of the chain; letting events go.
-/
import Derived.Test.YtjeiojibnmfibaaDoorAudE
set_option linter.all false
set_option maxRecDepth 10000
namespace Go.Proofs.YtjeiojibnmfibaaDoor
open Go Hold
variable {E : World0} {w : World} {H R : HP} {K : Value → World → Prop}
def bad (s : Ch) : Prop := s.bn ≤ s.an ∧ links s.bh (s.l.take (s.an - s.bn).toNat) ≠ s.ah
instance (s : Ch) : Decidable (bad s) := by unfold bad; exact inferInstance
def verifyS (s : Ch) : Int := if bad s ∨ links s.bh s.l ≠ s.hd then 15 else 0
theorem flds57 : ∃ f g : Field, (prog.fieldsOf 57).toList = [f, g] ∧ (f.name == "_") = false ∧ (g.name == "_") = false ∧ f.type = 3 ∧ f.offset = 0 ∧ g.type = 36 ∧ g.offset = 1 :=
  ⟨(prog.fieldsOf 57).toList.getD 0 default, (prog.fieldsOf 57).toList.getD 1 default, by kernel_rfl, by kernel_rfl, by kernel_rfl, by kernel_rfl, by kernel_rfl, by kernel_rfl, by kernel_rfl⟩
theorem run_eq57 {n n' : Int} {a b : List UInt8} (ha : a.length = 32) (hb : b.length = 32) (w : World) :
    (Op.eqFields 9999 (.int .i64 n :: a.map bv).toArray (.int .i64 n' :: b.map bv).toArray (prog.fieldsOf 57).toList).run prog w = .ok (decide (n = n') && (a == b)) w := by
  obtain ⟨f, g, e, h1, h2, h3, h4, h5, h6⟩ := flds57
  rw [e]
  have x1 : ∀ l : List UInt8, l.length = 32 → ∀ n : Int, (Value.int .i64 n :: l.map bv).toArray.extract 1 (1 + 32) = (l.map bv).toArray := fun l hl n => by
    apply Array.ext'
    simp [hl]
    exact List.take_of_length_le (by simp [hl])
  refine run_eqField h1 (a := .int .i64 n) (b := .int .i64 n') (by rw [h3, h4]; exact run_part1 rfl) (by rw [h3, h4]; exact run_part1 rfl) (by rw [h3]; exact run_equalIn_int w 9998 3 .i64 .i64 n n' ul_3.ul) ?_
  have h9 := run_eqField (P := prog) (w := w) (d := 9999) (xs := (.int .i64 n :: a.map bv).toArray) (ys := (.int .i64 n' :: b.map bv).toArray) (fs := []) h2 (a := .agg (a.map bv).toArray) (b := .agg (b.map bv).toArray) (p := a == b) (q := true)
    (by rw [h5, h6, run_partN (n := 32), x1 a ha]) (by rw [h5, h6, run_partN (n := 32), x1 b hb]) (by rw [h5]; exact run_equalIn_bytes w 9997 36 5 32 ul_36.ul ul_5.ul (fun w => run_sizeOf' (oneC_5).size) a b ha hb) run_eqNone
  simpa using h9
theorem neq_pc {n n' : Int} {a b : List UInt8} (ha : a.length = 32) (hb : b.length = 32) {xo yo : Operand} :
    pvv prog (oEq .neq 57 xo yo (.agg (.int .i64 n :: a.map bv).toArray) (.agg (.int .i64 n' :: b.map bv).toArray)) w K = K (.bool !(decide (n = n') && (a == b))) w :=
  o_neStruct (by kernel_rfl) (by kernel_rfl) (by kernel_rfl) (run_eq57 ha hb)
theorem flds34 : ∃ f g h i : Field, (prog.fieldsOf 34).toList = [f, g, h, i] ∧ (f.name == "_") = false ∧ (g.name == "_") = false ∧ (h.name == "_") = false ∧ (i.name == "_") = false ∧ f.type = 3 ∧ f.offset = 0 ∧ g.type = 3 ∧ g.offset = 1 ∧ h.type = 9 ∧ h.offset = 2 ∧ i.type = 9 ∧ i.offset = 3 :=
  ⟨(prog.fieldsOf 34).toList.getD 0 default, (prog.fieldsOf 34).toList.getD 1 default, (prog.fieldsOf 34).toList.getD 2 default, (prog.fieldsOf 34).toList.getD 3 default, by kernel_rfl, by kernel_rfl, by kernel_rfl, by kernel_rfl, by kernel_rfl, by kernel_rfl, by kernel_rfl, by kernel_rfl, by kernel_rfl, by kernel_rfl, by kernel_rfl, by kernel_rfl, by kernel_rfl⟩
theorem run_eq34 (x y : Evt) (w : World) : (Op.eqFields 9999 (ecells x).toArray (ecells y).toArray (prog.fieldsOf 34).toList).run prog w = .ok (decide (x = y)) w := by
  obtain ⟨f, g, h, i, e, h1, h2, h3, h4, t1, o1, t2, o2, t3, o3, t4, o4⟩ := flds34
  rw [e]
  have s1 : ∀ a b : List UInt8, (Op.equalIn 9999 9 (tv a) (tv b)).run prog w = .ok (decide (a = b)) w := fun a b => by
    have := run_equalIn_string (P := prog) w 9998 9 ⟨a.toArray⟩ ⟨b.toArray⟩ ul_9.ul
    rw [beq_lists] at this
    exact this
  have h9 := run_eqField (P := prog) (w := w) (d := 9999) (xs := (ecells x).toArray) (ys := (ecells y).toArray) (fs := [g, h, i]) h1 (a := .int .i64 x.n) (b := .int .i64 y.n) (by rw [t1, o1]; exact run_part1 rfl) (by rw [t1, o1]; exact run_part1 rfl) (by rw [t1]; exact run_equalIn_int w 9998 3 .i64 .i64 x.n y.n ul_3.ul)
    (run_eqField h2 (a := .int .i64 x.t) (b := .int .i64 y.t) (by rw [t2, o2]; exact run_part1 rfl) (by rw [t2, o2]; exact run_part1 rfl) (by rw [t2]; exact run_equalIn_int w 9998 3 .i64 .i64 x.t y.t ul_3.ul)
      (run_eqField h3 (a := tv x.what) (b := tv y.what) (by rw [t3, o3]; exact run_part1 rfl) (by rw [t3, o3]; exact run_part1 rfl) (by rw [t3]; exact s1 _ _)
        (run_eqField h4 (a := tv x.who) (b := tv y.who) (by rw [t4, o4]; exact run_part1 rfl) (by rw [t4, o4]; exact run_part1 rfl) (by rw [t4]; exact s1 _ _) run_eqNone)))
  rw [h9]
  congr 1
  rw [Bool.eq_iff_iff]
  obtain ⟨a, b, c, d⟩ := x
  obtain ⟨a', b', c', d'⟩ := y
  simp
theorem eq_ev {x y : Evt} {xo yo : Operand} : pvv prog (oEq .eql 34 xo yo (ev x) (ev y)) w K = K (.bool (decide (x = y))) w := o_eqStruct (by kernel_rfl) (by kernel_rfl) (by kernel_rfl) (run_eq34 x y)
theorem neq_ev {x y : Evt} {xo yo : Operand} : pvv prog (oEq .neq 34 xo yo (ev x) (ev y)) w K = K (.bool !(decide (x = y))) w := o_neStruct (by kernel_rfl) (by kernel_rfl) (by kernel_rfl) (run_eq34 x y)
theorem eq36 {a b : List UInt8} (ha : a.length = 32) (hb : b.length = 32) {xo yo : Operand} : pvv prog (oEq .eql 36 xo yo (.agg (a.map bv).toArray) (.agg (b.map bv).toArray)) w K = K (.bool (a == b)) w := o_eqArr (n := 32) (by kernel_rfl) ha hb
theorem neq36 {a b : List UInt8} (ha : a.length = 32) (hb : b.length = 32) {xo yo : Operand} : pvv prog (oEq .neq 36 xo yo (.agg (a.map bv).toArray) (.agg (b.map bv).toArray)) w K = K (.bool !(a == b)) w := o_neArr (n := 32) (by kernel_rfl) ha hb
end Go.Proofs.YtjeiojibnmfibaaDoor
