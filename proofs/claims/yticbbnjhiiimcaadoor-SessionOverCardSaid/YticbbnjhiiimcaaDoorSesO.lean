/-
  What is handed to the laws of sessions, opened.
-/
import Derived.Test.YticbbnjhiiimcaaDoorSesR
import Derived.Test.YticbbnjhiiimcaaDoorOpens
set_option linter.all false
set_option maxRecDepth 100000
namespace Go.Proofs.YticbbnjhiiimcaaDoor
open Go Hold Go.ChangeShapes Go.WideShapes
def shortO (o : Own2) : Prop := o.tn.length ≤ 9223372036854775807 ∧ o.us.length ≤ 9223372036854775807
structure Dd where
  kind : Int
  o : Own2
  id : Int
  now : Int
def ddcells (x : Dd) : List Value := .int .i64 x.kind :: (ocells x.o ++ [.int .i64 x.id, .int .i64 x.now])
theorem u23 : ∃ f0 f1 : Field, prog.underlying 23 = some (.struct #[f0, f1]) ∧ f0.type = 9 ∧ f0.offset = 0 ∧ f1.type = 9 ∧ f1.offset = 1 :=
  ⟨(prog.fieldsOf 23).toList.getD 0 default, (prog.fieldsOf 23).toList.getD 1 default, by kernel_rfl, by kernel_rfl, by kernel_rfl, by kernel_rfl, by kernel_rfl⟩
theorem u25 : ∃ f0 f1 f2 f3 : Field, prog.underlying 25 = some (.struct #[f0, f1, f2, f3]) ∧ f0.type = 3 ∧ f0.offset = 0 ∧ f1.type = 23 ∧ f1.offset = 1 ∧ f2.type = 3 ∧ f2.offset = 3 ∧ f3.type = 3 ∧ f3.offset = 4 :=
  ⟨(prog.fieldsOf 25).toList.getD 0 default, (prog.fieldsOf 25).toList.getD 1 default, (prog.fieldsOf 25).toList.getD 2 default, (prog.fieldsOf 25).toList.getD 3 default, by kernel_rfl, by kernel_rfl, by kernel_rfl, by kernel_rfl, by kernel_rfl, by kernel_rfl, by kernel_rfl, by kernel_rfl, by kernel_rfl⟩
theorem u49 : ∃ f0 f1 f2 f3 : Field, prog.underlying 49 = some (.struct #[f0, f1, f2, f3]) ∧ f0.type = 3 ∧ f0.offset = 0 ∧ f1.type = 23 ∧ f1.offset = 1 ∧ f2.type = 3 ∧ f2.offset = 3 ∧ f3.type = 3 ∧ f3.offset = 4 :=
  ⟨(prog.fieldsOf 49).toList.getD 0 default, (prog.fieldsOf 49).toList.getD 1 default, (prog.fieldsOf 49).toList.getD 2 default, (prog.fieldsOf 49).toList.getD 3 default, by kernel_rfl, by kernel_rfl, by kernel_rfl, by kernel_rfl, by kernel_rfl, by kernel_rfl, by kernel_rfl, by kernel_rfl, by kernel_rfl⟩
section
variable {W : World} {H : Type} {enc : TypeId × Value → H} {n : Nat} {cs : List Value} {D : DataW H × List MemPlace}
theorem own_of (h : DataW.trod enc prog W 0 (fun _ => true) true n 23 cs = some D) : ∃ o : Own2, cs = ocells o ∧ shortO o := by
  obtain ⟨f0, f1, hu, t0, o0, t1, o1⟩ := u23
  obtain ⟨xs, m, _, _, hl, hlen, hf⟩ := DataW.trod_struct hu h
  rw [show prog.cellsOf 23 = 2 by kernel_rfl] at hl
  have c9 : prog.cellsOf 9 = 1 := by kernel_rfl
  match xs, hlen, cs, hl with
  | [y0, y1], _, [a, b], _ =>
    have g0 := hf 0 f0 rfl
    have g1 := hf 1 f1 rfl
    simp only [t0, o0, t1, o1, c9, List.drop, List.take] at g0 g1
    obtain ⟨s0, e0, _, z0⟩ := DataW.trod_string ul_9.ul g0
    obtain ⟨s1, e1, _, z1⟩ := DataW.trod_string ul_9.ul g1
    simp only [List.cons.injEq, and_true] at e0 e1
    subst e0 e1
    exact ⟨⟨s0.data.toList, s1.data.toList⟩, by simp [ocells, tv], z0, z1⟩
theorem ses_of (h : DataW.trod enc prog W 0 (fun _ => true) true n 25 cs = some D) : ∃ x : Ses, cs = scells x := by
  obtain ⟨f0, f1, f2, f3, hu, t0, o0, t1, o1, t2, o2, t3, o3⟩ := u25
  obtain ⟨xs, m, _, _, hl, hlen, hf⟩ := DataW.trod_struct hu h
  rw [show prog.cellsOf 25 = 5 by kernel_rfl] at hl
  have c3 : prog.cellsOf 3 = 1 := by kernel_rfl
  have c23 : prog.cellsOf 23 = 2 := by kernel_rfl
  match xs, hlen, cs, hl with
  | [y0, y1, y2, y3], _, [a, b, c, d, e], _ =>
    have g0 := hf 0 f0 rfl
    have g1 := hf 1 f1 rfl
    have g2 := hf 2 f2 rfl
    have g3 := hf 3 f3 rfl
    simp only [t0, o0, t1, o1, t2, o2, t3, o3, c3, c23, List.drop, List.take] at g0 g1 g2 g3
    obtain ⟨n0, e0, _⟩ := DataW.trod_int ul_3.ul g0
    obtain ⟨o, e1, _⟩ := own_of g1
    obtain ⟨n2, e2, _⟩ := DataW.trod_int ul_3.ul g2
    obtain ⟨n3, e3, _⟩ := DataW.trod_int ul_3.ul g3
    simp only [ocells, List.cons.injEq, and_true] at e0 e1 e2 e3
    obtain ⟨e1, e1'⟩ := e1
    subst e0 e1 e1' e2 e3
    exact ⟨⟨n0, o.tn, o.us, n2, n3⟩, rfl⟩
theorem dd_of (h : DataW.trod enc prog W 0 (fun _ => true) true n 49 cs = some D) : ∃ x : {x : Dd // shortO x.o}, cs = ddcells x.1 := by
  obtain ⟨f0, f1, f2, f3, hu, t0, o0, t1, o1, t2, o2, t3, o3⟩ := u49
  obtain ⟨xs, m, _, _, hl, hlen, hf⟩ := DataW.trod_struct hu h
  rw [show prog.cellsOf 49 = 5 by kernel_rfl] at hl
  have c3 : prog.cellsOf 3 = 1 := by kernel_rfl
  have c23 : prog.cellsOf 23 = 2 := by kernel_rfl
  match xs, hlen, cs, hl with
  | [y0, y1, y2, y3], _, [a, b, c, d, e], _ =>
    have g0 := hf 0 f0 rfl
    have g1 := hf 1 f1 rfl
    have g2 := hf 2 f2 rfl
    have g3 := hf 3 f3 rfl
    simp only [t0, o0, t1, o1, t2, o2, t3, o3, c3, c23, List.drop, List.take] at g0 g1 g2 g3
    obtain ⟨n0, e0, _⟩ := DataW.trod_int ul_3.ul g0
    obtain ⟨o, e1, so⟩ := own_of g1
    obtain ⟨n2, e2, _⟩ := DataW.trod_int ul_3.ul g2
    obtain ⟨n3, e3, _⟩ := DataW.trod_int ul_3.ul g3
    simp only [ocells, List.cons.injEq, and_true] at e0 e1 e2 e3
    obtain ⟨e1, e1'⟩ := e1
    subst e0 e1 e1' e2 e3
    exact ⟨⟨⟨n0, o, n2, n3⟩, so⟩, rfl⟩
end
section
variable {W : World} {H : Type} {enc : TypeId × Value → H} {r : Reach} {b0 : Nat} {v : Value} {d : DataW H} {p : List MemPlace}
theorem open_ses (hv : Value.okWide prog W r b0 25 v) (h : DataW.Trod enc prog W 0 (fun _ => true) true 25 v d p) (_hw : ∀ n ∈ d.weights prog 25, n ≤ 140737488351232) : ∃ x : Ses, v = sv x := by
  obtain ⟨_, _, _, _, hu, _⟩ := u25
  obtain ⟨cs, rfl, _⟩ := okWide_struct hu hv
  obtain ⟨fuel, hf⟩ := h
  obtain ⟨x, e⟩ := ses_of hf
  simp only [Value.cells] at e
  exact ⟨x, by unfold sv; rw [← e]⟩
theorem open_own (hv : Value.okWide prog W r b0 23 v) (h : DataW.Trod enc prog W 0 (fun _ => true) true 23 v d p) (_hw : ∀ n ∈ d.weights prog 23, n ≤ 140737488351232) : ∃ o : Own2, v = .agg (ocells o).toArray ∧ shortO o := by
  obtain ⟨_, _, hu, _⟩ := u23
  obtain ⟨cs, rfl, _⟩ := okWide_struct hu hv
  obtain ⟨fuel, hf⟩ := h
  obtain ⟨x, e, s⟩ := own_of hf
  simp only [Value.cells] at e
  exact ⟨x, by rw [← e], s⟩
theorem open_dds (hv : Value.okWide prog W r b0 44 v) (h : DataW.Trod enc prog W 0 (fun _ => true) true 44 v d p) (_hw : ∀ n ∈ d.weights prog 44, n ≤ 140737488351232) :
    ∃ l : List Dd, Rds (old W) v l.length (l.flatMap ddcells) ∧ l.length ≤ 9223372036854775807 ∧ ∀ x ∈ l, shortO x.o := by
  obtain ⟨l, h1, h2⟩ := open_elems (t := 44) (e := 49) (k := 5) (cells := fun x : {x : Dd // shortO x.o} => ddcells x.1) (by kernel_rfl) (by kernel_rfl) (by omega) (fun _ => rfl) dd_of hv h
  refine ⟨l.map (·.1), ?_, by simpa using h2, ?_⟩
  · rw [List.length_map, List.flatMap_map]
    exact h1
  · intro x hx
    obtain ⟨y, _, rfl⟩ := List.mem_map.1 hx
    exact y.2
end
end Go.Proofs.YticbbnjhiiimcaaDoor
