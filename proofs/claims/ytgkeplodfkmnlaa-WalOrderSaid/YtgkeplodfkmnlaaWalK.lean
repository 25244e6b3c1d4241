/-
  Deeds in a slice; a deed on a log.
-/
import Derived.Test.YtgkeplodfkmnlaaWalJ
import Derived.Test.YtgkeplodfkmnlaaOpens
import Derived.Test.YtgkeplodfkmnlaaElems
set_option linter.all false
set_option maxRecDepth 100000
namespace Go.Proofs.Ytgkeplodfkmnlaa
open Go Hold Go.ChangeShapes Go.WideShapes
variable {E : World0} {w : World} {H R X : HP} {K : Value → World → Prop}
theorem u31 : ∃ f0 f1 f2 f3 : Field, prog.underlying 31 = some (.struct #[f0, f1, f2, f3]) ∧ (f0.type = 4 ∧ f0.offset = 0) ∧ (f1.type = 4 ∧ f1.offset = 1) ∧ (f2.type = 29 ∧ f2.offset = 2) ∧ (f3.type = 5 ∧ f3.offset = 3) :=
  ⟨(prog.fieldsOf 31).toList.getD 0 default, (prog.fieldsOf 31).toList.getD 1 default, (prog.fieldsOf 31).toList.getD 2 default, (prog.fieldsOf 31).toList.getD 3 default, by kernel_rfl, ⟨by kernel_rfl, by kernel_rfl⟩, ⟨by kernel_rfl, by kernel_rfl⟩, ⟨by kernel_rfl, by kernel_rfl⟩, ⟨by kernel_rfl, by kernel_rfl⟩⟩
section
variable {W : World} {H : Type} {enc : TypeId × Value → H}
theorem deed_of {n : Nat} {cs : List Value} {D : DataW H × List MemPlace} (h : DataW.trod enc prog W 0 (fun _ => true) true n 31 cs = some D) : ∃ x : {x : Dd // OkD (old W) x}, cs = dcells x.1 := by
  obtain ⟨f0, f1, f2, f3, hu, ⟨t0, o0⟩, ⟨t1, o1⟩, ⟨t2, o2⟩, ⟨t3, o3⟩⟩ := u31
  obtain ⟨xs, m, _, _, hl, hlen, hf⟩ := DataW.trod_struct hu h
  rw [show prog.cellsOf 31 = 4 by kernel_rfl] at hl
  have c4 : prog.cellsOf 4 = 1 := by kernel_rfl
  have c29 : prog.cellsOf 29 = 1 := by kernel_rfl
  have c5 : prog.cellsOf 5 = 1 := by kernel_rfl
  match xs, hlen, cs, hl with
  | [y0, y1, y2, y3], _, [a, b, c, d], _ =>
    have g0 := hf 0 f0 rfl
    have g1 := hf 1 f1 rfl
    have g2 := hf 2 f2 rfl
    have g3 := hf 3 f3 rfl
    simp only [t0, o0, t1, o1, t2, o2, t3, o3, c4, c29, c5, List.drop, List.take] at g0 g1 g2 g3
    obtain ⟨n0, e0, _⟩ := DataW.trod_bool (t := 4) (by kernel_rfl) g0
    obtain ⟨n1, e1, _⟩ := DataW.trod_bool (t := 4) (by kernel_rfl) g1
    obtain ⟨v, l, e2, h2, z2⟩ := ints_of (t := 29) (e := 3) (by kernel_rfl) (by kernel_rfl) (by kernel_rfl) g2
    obtain ⟨n3, e3, _, hw3⟩ := DataW.trod_int (t := 5) (k := .u8) (by kernel_rfl) g3
    obtain ⟨b3, hb3⟩ := u8_wf hw3
    simp only [List.cons.injEq, and_true] at e0 e1 e2 e3
    rw [hb3] at e3
    subst e0 e1 e2 e3
    exact ⟨⟨⟨n0, n1, c, l, b3⟩, ⟨h2, z2⟩⟩, rfl⟩
variable {r : Reach} {b0 : Nat} {v : Value} {d : DataW H} {p : List MemPlace}
theorem open_deeds (hv : Value.okWide prog W r b0 22 v) (h : DataW.Trod enc prog W 0 (fun _ => true) true 22 v d p) (_hw : ∀ n ∈ d.weights prog 22, n ≤ 140737488351232) :
    ∃ l : List Dd, Rds (old W) v l.length (l.flatMap dcells) ∧ l.length ≤ 9223372036854775807 ∧ ∀ x ∈ l, OkD (old W) x := by
  obtain ⟨l, h1, h2⟩ := open_elems (t := 22) (e := 31) (k := 4) (cells := fun x : {x : Dd // OkD (old W) x} => dcells x.1) (by kernel_rfl) (by kernel_rfl) (by omega) (fun _ => rfl) deed_of hv h
  refine ⟨l.map (·.1), ?_, by simpa using h2, ?_⟩
  · rw [List.length_map, List.flatMap_map]
    exact h1
  · intro x hx
    obtain ⟨y, _, rfl⟩ := List.mem_map.1 hx
    exact y.2
end
/-- A deed of a slice. -/
theorem dd_at {l : List Dd} {i : Nat} (h : i < l.length) : ((l.flatMap dcells).drop (i * 4)).take 4 = dcells l[i] := fm_at (cells := dcells) (k := 4) (fun _ => rfl) (List.getElem?_eq_getElem h)
theorem dd_chk {l : List Dd} {i : Nat} (h : i < l.length) : (l.flatMap dcells)[i * 4]? = some (.bool l[i].chk) := by
  have := congrArg (fun l => l[0]?) (dd_at h)
  simpa [dcells] using this
theorem dcells_length (l : List Dd) : (l.flatMap dcells).length = l.length * 4 := fm_length (cells := dcells) (k := 4) (fun _ => rfl) l
theorem mod_size (x : UInt8) : IntKind.i64.wrap (((IntKind.i64.wrap (x.toNat : Int)).tmod 20) + 2) = ((x.toNat % 20 + 2 : Nat) : Int) := by
  have := x.toNat_lt
  rw [i64_of (n := (x.toNat : Int)) (by omega) (by omega)]
  have : ((x.toNat : Int)).tmod 20 = ((x.toNat % 20 : Nat) : Int) := by rw [Int.tmod_eq_emod_of_nonneg (by omega)]; omega
  rw [this, i64_of (by omega) (by omega)]; omega
/-- How far the deeds may have come. -/
structure Far (S : Lg) (gs : List (List Int)) (N m : Nat) : Prop where
  i : LInv S gs
  size : S.size = N
  len : S.L.length = N + 10
  w : S.W.length ≤ 2000 * m
  g : S.groups ≤ m
theorem Far.start {N : Nat} (h1 : 2 ≤ N) (h2 : N ≤ 21) : Far (newL (N + 10) N) [] N 0 := ⟨newL_inv h1 (by omega) (by omega), rfl, by simp [newL], by simp [newL], by simp [newL]⟩
theorem Far.commit {S : Lg} {gs : List (List Int)} {N m : Nat} (f : Far S gs N m) (ps : List (Int × Bs)) : ∃ gs', Far (commitS S ps) gs' N (m + 1) := by
  unfold commitS
  split
  · rename_i h
    have t := errC_zero h.1 h.2
    have hn := t.n2
    refine ⟨_, f.i.commit t, by rw [commitT_size]; exact f.size, by rw [(commitT_len S ps).1]; exact f.len, ?_, by rw [commitT_groups]; have := f.g; omega⟩
    rw [(commitT_len S ps).2]; have := f.w; omega
  · exact ⟨gs, f.i, f.size, f.len, by have := f.w; omega, by have := f.g; omega⟩
theorem Far.check {S : Lg} {gs : List (List Int)} {N m : Nat} (f : Far S gs N m) : ∃ gs', Far (checkS S) gs' N (m + 1) := by
  unfold checkS
  split
  · exact ⟨gs, f.i, f.size, f.len, by have := f.w; omega, by have := f.g; omega⟩
  · have hfew := f.i.few
    refine ⟨_, f.i.check, by rw [checkT_size]; exact f.size, by rw [(checkT_len S).1]; exact f.len, ?_, ?_⟩
    · rw [(checkT_len S).2]; have := f.w; omega
    · have : (checkT S).groups = S.groups := (backP_keep (touched S) S).2.1
      rw [this]; have := f.g; omega
end Go.Proofs.Ytgkeplodfkmnlaa
