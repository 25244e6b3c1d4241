/-
  slices.SortFunc of structs, by the kit's contract, said of an owned slice: some row of as many.
-/
import Derived.Test.YtbcimkjgpplcpaaGreatDoorElems
import Derived.Shelf.SlSortCmp.InsertionK
import Derived.Test.YtbcimkjgpplcpaaGreatDoorSortK
import Derived.Deep.DeepHandedRow
import Derived.Lib.LaidTab
set_option linter.all false
namespace Hold
open Go Go.Sort Go.Proofs Go.Shelf
section
variable {P : Program} {E : World0} {w : World} {H R : HP} {K : Value → World → Prop} {α : Type} [Inhabited α]
/-- A block has turned, and blocks have come. -/
theorem sat_turnF {w' : World} {b : Nat} {o o' : Obj} (h : sat E w (pts b o * R)) (he : env w' = env w) (hb : w'.heap[b]? = some o') (hk : ∀ (k : Nat) (x : Obj), k ≠ b → w.heap[k]? = some x → w'.heap[k]? = some x) : sat E w' (pts b o' * R) := by
  have hs := h.set o'
  obtain ⟨e, I, h', ha, hb', hp⟩ := hs
  have key : ∀ (k : Nat) (x : Obj), (w.putObj b o').heap[k]? = some x → w'.heap[k]? = some x := by
    intro k x hx
    have hx : (w.heap.setIfInBounds b o')[k]? = some x := hx
    by_cases hkb : k = b
    · subst hkb
      rw [Array.getElem?_setIfInBounds_self] at hx
      split at hx
      · rw [hb]; exact hx
      · cases hx
    · rw [Array.getElem?_setIfInBounds_ne (fun h => hkb h.symm)] at hx
      exact hk k x hkb hx
  refine ⟨he.trans (show env w = E from e), I, h', fun k x hI => ⟨(ha k x hI).1, key k x (ha k x hI).2⟩, fun k x hx => key k x (hb' k x hx), hp⟩
theorem flat_get {cells : α → List Value} {k : Nat} (hk : 0 < k) (hc : ∀ x, (cells x).length = k) (l : List α) {t : Nat} (ht : t < l.length * k) : (l.flatMap cells)[t]? = some (flatK cells k l.toArray)[t]! := by
  have hlen := fm_length hc l
  have h1 : (l.flatMap cells)[t]? = some ((l.flatMap cells)[t]'(by omega)) := List.getElem?_eq_getElem (by omega)
  obtain ⟨x, hx, hu⟩ := fm_get hk hc h1
  rw [h1, get_flatK _ _ _ _ (by simpa using ht)]
  have e1 : l.toArray[t / k]! = x := by
    rw [getElem!_def]
    simp [hx]
  rw [e1, getElem!_def, hu]
theorem sortf_sl {cells : α → List Value} {k : Nat} (hk : 0 < k) (hc : ∀ x, (cells x).length = k) {f : FuncId} {clo : Value}
    (hS : ∀ (blk off cap : Nat) (d : Array α) (w : World), HoldsK cells k w blk off d → blk < w.heap.size → d.size < 4611686018427387904 →
      Calls P f #[.slice (some ⟨blk, off, none⟩) d.size cap, clo] w fun e w' => e = .returned (.tuple #[]) ∧ ∃ (d' : Array α) (n : Nat) (os : Array Obj), d'.size = d.size ∧ w' = sortWorldK cells k w blk off n d' os)
    {e : TypeId} {v : Value} {l : List α} (h : sat E w (osl e k v l.length (l.flatMap cells) * R)) (h0 : 0 < l.length) (hl : l.length ≤ 1000000)
    (kk : ∀ (l' : List α) w', l'.length = l.length → sat E w' (osl e k v l'.length (l'.flatMap cells) * R) → K (.tuple #[]) w') : Calls P f #[v, clo] w (Ret K) := by
  rcases sat_osl.1 h with ⟨rfl, h1, h2, hR⟩ | ⟨b, cap, sp, rfl, h1, h2, h3, h4, hP⟩
  · omega
  · have hb := hP.pts_get
    have hlt := (Array.getElem?_eq_some_iff.1 hb).1
    have hlen := fm_length hc l
    have hH : HoldsK cells k w b 0 l.toArray := by
      intro j hj
      have hj' : j < l.length * k := by simpa using hj
      refine ⟨?_, by simp [World.frozen?, hb]⟩
      have h1 := flat_get hk hc l hj'
      simp only [World.cell?, hb, Nat.zero_add, Option.isSome_none, Bool.false_eq_true, if_false, id]
      rw [List.getElem?_toArray, List.getElem?_append_left (by omega)]
      exact h1
    refine (hS b 0 cap l.toArray w hH hlt (by simpa using (show l.length < 4611686018427387904 by omega))).mono ?_
    rintro e' w' ⟨rfl, d', n, os, hds, rfl⟩
    have hds : d'.size = l.length := by simpa using hds
    have hdl : d'.toList.length = l.length := by simpa using hds
    refine ⟨_, rfl, kk d'.toList _ hdl ?_⟩
    rw [hdl]
    have hlen' : (d'.toList.flatMap cells).length = l.length * k := by rw [fm_length hc, hdl]
    refine sat_osl.2 (.inr ⟨b, cap, sp, rfl, hlen', by rw [List.length_append, hlen', ← hlen, ← List.length_append]; exact h2, h3, h4, ?_⟩)
    have hcell : (sortWorldK cells k w b 0 n d' os).heap[b]? = some (.cells (d'.toList.flatMap cells ++ sp).toArray e (0, 0)) := by
      unfold sortWorldK
      rw [heap_grow_old _ _ (by simp [putRowK, putRow, mapBlock, Sort.ahead]; exact hlt)]
      simp only [putRowK, putRow, mapBlock, Sort.ahead, Array.getElem?_modify, if_true, hb, Option.map_some, onCells]
      congr 2
      apply Array.ext'
      apply List.ext_getElem?
      intro j
      rw [Array.getElem?_toList]
      simp only [putCells, Array.getElem?_mapIdx, List.getElem?_toArray, Nat.zero_le, Nat.zero_add, true_and, Nat.sub_zero, size_flatK, hds, id]
      by_cases hj : j < l.length * k
      · have h5 := flat_get hk hc d'.toList (t := j) (by rw [hdl]; exact hj)
        rw [List.getElem?_append_left (by omega), List.getElem?_append_left (by omega), h5, List.getElem?_eq_getElem (by omega)]
        simp [hj]
      · rw [List.getElem?_append_right (by omega), List.getElem?_append_right (by omega)]
        simp [hj, hlen, hlen']
    refine sat_turnF hP rfl hcell fun j x hj hx => ?_
    have hjl := (Array.getElem?_eq_some_iff.1 hx).1
    unfold sortWorldK
    rw [heap_grow_old _ _ (by simp [putRowK, putRow, mapBlock, Sort.ahead]; exact hjl)]
    have hne : b ≠ j := fun h => hj h.symm
    simp [putRowK, putRow, mapBlock, Sort.ahead, Array.getElem?_modify, hne, hx]
end
end Hold

/-
  From a walk over a world in which the listed variables lie as they were laid, to the row and its card.
-/
set_option linter.all false
namespace Hold
open Go Go.ChangeShapes Go.WideShapes Go.RowKit

/-- A law's step, from its walk; the arguments' sizes and the listed variables are handed on. -/
theorem law_liftedC {H : Type} {enc : TypeId × Value → H} {C : Checked} {os : Os} {f : FuncId} {fn : Func} {s : ChangeSpec} {F : Stop.Interp} {conds : List PathCond} {apart fresh handsOn again : Bool} {laid : List (String × DataW Unit)} {tb : TypeId}
    (own : ownKnob C.prog.godebug = none) (started : os.Started) (noInit : C.prog.inits.idxOf? f = none) (hfn : C.prog.funcs[f]? = some fn)
    (witness : ∃ (w : World) (tape : Tape) (i : Input), w.os = os ∧ (w.forCall tape i).Shaped C.prog ∧ i.vars = [] ∧ Input.okWide C.prog (w.forCall tape i) .any w.heap.size f i ∧
      (OpenSpec.ofChange s).preRow enc C.prog fn conds apart laid (w.forCall tape i).memory i.args ∧ ({} : Assume).holds C.prog (lone (Frame.enter C.prog f i.args .normal) [] (w.forCall tape i)))
    (hl : laidOutB C.prog = true) (hp : fn.params.toList.all (fun t => C.prog.readableRec t && decide (t < C.prog.types.size)) = true) (hrt : fn.resultTypes = #[tb]) (htb : C.prog.underlying tb = some .bool) (hv : s.vars = [])
    (hs : ∀ ds : List (DataW H), ds.length = fn.params.toList.length → s.fn H ds = { results := [.lit (.bool true)], args := ds })
    (walk : ∀ (W : World) (args : Array Value) (ds : List (DataW H)) (ps : List MemPlace), (∀ (j : Nat) t v, fn.params.toList[j]? = some t → args.toList[j]? = some v → ∃ base, Value.okWide C.prog W .any base t v) →
      DataW.TrodAll enc C.prog W 0 (fun _ => true) true fn.params.toList args.toList ds ps →
      (∀ (j : Nat) t d, fn.params.toList[j]? = some t → ds[j]? = some d → ∀ n ∈ d.weights C.prog t, n ≤ 140737488351232) → laidMetH C.prog laid W →
      Calls C.prog f args W (Ret fun v W' => v = .bool true ∧ Below W.heap.size W W')) :
    ReturnsInHanded {} C os f .any ((OpenSpec.ofChange s).preRow enc C.prog fn conds apart laid) (((OpenSpec.ofChange s).at F).post enc C.prog fn apart fresh handsOn again) := by
  refine returnsInHanded_of_row (s := OpenSpec.ofChange s) own started noInit hfn witness ?_
  intro W base args ds gs before hval hW _ _ hsz hL _ _
  have hW' := hW
  obtain ⟨p, q, hA, hV, _⟩ := hW
  have hlen : ∀ {ts : List TypeId} {vs : List Value} {ds : List (DataW H)} {ps : List MemPlace}, DataW.TrodAll enc C.prog W 0 (fun _ => true) true ts vs ds ps → ds.length = ts.length := by
    intro ts
    induction ts with
    | nil => intro vs ds ps h; obtain ⟨_, rfl, _⟩ := trodAll_nil h; rfl
    | cons t ts ih => intro vs ds ps h; obtain ⟨v, vs, d, ds, p, q, _, rfl, _, _, h2⟩ := trodAll_cons h; simp [ih h2]
  have hw : ∀ (j : Nat) t d, fn.params.toList[j]? = some t → ds[j]? = some d → ∀ n ∈ d.weights C.prog t, n ≤ 140737488351232 := fun j t d h1 h2 n hn => by
    have l1 := (List.getElem?_eq_some_iff.1 h1).1
    have l2 := (List.getElem?_eq_some_iff.1 h2).1
    have := List.all_eq_true.1 hsz _ (DataW.weights_mem_each (j := j) (t := t) (d := d) (by rw [List.getElem?_append_left l1]; exact h1) (by rw [List.getElem?_append_left l2]; exact h2) n hn)
    have e : reachBytes = 140737488351232 := by decide
    rw [e] at this
    simpa using this
  refine (walk W args ds p (fun j t v h1 h2 => ⟨base, hval j t v (by simpa using h1) (by simpa using h2)⟩) hA hw hL).mono fun e W' ⟨v, he, hv2, hb⟩ => ?_
  subst hv2
  refine ⟨_, he, law_post hl (fun t ht => ?_) hrt htb hv (hs ds (hlen hA)) hW' hb⟩
  have := List.all_eq_true.1 hp t ht
  simpa using this

/-- The cells of a datum of plain values. -/
def litVal : Lit → Value
  | .int k n => .int k n
  | .bool b => .bool b
  | .string l => .string ⟨l.toArray⟩
  | _ => undef
def litCells : Nat → DataW Unit → List Value
  | 0, _ => []
  | _ + 1, .lit l => [litVal l]
  | n + 1, .agg ps => ps.flatMap (litCells n)
  | _, _ => []
def layOne (P : Program) (w : World) (x : String × DataW Unit) : World :=
  match P.globalNamed x.1 with
  | some g => { w with heap := w.heap.modify g fun
      | .cells c t fr => .cells (match litCells 6 x.2 with | [] => c | l => l.toArray) t fr
      | o => o }
  | none => w
def layAll (P : Program) (laid : List (String × DataW Unit)) (w : World) : World := laid.foldl (layOne P) w

/-- A cell that reads so, wherever H holds. -/
def RdC (H : HP) (b o : Nat) (v : Value) : Prop := ∀ (E : World0) (w : World), sat E w H → w.cell? ⟨b, o, none⟩ = some v
theorem RdC.right {H X : HP} {b o : Nat} {v : Value} (h : RdC H b o v) : RdC (X * H) b o v := fun E w hs => h E w hs.drop
theorem RdC.left {H X : HP} {b o : Nat} {v : Value} (h : RdC H b o v) : RdC (H * X) b o v := fun E w hs => h E w hs.drop'
theorem RdC.old {w : World} {b o : Nat} {v : Value} (h : w.cell? ⟨b, o, none⟩ = some v) : RdC (old w) b o v := fun E w' hs => by
  unfold World.cell? at h ⊢
  split at h
  · rename_i c e fr hb
    rw [sat.old_get hs.whole hb]
    exact h
  · cases h
end Hold
