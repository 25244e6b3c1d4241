/-
  The form's own reach handed on: each argument's size is bounded; openers of arguments with it.
-/
import Derived.Test.YtnkmgkilfkgfhaaDoorArgs
import Derived.Test.YtnkmgkilfkgfhaaDoorRow
import Derived.SizedLaws
import Derived.ChangeMaps5
set_option linter.all false
namespace Hold
open Go Go.ChangeShapes Go.WideShapes Go.RowKit

/-- A law's step, from its walk; the arguments' sizes are handed on. -/
theorem law_liftedS {H : Type} {enc : TypeId × Value → H} {C : Checked} {os : Os} {f : FuncId} {fn : Func} {s : ChangeSpec} {conds : List PathCond} {apart fresh handsOn again : Bool} {tb : TypeId}
    (own : ownKnob C.prog.godebug = none) (started : os.Started) (noInit : C.prog.inits.idxOf? f = none) (hfn : C.prog.funcs[f]? = some fn)
    (witness : ∃ (w : World) (tape : Tape) (i : Input), w.os = os ∧ (w.forCall tape i).Shaped C.prog ∧ i.vars = [] ∧ Input.okWide C.prog (w.forCall tape i) .any w.heap.size f i ∧
      s.pre6 enc C.prog fn conds apart (w.forCall tape i).memory i.args ∧ ({} : Assume).holds C.prog (lone (Frame.enter C.prog f i.args .normal) [] (w.forCall tape i)))
    (hl : laidOutB C.prog = true) (hp : fn.params.toList.all (fun t => C.prog.readableRec t && decide (t < C.prog.types.size)) = true) (hrt : fn.resultTypes = #[tb]) (htb : C.prog.underlying tb = some .bool) (hv : s.vars = [])
    (hs : ∀ ds : List (DataW H), ds.length = fn.params.toList.length → s.fn H ds = { results := [.lit (.bool true)], args := ds })
    (walk : ∀ (W : World) (args : Array Value) (ds : List (DataW H)) (ps : List MemPlace), (∀ (j : Nat) t v, fn.params.toList[j]? = some t → args.toList[j]? = some v → ∃ base, Value.okWide C.prog W .any base t v) →
      DataW.TrodAll enc C.prog W 0 (fun _ => true) true fn.params.toList args.toList ds ps →
      (∀ (j : Nat) t d, fn.params.toList[j]? = some t → ds[j]? = some d → ∀ n ∈ d.weights C.prog t, n ≤ 140737488351232) → Calls C.prog f args W (Ret fun v W' => v = .bool true ∧ Below W.heap.size W W')) :
    ReturnsInHanded {} C os f .any (s.pre6 enc C.prog fn conds apart) (s.post enc C.prog fn apart fresh handsOn again) := by
  refine returnsInHanded_of_change_sized own started noInit hfn witness ?_
  intro W base args ds gs before hval hW _ hsz _
  have hW' := hW
  obtain ⟨p, q, hA, hV, _⟩ := hW
  have hlen : ∀ {ts : List TypeId} {vs : List Value} {ds : List (DataW H)} {ps : List MemPlace}, DataW.TrodAll enc C.prog W 0 (fun _ => true) true ts vs ds ps → ds.length = ts.length := by
    intro ts
    induction ts with
    | nil => intro vs ds ps h; obtain ⟨_, rfl, _⟩ := trodAll_nil h; rfl
    | cons t ts ih => intro vs ds ps h; obtain ⟨v, vs, d, ds, p, q, _, rfl, _, _, h2⟩ := trodAll_cons h; simp [ih h2]
  have hw : ∀ (j : Nat) t d, fn.params.toList[j]? = some t → ds[j]? = some d → ∀ n ∈ d.weights C.prog t, n ≤ 140737488351232 := fun j t d h1 h2 n hn => by
    have l1 := (List.getElem?_eq_some_iff.1 h1).1
    have l2 := (List.getElem?_eq_some_iff.1 h2).1
    have := List.all_eq_true.1 hsz _ (DataW.weights_mem_each (j := j) (t := t) (d := d) (by rw [List.getElem?_append_left l1]; exact h1) (by rw [List.getElem?_append_left l2]; exact h2) n hn)
    have e : reachBytes = 140737488351232 := by decide
    rw [e] at this
    simpa using this
  refine (walk W args ds p (fun j t v h1 h2 => ⟨base, hval j t v (by simpa using h1) (by simpa using h2)⟩) hA hw).mono fun e W' ⟨v, he, hv2, hb⟩ => ?_
  subst hv2
  refine ⟨_, he, law_post hl (fun t ht => ?_) hrt htb hv (hs ds (hlen hA)) hW' hb⟩
  have := List.all_eq_true.1 hp t ht
  simpa using this

variable {H : Type} {enc : TypeId × Value → H} {P : Program} {W : World} {r : Reach} {b0 : Nat} {v : Value} {d : DataW H} {p : List MemPlace}
theorem open_bytesS {t e : TypeId} (ht : P.underlying t = some (.slice e)) (he : P.underlying e = some (.int .u8)) (hc : P.cellsOf e = 1) (h1 : P.bytesOf e = 1)
    (hv : Value.okWide P W r b0 t v) (h : DataW.Trod enc P W 0 (fun _ => true) true t v d p) (hw : ∀ n ∈ d.weights P t, n ≤ 140737488351232) : ∃ l : List UInt8, Rds (old W) v l.length (l.map bv) ∧ l.length ≤ 140737488351232 := by
  obtain ⟨l, hr, _⟩ := open_bytesG ht he hc hv h
  refine ⟨l, hr, ?_⟩
  obtain ⟨a, len, cap, rfl⟩ := okWide_slice ht hv
  obtain ⟨a2, c2, e2, hc2, _⟩ := hr _ W (sat.start W)
  cases e2
  obtain ⟨fuel, hf⟩ := h
  rcases open_ints (k := .u8) ht he hc hf with ⟨e, _⟩ | ⟨a', len', cap', zs, e, _, hlc, hcm, hz, hd, hx, hwf⟩
  · simp [Value.cells] at e
    omega
  · simp [Value.cells] at e
    obtain ⟨rfl, rfl, rfl⟩ := e
    simp at hd
    obtain ⟨rfl, _⟩ := hd
    simp at hz
    have := hw ((lits (H := H) .u8 (zs.take l.length)).length + (lits (H := H) .u8 (zs.drop l.length)).length) (by simp [DataW.weights, ht, h1])
    simp [lits] at this
    omega
theorem weightsAll_mem {e : TypeId} : ∀ {ds : List (DataW H)} {d : DataW H}, d ∈ ds → ∀ n ∈ d.weights P e, n ∈ DataW.weightsAll P e ds
  | x :: ds, d, hd, n, hn => by
    simp only [DataW.weightsAll, List.mem_append]
    rcases List.mem_cons.1 hd with rfl | hd
    · exact .inl hn
    · exact .inr (weightsAll_mem hd n hn)
theorem open_textsS {t e : TypeId} (ht : P.underlying t = some (.slice e)) (he : P.underlying e = some .string) (hc : P.cellsOf e = 1) (h1 : P.bytesOf e = 16)
    (hv : Value.okWide P W r b0 t v) (h : DataW.Trod enc P W 0 (fun _ => true) true t v d p) (hw : ∀ n ∈ d.weights P t, n ≤ 140737488351232) :
    ∃ cs : List (List UInt8), Rds (old W) v cs.length (cs.map tv) ∧ cs.length * 16 ≤ 140737488351232 ∧ ∀ c ∈ cs, c.length ≤ 140737488351232 := by
  obtain ⟨a, len, cap, rfl⟩ := okWide_slice ht hv
  obtain ⟨fuel, hf⟩ := h
  rcases open_strings ht he hc hf with ⟨e, _⟩ | ⟨a', len', cap', ss, e, _, hlc, hcm, hz, hd, hx, _⟩
  · simp [Value.cells] at e
    obtain ⟨rfl, rfl, rfl⟩ := e
    exact ⟨[], rds_old ⟨none, 0, rfl, Nat.le_refl _, .inl rfl⟩, by simp, by simp⟩
  · simp [Value.cells] at e
    obtain ⟨rfl, rfl, rfl⟩ := e
    simp at hz
    simp only [Prod.mk.injEq] at hd
    obtain ⟨rfl, _⟩ := hd
    have hl : ((ss.take len).map fun s : ByteArray => s.data.toList).length = len := by simp; omega
    have hw1 := hw (((strs (H := H) (ss.take len)).length + (strs (H := H) (ss.drop len)).length) * P.bytesOf e) (by simp [DataW.weights, ht])
    rw [h1] at hw1
    have hlt : (strs (H := H) (ss.take len)).length = len := by simp [strs]; omega
    refine ⟨(ss.take len).map fun s : ByteArray => s.data.toList, ?_, ?_, ?_⟩
    · rw [hl]
      refine rds_old ⟨some a', cap, rfl, hlc, win_of_cells fun j v hj => ?_⟩
      have hj2 := (List.getElem?_eq_some_iff.1 hj).1
      simp at hj2
      rw [hx j (by omega)]
      rw [List.getElem?_map, List.getElem?_map, List.getElem?_take, if_pos (by omega), List.getElem?_eq_getElem (by omega)] at hj
      simp only [Option.map_some, Option.some.injEq] at hj
      rw [← hj, List.getD_eq_getElem?_getD, List.getElem?_eq_getElem (by omega)]
      simp [tv]
    · rw [hl]
      rw [hlt, Nat.add_mul] at hw1
      omega
    · intro c hcm2
      obtain ⟨s, hs, rfl⟩ := List.mem_map.1 hcm2
      refine hw s.data.toList.length ?_
      simp only [DataW.weights, ht]
      refine List.mem_cons_of_mem _ (List.mem_append_left _ (weightsAll_mem (d := .lit (.string s.data.toList)) ?_ _ (by simp [DataW.weights])))
      simp only [strs, List.mem_map]
      exact ⟨s, hs, rfl⟩
theorem open_textS {t : TypeId} (ht : P.underlying t = some .string) (hv : Value.okWide P W r b0 t v) (h : DataW.Trod enc P W 0 (fun _ => true) true t v d p) (hw : ∀ n ∈ d.weights P t, n ≤ 140737488351232) :
    ∃ l : List UInt8, v = tv l ∧ l.length ≤ 140737488351232 := by
  obtain ⟨s, rfl, rfl, _, _⟩ := Go.ChangeMaps.open_string ht hv h
  refine ⟨s.data.toList, by simp [tv], ?_⟩
  exact hw _ (by simp [DataW.weights])
theorem open_intG {t : TypeId} (ht : P.underlying t = some (.int .i64)) (hv : Value.okWide P W r b0 t v) (h : DataW.Trod enc P W 0 (fun _ => true) true t v d p) :
    ∃ n : Int, v = .int .i64 n ∧ (-9223372036854775808 ≤ n ∧ n ≤ 9223372036854775807) := by
  obtain ⟨n, rfl, _, _, hw⟩ := open_int ht hv h
  refine ⟨n, rfl, ?_⟩
  simpa [Lit.wf, IntKind.min, IntKind.max, IntKind.signed, IntKind.bits] using hw
theorem open_u8G {t : TypeId} (ht : P.underlying t = some (.int .u8)) (hv : Value.okWide P W r b0 t v) (h : DataW.Trod enc P W 0 (fun _ => true) true t v d p) : ∃ b : UInt8, v = bv b := by
  obtain ⟨n, rfl, _, _, hw⟩ := open_int ht hv h
  exact u8_wf hw
/-- An array of bytes. -/
theorem open_arrB {t e : TypeId} {n : Nat} (ht : P.underlying t = some (.array n e)) (he : P.underlying e = some (.int .u8)) (hc : P.cellsOf e = 1) (hct : P.cellsOf t = n)
    (hv : Value.okWide P W r b0 t v) (h : DataW.Trod enc P W 0 (fun _ => true) true t v d p) : ∃ l : List UInt8, v = .agg (l.map bv).toArray ∧ l.length = n := by
  simp only [Value.okWide, ht] at hv
  obtain ⟨cs, rfl, h2, _⟩ := hv
  obtain ⟨fuel, hf⟩ := h
  obtain ⟨xs, m, rfl, _, hl, hxl, hx⟩ := DataW.trod_array ht hf
  simp only [Value.cells] at hl hx
  rw [hct] at hl
  have hb : ∀ i, i < n → ∃ b : UInt8, cs.toList[i]? = some (bv b) := fun i hi => by
    have := hx i hi
    rw [hc, Nat.mul_one] at this
    rw [List.getElem?_eq_getElem (by omega)] at this
    obtain ⟨z, hz, _, hwf⟩ := DataW.trod_int he this
    obtain ⟨b, hb⟩ := u8_wf hwf
    refine ⟨b, ?_⟩
    rw [← hb]
    have h0 : ((cs.toList.drop i).take 1)[0]? = some (Value.int .u8 z) := by rw [hz]; rfl
    rw [List.getElem?_take, if_pos (by omega), List.getElem?_drop] at h0
    simpa using h0
  have key : ∀ (L : List Value), (∀ i, i < L.length → ∃ b : UInt8, L[i]? = some (bv b)) → ∃ l : List UInt8, L = l.map bv := by
    intro L
    induction L with
    | nil => intro _; exact ⟨[], rfl⟩
    | cons x L ih =>
      intro hL
      obtain ⟨b, hb0⟩ := hL 0 (by simp)
      obtain ⟨l, rfl⟩ := ih fun i hi => by
        obtain ⟨b, hb⟩ := hL (i + 1) (by simpa using hi)
        exact ⟨b, by simpa using hb⟩
      simp at hb0
      exact ⟨b :: l, by simp [hb0]⟩
  obtain ⟨l, hl2⟩ := key cs.toList (fun i hi => hb i (by simp at hl hi; omega))
  have hln : l.length = n := by
    have := congrArg List.length hl2
    simp at this hl
    omega
  exact ⟨l, by rw [← hl2], hln⟩
end Hold
