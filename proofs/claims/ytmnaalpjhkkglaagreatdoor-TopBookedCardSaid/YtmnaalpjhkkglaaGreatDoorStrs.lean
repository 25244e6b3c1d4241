/-
  From a walk that ends in true, with nothing old turned, to the statement's row.
-/
import Derived.Test.YtmnaalpjhkkglaaGreatDoorArr
import Derived.Carry
import Derived.ChangeSame
import Derived.Handed
import Derived.JoinedOf
import Derived.OpenShut
import Derived.WalkKit
import Derived.ProofKit
import Derived.Lib.SmallJoins
import Derived.Deep.Slices
import Derived.SliceStrings
import Derived.Test.YtmnaalpjhkkglaaGreatDoorRow
import Derived.SizedLaws
import Derived.ChangeMaps5
import Derived.Lib.Builder
import Derived.Lib.UnsafeStr
import Derived.Lib.Bytealg
import Derived.Lib.SlBytesConst
set_option linter.all false
namespace Hold
open Go Go.ChangeShapes Go.WideShapes Go.RowKit

theorem trodAll_below {H : Type} {enc : TypeId × Value → H} {P : Program} (hl : laidOutB P = true) {W W' : World} (hb : Below W.heap.size W W') {sp : Nat → Bool} :
    ∀ {ts : List TypeId} {vs : List Value} {ds : List (DataW H)} {ps : List MemPlace}, (∀ t ∈ ts, P.readableRec t = true ∧ t < P.types.size) → (∀ x ∈ ps, x.block < W.heap.size) → (∀ x ∈ ps, sp x.block = true) →
      DataW.TrodAll enc P W 0 (fun _ => true) true ts vs ds ps → DataW.TrodAll enc P W' 0 sp true ts vs ds ps
  | [], _, _, _, _, _, _, h => by
    obtain ⟨rfl, rfl, rfl⟩ := trodAll_nil h
    exact trodAll_mk0
  | t :: ts, _, _, _, ht, hlt, hs, h => by
    obtain ⟨v, vs, d, ds, p, q, rfl, rfl, rfl, h1, h2⟩ := trodAll_cons h
    have h1' := WideElems.Trod_stays hl (ht t (by simp)).1 (ht t (by simp)).2 h1 (fun x hx => hb.same (hlt x (List.mem_append_left _ hx))) (fun x hx => hs x (List.mem_append_left _ hx))
    have h2' := trodAll_below hl hb (fun t h => ht t (List.mem_cons_of_mem _ h)) (fun x hx => hlt x (List.mem_append_right _ hx)) (fun x hx => hs x (List.mem_append_right _ hx)) h2
    exact ⟨p, q, h1', h2', rfl⟩

theorem law_post {H : Type} {enc : TypeId × Value → H} {P : Program} {f : Func} {s : ChangeSpec} {apart fresh handsOn again : Bool} {W W' : World} {args : Array Value} {ds gs : List (DataW H)} {before : List MemPlace} {tb : TypeId}
    (hl : laidOutB P = true) (hp : ∀ t ∈ f.params.toList, P.readableRec t = true ∧ t < P.types.size) (hrt : f.resultTypes = #[tb]) (htb : P.underlying tb = some .bool)
    (hv : s.vars = []) (hs : s.fn H ds = { results := [.lit (.bool true)], args := ds }) (hW : DataW.Whole enc P f.params.toList s.vars apart W args.toList ds gs before) (hb : Below W.heap.size W W') :
    s.post enc P f apart fresh handsOn again W args (.bool true) W' := by
  have hW0 := hW
  have hlt : ∀ x ∈ before, x.block < W.heap.size := fun x hx => by simpa using hW.lt x hx
  obtain ⟨p, q, hA, hV, rfl, hz, hn⟩ := hW
  rw [hv] at hV
  obtain ⟨rfl, rfl⟩ := trodVars_none hV
  simp only [List.append_nil] at hlt hz hn
  have hold : ∀ x ∈ p, (fun b => decide (b < W.heap.size)) x.block = true := fun x hx => by simpa using hlt x hx
  have hres : ∀ (b : Nat) (sp : Nat → Bool) (hd : Bool), DataW.TrodAll enc P W' b sp hd f.resultTypes.toList ((Value.bool true).resultList f.resultTypes.size) (s.fn H (ds ++ [])).results [] := fun b sp hd => by
    rw [List.append_nil, hs, hrt]
    exact trodAll_mk1 (shut_bool htb _)
  have hargs : ∀ sp : Nat → Bool, (∀ x ∈ p, sp x.block = true) → DataW.TrodAll enc P W' 0 sp true f.params.toList args.toList (s.fn H (ds ++ [])).args p := fun sp hsp => by
    rw [List.append_nil, hs]
    exact trodAll_below hl hb hp hlt hsp hA
  have hvars : ∀ sp : Nat → Bool, DataW.TrodVars enc P W' sp s.vars (s.fn H (ds ++ [])).vars [] := fun sp => by
    rw [List.append_nil, hs, hv]
    rfl
  have hz' : ∀ b off, MemPlace.cell b off ∈ p → W'.frozen? ⟨b, off, none⟩ = W.frozen? ⟨b, off, none⟩ := fun b off hx => hb.frozen (hlt _ hx)
  refine ⟨ds, [], p ++ [], [], p, [], hW0, hres _ _ _, hargs _ hold, hvars _, hb.frame _, fun _ => ?_⟩
  refine ⟨?_, _, _, ([] ++ p) ++ [], ⟨[] ++ p, [], trodAll_append (hargs _ (fun _ _ => rfl)) (hres _ _ _), hvars _, rfl, ?_, ?_⟩, ?_⟩
  · exact ok_one hrt rfl (okWide_bool_mk htb _)
  · intro b off hx
    rw [hz' b off (by simpa using hx)]
    exact hz b off (by simpa using hx)
  · intro ha
    simpa using hn ha
  · intro x hx _
    simpa using hx

/-- The fields of a struct type. -/
def fieldsOf (P : Program) (t : TypeId) : Array Field := match P.underlying t with | some (.struct fs) => fs | _ => #[]
def fieldOf (P : Program) (t : TypeId) (i : Nat) : Field := (fieldsOf P t).getD i ⟨"", 0, 0, false, "", "", 0⟩

/-- A law's step, from its walk. -/
theorem law_lifted {H : Type} {enc : TypeId × Value → H} {C : Checked} {os : Os} {f : FuncId} {fn : Func} {s : ChangeSpec} {conds : List PathCond} {apart fresh handsOn again : Bool} {tb : TypeId}
    (own : ownKnob C.prog.godebug = none) (started : os.Started) (noInit : C.prog.inits.idxOf? f = none) (hfn : C.prog.funcs[f]? = some fn)
    (witness : ∃ (w : World) (tape : Tape) (i : Input), w.os = os ∧ (w.forCall tape i).Shaped C.prog ∧ i.vars = [] ∧ Input.okWide C.prog (w.forCall tape i) .any w.heap.size f i ∧
      s.pre6 enc C.prog fn conds apart (w.forCall tape i).memory i.args ∧ ({} : Assume).holds C.prog (lone (Frame.enter C.prog f i.args .normal) [] (w.forCall tape i)))
    (hl : laidOutB C.prog = true) (hp : fn.params.toList.all (fun t => C.prog.readableRec t && decide (t < C.prog.types.size)) = true) (hrt : fn.resultTypes = #[tb]) (htb : C.prog.underlying tb = some .bool) (hv : s.vars = [])
    (hs : ∀ ds : List (DataW H), ds.length = fn.params.toList.length → s.fn H ds = { results := [.lit (.bool true)], args := ds })
    (walk : ∀ (W : World) (args : Array Value) (ds : List (DataW H)) (ps : List MemPlace), (∀ (j : Nat) t v, fn.params.toList[j]? = some t → args.toList[j]? = some v → ∃ base, Value.okWide C.prog W .any base t v) →
      DataW.TrodAll enc C.prog W 0 (fun _ => true) true fn.params.toList args.toList ds ps → Calls C.prog f args W (Ret fun v W' => v = .bool true ∧ Below W.heap.size W W')) :
    ReturnsInHanded {} C os f .any (s.pre6 enc C.prog fn conds apart) (s.post enc C.prog fn apart fresh handsOn again) := by
  refine returnsInHanded_of_change own started noInit hfn witness ?_
  intro W base args ds gs before hval hW _ _
  have hW' := hW
  obtain ⟨p, q, hA, _⟩ := hW
  have hlen : ∀ {ts : List TypeId} {vs : List Value} {ds : List (DataW H)} {ps : List MemPlace}, DataW.TrodAll enc C.prog W 0 (fun _ => true) true ts vs ds ps → ds.length = ts.length := by
    intro ts
    induction ts with
    | nil => intro vs ds ps h; obtain ⟨_, rfl, _⟩ := trodAll_nil h; rfl
    | cons t ts ih => intro vs ds ps h; obtain ⟨v, vs, d, ds, p, q, _, rfl, _, _, h2⟩ := trodAll_cons h; simp [ih h2]
  refine (walk W args ds p (fun j t v h1 h2 => ⟨base, hval j t v (by simpa using h1) (by simpa using h2)⟩) hA).mono fun e W' ⟨v, he, hv2, hb⟩ => ?_
  subst hv2
  refine ⟨_, he, law_post hl (fun t ht => ?_) hrt htb hv (hs ds (hlen hA)) hW' hb⟩
  have := List.all_eq_true.1 hp t ht
  simpa using this

/-- Cells that are read one by one, as a window. -/
theorem win_of_cells {w : World} {a : Addr} {xs : List Value} (h : ∀ (j : Nat) (v : Value), xs[j]? = some v → w.cell? (a.add j) = some v) : win (hp w) (some a) xs := by
  cases xs with
  | nil => exact .inl rfl
  | cons x r =>
    right
    have h0 := h 0 x rfl
    obtain ⟨b, o, sp⟩ := a
    cases sp with
    | some s => simp [Addr.add, World.cell?] at h0; split at h0 <;> simp_all
    | none =>
      unfold World.cell? at h0
      split at h0
      · rename_i c e fr hb
        refine ⟨b, o, c, e, fr, rfl, by simpa [Addr.add, hp] using hb, fun j v hj => ?_⟩
        have := h j v hj
        rw [add_addr] at this
        simpa [World.cell?, show w.heap[b]? = some (.cells c e fr) by simpa [Addr.add] using hb] using this
      · cases h0
theorem add_add (a : Addr) (m n : Nat) : (a.add m).add n = a.add (m + n) := by
  unfold Addr.add
  by_cases h1 : m = 0 <;> by_cases h2 : n = 0 <;> simp [h1, h2]
  all_goals omega
/-- Of the old world: what could be read there. -/
theorem rds_old {w : World} {v : Value} {n : Nat} {xs : List Value} (h : RdS (hp w) v n xs) : Rds (old w) v n xs := fun E w' hs =>
  h.mono fun b o hb => sat.old_get (hs.whole) hb
end Hold

/-
  Arguments, opened: bytes, texts.
-/
set_option linter.all false
namespace Hold
open Go Go.ChangeShapes Go.WideShapes Go.RowKit
variable {H : Type} {enc : TypeId × Value → H} {P : Program} {W : World} {r : Reach} {b0 : Nat} {v : Value} {d : DataW H} {p : List MemPlace}

theorem u8_wf {n : Int} (h : (Lit.int .u8 n).wf = true) : ∃ b : UInt8, Value.int .u8 n = bv b := by
  have hw : 0 ≤ n ∧ n ≤ 255 := by
    have := h
    simp only [Lit.wf, Bool.and_eq_true, decide_eq_true_eq] at this
    exact this
  refine ⟨UInt8.ofNat n.toNat, ?_⟩
  unfold bv
  congr 1
  simp
  omega
theorem open_bytesG {t e : TypeId} (ht : P.underlying t = some (.slice e)) (he : P.underlying e = some (.int .u8)) (hc : P.cellsOf e = 1)
    (hv : Value.okWide P W r b0 t v) (h : DataW.Trod enc P W 0 (fun _ => true) true t v d p) : ∃ l : List UInt8, Rds (old W) v l.length (l.map bv) ∧ l.length ≤ 9223372036854775807 := by
  obtain ⟨a, len, cap, rfl⟩ := okWide_slice ht hv
  obtain ⟨fuel, hf⟩ := h
  rcases open_ints (k := .u8) ht he hc hf with ⟨e, _⟩ | ⟨a', len', cap', zs, e, _, hlc, hcm, hz, _, hx, hwf⟩
  · simp [Value.cells] at e
    obtain ⟨rfl, rfl, rfl⟩ := e
    exact ⟨[], rds_old ⟨none, 0, rfl, Nat.le_refl _, .inl rfl⟩, by simp⟩
  · simp [Value.cells] at e
    obtain ⟨rfl, rfl, rfl⟩ := e
    simp at hz
    have hz2 : ∀ z ∈ zs, Value.int .u8 z = bv (UInt8.ofNat z.toNat) := fun z hzm => by
      obtain ⟨b, hb⟩ := u8_wf (hwf z hzm)
      have : z = b.toNat := by simpa [bv] using hb
      rw [this]; simp [bv]
    have hl : ((zs.take len).map fun z : Int => UInt8.ofNat z.toNat).length = len := by simp; omega
    refine ⟨(zs.take len).map fun z : Int => UInt8.ofNat z.toNat, ?_, by rw [hl]; simp only [maxLen] at hcm; omega⟩
    rw [hl]
    refine rds_old ⟨some a', cap, rfl, hlc, win_of_cells fun j v hj => ?_⟩
    have hj2 := (List.getElem?_eq_some_iff.1 hj).1
    simp at hj2
    rw [hx j (by omega)]
    rw [List.getElem?_map, List.getElem?_map, List.getElem?_take, if_pos (by omega), List.getElem?_eq_getElem (by omega)] at hj
    simp only [Option.map_some, Option.some.injEq] at hj
    rw [← hj, List.getD_eq_getElem?_getD, List.getElem?_eq_getElem (by omega)]
    simp only [Option.getD_some]
    rw [hz2 _ (List.getElem_mem _)]
theorem open_textsG {t e : TypeId} (ht : P.underlying t = some (.slice e)) (he : P.underlying e = some .string) (hc : P.cellsOf e = 1)
    (hv : Value.okWide P W r b0 t v) (h : DataW.Trod enc P W 0 (fun _ => true) true t v d p) : ∃ cs : List (List UInt8), Rds (old W) v cs.length (cs.map tv) ∧ cs.length ≤ 9223372036854775807 := by
  obtain ⟨a, len, cap, rfl⟩ := okWide_slice ht hv
  obtain ⟨fuel, hf⟩ := h
  rcases open_strings ht he hc hf with ⟨e, _⟩ | ⟨a', len', cap', ss, e, _, hlc, hcm, hz, _, hx, _⟩
  · simp [Value.cells] at e
    obtain ⟨rfl, rfl, rfl⟩ := e
    exact ⟨[], rds_old ⟨none, 0, rfl, Nat.le_refl _, .inl rfl⟩, by simp⟩
  · simp [Value.cells] at e
    obtain ⟨rfl, rfl, rfl⟩ := e
    simp at hz
    have hl : ((ss.take len).map fun s : ByteArray => s.data.toList).length = len := by simp; omega
    refine ⟨(ss.take len).map fun s : ByteArray => s.data.toList, ?_, by rw [hl]; simp only [maxLen] at hcm; omega⟩
    rw [hl]
    refine rds_old ⟨some a', cap, rfl, hlc, win_of_cells fun j v hj => ?_⟩
    have hj2 := (List.getElem?_eq_some_iff.1 hj).1
    simp at hj2
    rw [hx j (by omega)]
    rw [List.getElem?_map, List.getElem?_map, List.getElem?_take, if_pos (by omega), List.getElem?_eq_getElem (by omega)] at hj
    simp only [Option.map_some, Option.some.injEq] at hj
    rw [← hj, List.getD_eq_getElem?_getD, List.getElem?_eq_getElem (by omega)]
    simp [tv]
end Hold

/-
  The form's own reach handed on: each argument's size is bounded; openers of arguments with it.
-/
set_option linter.all false
namespace Hold
open Go Go.ChangeShapes Go.WideShapes Go.RowKit

/-- A law's step, from its walk; the arguments' sizes are handed on. -/
theorem law_liftedS {H : Type} {enc : TypeId × Value → H} {C : Checked} {os : Os} {f : FuncId} {fn : Func} {s : ChangeSpec} {conds : List PathCond} {apart fresh handsOn again : Bool} {tb : TypeId}
    (own : ownKnob C.prog.godebug = none) (started : os.Started) (noInit : C.prog.inits.idxOf? f = none) (hfn : C.prog.funcs[f]? = some fn)
    (witness : ∃ (w : World) (tape : Tape) (i : Input), w.os = os ∧ (w.forCall tape i).Shaped C.prog ∧ i.vars = [] ∧ Input.okWide C.prog (w.forCall tape i) .any w.heap.size f i ∧
      s.pre6 enc C.prog fn conds apart (w.forCall tape i).memory i.args ∧ ({} : Assume).holds C.prog (lone (Frame.enter C.prog f i.args .normal) [] (w.forCall tape i)))
    (hl : laidOutB C.prog = true) (hp : fn.params.toList.all (fun t => C.prog.readableRec t && decide (t < C.prog.types.size)) = true) (hrt : fn.resultTypes = #[tb]) (htb : C.prog.underlying tb = some .bool) (hv : s.vars = [])
    (hs : ∀ ds : List (DataW H), ds.length = fn.params.toList.length → s.fn H ds = { results := [.lit (.bool true)], args := ds })
    (walk : ∀ (W : World) (args : Array Value) (ds : List (DataW H)) (ps : List MemPlace), (∀ (j : Nat) t v, fn.params.toList[j]? = some t → args.toList[j]? = some v → ∃ base, Value.okWide C.prog W .any base t v) →
      DataW.TrodAll enc C.prog W 0 (fun _ => true) true fn.params.toList args.toList ds ps →
      (∀ (j : Nat) t d, fn.params.toList[j]? = some t → ds[j]? = some d → ∀ n ∈ d.weights C.prog t, n ≤ 140737488351232) → Calls C.prog f args W (Ret fun v W' => v = .bool true ∧ Below W.heap.size W W')) :
    ReturnsInHanded {} C os f .any (s.pre6 enc C.prog fn conds apart) (s.post enc C.prog fn apart fresh handsOn again) := by
  refine returnsInHanded_of_change_sized own started noInit hfn witness ?_
  intro W base args ds gs before hval hW _ hsz _
  have hW' := hW
  obtain ⟨p, q, hA, hV, _⟩ := hW
  have hlen : ∀ {ts : List TypeId} {vs : List Value} {ds : List (DataW H)} {ps : List MemPlace}, DataW.TrodAll enc C.prog W 0 (fun _ => true) true ts vs ds ps → ds.length = ts.length := by
    intro ts
    induction ts with
    | nil => intro vs ds ps h; obtain ⟨_, rfl, _⟩ := trodAll_nil h; rfl
    | cons t ts ih => intro vs ds ps h; obtain ⟨v, vs, d, ds, p, q, _, rfl, _, _, h2⟩ := trodAll_cons h; simp [ih h2]
  have hw : ∀ (j : Nat) t d, fn.params.toList[j]? = some t → ds[j]? = some d → ∀ n ∈ d.weights C.prog t, n ≤ 140737488351232 := fun j t d h1 h2 n hn => by
    have l1 := (List.getElem?_eq_some_iff.1 h1).1
    have l2 := (List.getElem?_eq_some_iff.1 h2).1
    have := List.all_eq_true.1 hsz _ (DataW.weights_mem_each (j := j) (t := t) (d := d) (by rw [List.getElem?_append_left l1]; exact h1) (by rw [List.getElem?_append_left l2]; exact h2) n hn)
    have e : reachBytes = 140737488351232 := by decide
    rw [e] at this
    simpa using this
  refine (walk W args ds p (fun j t v h1 h2 => ⟨base, hval j t v (by simpa using h1) (by simpa using h2)⟩) hA hw).mono fun e W' ⟨v, he, hv2, hb⟩ => ?_
  subst hv2
  refine ⟨_, he, law_post hl (fun t ht => ?_) hrt htb hv (hs ds (hlen hA)) hW' hb⟩
  have := List.all_eq_true.1 hp t ht
  simpa using this

variable {H : Type} {enc : TypeId × Value → H} {P : Program} {W : World} {r : Reach} {b0 : Nat} {v : Value} {d : DataW H} {p : List MemPlace}
theorem open_bytesS {t e : TypeId} (ht : P.underlying t = some (.slice e)) (he : P.underlying e = some (.int .u8)) (hc : P.cellsOf e = 1) (h1 : P.bytesOf e = 1)
    (hv : Value.okWide P W r b0 t v) (h : DataW.Trod enc P W 0 (fun _ => true) true t v d p) (hw : ∀ n ∈ d.weights P t, n ≤ 140737488351232) : ∃ l : List UInt8, Rds (old W) v l.length (l.map bv) ∧ l.length ≤ 140737488351232 := by
  obtain ⟨l, hr, _⟩ := open_bytesG ht he hc hv h
  refine ⟨l, hr, ?_⟩
  obtain ⟨a, len, cap, rfl⟩ := okWide_slice ht hv
  obtain ⟨a2, c2, e2, hc2, _⟩ := hr _ W (sat.start W)
  cases e2
  obtain ⟨fuel, hf⟩ := h
  rcases open_ints (k := .u8) ht he hc hf with ⟨e, _⟩ | ⟨a', len', cap', zs, e, _, hlc, hcm, hz, hd, hx, hwf⟩
  · simp [Value.cells] at e
    omega
  · simp [Value.cells] at e
    obtain ⟨rfl, rfl, rfl⟩ := e
    simp at hd
    obtain ⟨rfl, _⟩ := hd
    simp at hz
    have := hw ((lits (H := H) .u8 (zs.take l.length)).length + (lits (H := H) .u8 (zs.drop l.length)).length) (by simp [DataW.weights, ht, h1])
    simp [lits] at this
    omega
theorem weightsAll_mem {e : TypeId} : ∀ {ds : List (DataW H)} {d : DataW H}, d ∈ ds → ∀ n ∈ d.weights P e, n ∈ DataW.weightsAll P e ds
  | x :: ds, d, hd, n, hn => by
    simp only [DataW.weightsAll, List.mem_append]
    rcases List.mem_cons.1 hd with rfl | hd
    · exact .inl hn
    · exact .inr (weightsAll_mem hd n hn)
theorem open_textsS {t e : TypeId} (ht : P.underlying t = some (.slice e)) (he : P.underlying e = some .string) (hc : P.cellsOf e = 1) (h1 : P.bytesOf e = 16)
    (hv : Value.okWide P W r b0 t v) (h : DataW.Trod enc P W 0 (fun _ => true) true t v d p) (hw : ∀ n ∈ d.weights P t, n ≤ 140737488351232) :
    ∃ cs : List (List UInt8), Rds (old W) v cs.length (cs.map tv) ∧ cs.length * 16 ≤ 140737488351232 ∧ ∀ c ∈ cs, c.length ≤ 140737488351232 := by
  obtain ⟨a, len, cap, rfl⟩ := okWide_slice ht hv
  obtain ⟨fuel, hf⟩ := h
  rcases open_strings ht he hc hf with ⟨e, _⟩ | ⟨a', len', cap', ss, e, _, hlc, hcm, hz, hd, hx, _⟩
  · simp [Value.cells] at e
    obtain ⟨rfl, rfl, rfl⟩ := e
    exact ⟨[], rds_old ⟨none, 0, rfl, Nat.le_refl _, .inl rfl⟩, by simp, by simp⟩
  · simp [Value.cells] at e
    obtain ⟨rfl, rfl, rfl⟩ := e
    simp at hz
    simp only [Prod.mk.injEq] at hd
    obtain ⟨rfl, _⟩ := hd
    have hl : ((ss.take len).map fun s : ByteArray => s.data.toList).length = len := by simp; omega
    have hw1 := hw (((strs (H := H) (ss.take len)).length + (strs (H := H) (ss.drop len)).length) * P.bytesOf e) (by simp [DataW.weights, ht])
    rw [h1] at hw1
    have hlt : (strs (H := H) (ss.take len)).length = len := by simp [strs]; omega
    refine ⟨(ss.take len).map fun s : ByteArray => s.data.toList, ?_, ?_, ?_⟩
    · rw [hl]
      refine rds_old ⟨some a', cap, rfl, hlc, win_of_cells fun j v hj => ?_⟩
      have hj2 := (List.getElem?_eq_some_iff.1 hj).1
      simp at hj2
      rw [hx j (by omega)]
      rw [List.getElem?_map, List.getElem?_map, List.getElem?_take, if_pos (by omega), List.getElem?_eq_getElem (by omega)] at hj
      simp only [Option.map_some, Option.some.injEq] at hj
      rw [← hj, List.getD_eq_getElem?_getD, List.getElem?_eq_getElem (by omega)]
      simp [tv]
    · rw [hl]
      rw [hlt, Nat.add_mul] at hw1
      omega
    · intro c hcm2
      obtain ⟨s, hs, rfl⟩ := List.mem_map.1 hcm2
      refine hw s.data.toList.length ?_
      simp only [DataW.weights, ht]
      refine List.mem_cons_of_mem _ (List.mem_append_left _ (weightsAll_mem (d := .lit (.string s.data.toList)) ?_ _ (by simp [DataW.weights])))
      simp only [strs, List.mem_map]
      exact ⟨s, hs, rfl⟩
theorem open_textS {t : TypeId} (ht : P.underlying t = some .string) (hv : Value.okWide P W r b0 t v) (h : DataW.Trod enc P W 0 (fun _ => true) true t v d p) (hw : ∀ n ∈ d.weights P t, n ≤ 140737488351232) :
    ∃ l : List UInt8, v = tv l ∧ l.length ≤ 140737488351232 := by
  obtain ⟨s, rfl, rfl, _, _⟩ := Go.ChangeMaps.open_string ht hv h
  refine ⟨s.data.toList, by simp [tv], ?_⟩
  exact hw _ (by simp [DataW.weights])
theorem open_intG {t : TypeId} (ht : P.underlying t = some (.int .i64)) (hv : Value.okWide P W r b0 t v) (h : DataW.Trod enc P W 0 (fun _ => true) true t v d p) :
    ∃ n : Int, v = .int .i64 n ∧ (-9223372036854775808 ≤ n ∧ n ≤ 9223372036854775807) := by
  obtain ⟨n, rfl, _, _, hw⟩ := open_int ht hv h
  refine ⟨n, rfl, ?_⟩
  simpa [Lit.wf, IntKind.min, IntKind.max, IntKind.signed, IntKind.bits] using hw
theorem open_u8G {t : TypeId} (ht : P.underlying t = some (.int .u8)) (hv : Value.okWide P W r b0 t v) (h : DataW.Trod enc P W 0 (fun _ => true) true t v d p) : ∃ b : UInt8, v = bv b := by
  obtain ⟨n, rfl, _, _, hw⟩ := open_int ht hv h
  exact u8_wf hw
/-- An array of bytes. -/
theorem open_arrB {t e : TypeId} {n : Nat} (ht : P.underlying t = some (.array n e)) (he : P.underlying e = some (.int .u8)) (hc : P.cellsOf e = 1) (hct : P.cellsOf t = n)
    (hv : Value.okWide P W r b0 t v) (h : DataW.Trod enc P W 0 (fun _ => true) true t v d p) : ∃ l : List UInt8, v = .agg (l.map bv).toArray ∧ l.length = n := by
  simp only [Value.okWide, ht] at hv
  obtain ⟨cs, rfl, h2, _⟩ := hv
  obtain ⟨fuel, hf⟩ := h
  obtain ⟨xs, m, rfl, _, hl, hxl, hx⟩ := DataW.trod_array ht hf
  simp only [Value.cells] at hl hx
  rw [hct] at hl
  have hb : ∀ i, i < n → ∃ b : UInt8, cs.toList[i]? = some (bv b) := fun i hi => by
    have := hx i hi
    rw [hc, Nat.mul_one] at this
    rw [List.getElem?_eq_getElem (by omega)] at this
    obtain ⟨z, hz, _, hwf⟩ := DataW.trod_int he this
    obtain ⟨b, hb⟩ := u8_wf hwf
    refine ⟨b, ?_⟩
    rw [← hb]
    have h0 : ((cs.toList.drop i).take 1)[0]? = some (Value.int .u8 z) := by rw [hz]; rfl
    rw [List.getElem?_take, if_pos (by omega), List.getElem?_drop] at h0
    simpa using h0
  have key : ∀ (L : List Value), (∀ i, i < L.length → ∃ b : UInt8, L[i]? = some (bv b)) → ∃ l : List UInt8, L = l.map bv := by
    intro L
    induction L with
    | nil => intro _; exact ⟨[], rfl⟩
    | cons x L ih =>
      intro hL
      obtain ⟨b, hb0⟩ := hL 0 (by simp)
      obtain ⟨l, rfl⟩ := ih fun i hi => by
        obtain ⟨b, hb⟩ := hL (i + 1) (by simpa using hi)
        exact ⟨b, by simpa using hb⟩
      simp at hb0
      exact ⟨b :: l, by simp [hb0]⟩
  obtain ⟨l, hl2⟩ := key cs.toList (fun i hi => hb i (by simp at hl hi; omega))
  have hln : l.length = n := by
    have := congrArg List.length hl2
    simp at this hl
    omega
  exact ⟨l, by rw [← hl2], hln⟩
end Hold

/-
  Strings: joined, cut, indexed; made bytes and back; a builder's string.
-/
set_option linter.all false
namespace Hold
open Go
section
variable {P : Program} {E : World0} {w : World} {H R : HP} {K : Value → World → Prop}
theorem rds_row {b e n c : Nat} {xs sp : List Value} {fr : Nat × Nat} [hb : Has H b (.cells (xs ++ sp).toArray e fr)] (hc : n ≤ c) : Rds H (.slice (some ⟨b, 0, none⟩) n c) n xs := fun E w hs =>
  ⟨_, c, rfl, hc, .inr ⟨b, 0, _, _, _, rfl, hb.get hs, fun j v hj => by
    have hlt := (List.getElem?_eq_some_iff.1 hj).1
    simpa [List.getElem?_append_left hlt] using hj⟩⟩
/-- []byte(s). -/
theorem conv_sb (h : sat E w H) {s d e n m : TypeId} {z : Value} [i : Ul P s .string] [j : SliceT P d e n m z] [q : Ul P e (.int .u8)] {l : List UInt8}
    (k : ∀ b c sp fr w', sat E w' (pts b (.cells (l.map bv ++ sp).toArray e fr) * H) → l.length ≤ c → K (.slice (some ⟨b, 0, none⟩) l.length c) w') : efv P (convert s d (tv l)) w K := by
  have hsz : (⟨l.toArray⟩ : ByteArray).size = l.length := by simp [ByteArray.size]
  have hr := run_bytes_of_string (P := P) w s d e ⟨l.toArray⟩ i.ul j.ul q.ul
  rw [hsz] at hr
  have hge : l.length ≤ grownCap w l.length 0 e := grownCap_ge w l.length 0 e
  have e1 : bytesRow ⟨l.toArray⟩ (grownCap w l.length 0 e) = (l.map bv ++ List.replicate (grownCap w l.length 0 e - l.length) (Value.int .u8 0)).toArray := by
    apply Array.ext'
    simp [bytesRow, bv, ByteArray.size]
  rw [e1] at hr
  exact efv_of hr (k _ _ _ _ _ (h.drew.alloc _) hge)
/-- A block's mark. -/
theorem sat.setO {b : Nat} {o : Obj} (h : sat E w (pts b o * R)) (o' : Obj) {w' : World} (hw : w' = w.putObj b o') : sat E w' (pts b o' * R) := by subst hw; exact h.set o'
theorem freeze_put {b n : Nat} {xs : Array Value} {e : TypeId} {o : Nat} (h : w.heap[b]? = some (.cells xs e (0, 0))) (hn : n ≠ 0) : w.freeze ⟨b, o, none⟩ n = w.putObj b (.cells xs e (o, o + n)) := by
  have hlt := (Array.getElem?_eq_some_iff.1 h).1
  unfold World.freeze World.putObj
  rw [if_neg hn]
  congr 1
  refine Array.ext_getElem? fun i => ?_
  rw [Array.getElem?_modify, Array.getElem?_setIfInBounds]
  by_cases hi : b = i
  · subst hi
    have hx : w.heap[b] = .cells xs e (0, 0) := (Array.getElem?_eq_some_iff.1 h).2
    simp [hlt, hx]
  · simp [hi]
theorem conv_const (h : sat E w H) {t e n m : TypeId} {z : Value} [i : SliceT P t e n m z] [q : Ul P e (.int .u8)] {b l c : Nat} {xs : Array Value} [s : Own H b (.cells xs e (0, 0)) R]
    (k : ∀ fr w', sat E w' (pts b (.cells xs e fr) * R) → K (.slice (some ⟨b, 0, none⟩) l c) w') : efv P (convert t t (.slice (some ⟨b, 0, none⟩) l c)) w K := by
  have hs := h.own b
  have hb := hs.pts_get
  have hsh : w.shape? b = some (e, xs.size) := by simp [World.shape?, hb]
  refine efv_of (v := .slice (some ⟨b, 0, none⟩) l c) (w' := w.freeze ⟨b, xs.size, none⟩ 1) ?_ (k _ _ (hs.setO _ (freeze_put hb (by decide))))
  simp [convert, run_underlying' i.ul, run_underlying' q.ul, markStringish, hsh]
theorem o_catT {t : TypeId} {a b : List UInt8} (hl : a.length + b.length ≤ 9223372036854775807) : pvv P (binOp .add t (tv a) (tv b)) w K = K (tv (a ++ b)) w := pvv_eq fun w => by
  have h1 : ¬ (9223372036854775807 : Int) < ((a.length : Int) + (b.length : Int)) := by omega
  have hm : IntKind.i64.max = 9223372036854775807 := rfl
  have h2 : ¬ ((((⟨a.toArray⟩ : ByteArray).size + (⟨b.toArray⟩ : ByteArray).size : Nat) : Int) > IntKind.i64.max) := by
    rw [hm]; simp only [ByteArray.size, List.size_toArray]; omega
  have e : (⟨a.toArray⟩ ++ ⟨b.toArray⟩ : ByteArray) = ⟨(a ++ b).toArray⟩ := by
    apply ByteArray.ext
    simp
  unfold tv
  simp only [binOp, Op.stringOp]
  rw [if_neg h2, e]
  rfl
theorem o_indexT {t : TypeId} [i : Ul P t .string] {l : List UInt8} {k : IntKind} {x : Int} (h0 : 0 ≤ x) (h1 : x.toNat < l.length) : pvv P (Instr.index t (tv l) (.int k x)) w K = K (bv (l.getD x.toNat 0)) w := by
  have hs : x.toNat < (⟨l.toArray⟩ : ByteArray).size := by simpa [ByteArray.size] using h1
  have e : (⟨l.toArray⟩ : ByteArray)[x.toNat]'hs = l.getD x.toNat 0 := by
    have e2 : (⟨l.toArray⟩ : ByteArray)[x.toNat]'hs = l[x.toNat]'h1 := rfl
    rw [e2, List.getD_eq_getElem?_getD, List.getElem?_eq_getElem h1]; rfl
  unfold tv
  rw [o_indexS h0 hs, e]
  rfl
theorem o_sliceT {t : TypeId} [i : Ul P t .string] {l : List UInt8} {k k' : IntKind} {x y : Int} (h0 : 0 ≤ x) (h1 : x ≤ y) (h2 : y ≤ l.length) :
    pvv P (Instr.sliceAt t (tv l) (some (.int k x)) (some (.int k' y)) none) w K = K (tv ((l.drop x.toNat).take (y.toNat - x.toNat))) w := pvv_eq fun w => by
  obtain ⟨x, rfl⟩ := Int.eq_ofNat_of_zero_le h0
  obtain ⟨y, rfl⟩ := Int.eq_ofNat_of_zero_le (show 0 ≤ y by omega)
  have h1' : x ≤ y := by omega
  have h2' : y ≤ l.length := by omega
  have e : (⟨l.toArray⟩ : ByteArray).extract x y = ⟨((l.drop x).take (y - x)).toArray⟩ := by
    apply ByteArray.ext
    simp [ByteArray.data_extract, List.drop_take]
  have hsz : (⟨l.toArray⟩ : ByteArray).size = l.length := by simp [ByteArray.size]
  unfold tv
  rw [Int.toNat_natCast, Int.toNat_natCast, ← e]
  simp [Instr.sliceAt, Instr.slice, Instr.sliceBounds, Instr.sliceBound, asIntOf, run_underlying' i.ul, hsz, h1', h2']
/-- A call of a function without a body that the model carries out at once. -/
theorem ef_ext {f : FuncId} {args : Array Value} {v : Value} (hr : ∀ w, (oCall (.func (.func f) #[] #[]) args).run P w = .ok (.value v) w) (k : K v w) : ef P (oCall (.func (.func f) #[] #[]) args) w K := ef_of (hr w) k
theorem unsafe_data {t u : TypeId} {cs : Array Bool} {a : Addr} {n c : Nat} (hc : c ≠ 0) (k : K (.pointer (some a)) w) : ef P (oBi .unsafeSliceData #[t] u cs #[.slice (some a) n c]) w K := by
  refine ef_of (v := .pointer (some a)) (w' := w) ?_ k
  have := Lib.run_unsafeSliceData_row (P := P) (w := w) #[t] u a n c hc
  simp [oBi, builtin, this]
theorem unsafe_str (h : sat E w H) {pt it ty e : TypeId} {cs : Array Bool} [i : Ul P pt (.pointer e)] (hce : P.cellsOf e = 1) {b : Nat} {l : List UInt8} {sp : List Value} [s : Own H b (.cells (l.map bv ++ sp).toArray e (0, 0)) R] (h0 : l ≠ []) (h63 : l.length ≤ 9223372036854775807)
    (k : ∀ fr w', sat E w' (pts b (.cells (l.map bv ++ sp).toArray e fr) * R) → K (tv l) w') : ef P (oBi .unsafeString #[pt, it] ty cs #[.pointer (some ⟨b, 0, none⟩), .int .i64 l.length]) w K := by
  have hs := h.own b
  have hb := hs.pts_get
  have hl : l.length ≠ 0 := by simpa using h0
  have hr := Lib.run_unsafeString_row (P := P) (w := w) pt it ty e i.ul hce b _ (by simp [World.shape?, hb]; rfl) l h0 (by simp) h63 (fun j x hj => by
    rw [add_addr]
    have hlt := (List.getElem?_eq_some_iff.1 hj).1
    refine cell_of hb ?_
    simp [List.getElem?_append_left, hlt, bv]
    exact (List.getElem?_eq_some_iff.1 hj).2 ▸ rfl)
  refine ef_of (v := tv l) (w' := w.freeze ⟨b, 0, none⟩ l.length) ?_ (k _ _ (hs.setO _ (freeze_put hb hl)))
  simp [oBi, builtin, hr, tv]
theorem o_sliceT_l {t : TypeId} [i : Ul P t .string] {l : List UInt8} {k : IntKind} {x : Int} (h0 : 0 ≤ x) (h1 : x ≤ l.length) :
    pvv P (Instr.sliceAt t (tv l) (some (.int k x)) none none) w K = K (tv (l.drop x.toNat)) w := pvv_eq fun w => by
  obtain ⟨x, rfl⟩ := Int.eq_ofNat_of_zero_le h0
  have h1' : x ≤ l.length := by omega
  have e : (⟨l.toArray⟩ : ByteArray).extract x l.length = ⟨(l.drop x).toArray⟩ := by
    apply ByteArray.ext
    simp [ByteArray.data_extract]
    exact List.take_of_length_le (by simp)
  have hsz : (⟨l.toArray⟩ : ByteArray).size = l.length := by simp [ByteArray.size]
  unfold tv
  rw [Int.toNat_natCast, ← e]
  simp [Instr.sliceAt, Instr.slice, Instr.sliceBounds, Instr.sliceBound, asIntOf, run_underlying' i.ul, hsz, h1']
theorem o_sliceT_h {t : TypeId} [i : Ul P t .string] {l : List UInt8} {k : IntKind} {x : Int} (h0 : 0 ≤ x) (h1 : x ≤ l.length) :
    pvv P (Instr.sliceAt t (tv l) none (some (.int k x)) none) w K = K (tv (l.take x.toNat)) w := pvv_eq fun w => by
  obtain ⟨x, rfl⟩ := Int.eq_ofNat_of_zero_le h0
  have h1' : x ≤ l.length := by omega
  have e : (⟨l.toArray⟩ : ByteArray).extract 0 x = ⟨(l.take x).toArray⟩ := by
    apply ByteArray.ext
    simp [ByteArray.data_extract]
  have hsz : (⟨l.toArray⟩ : ByteArray).size = l.length := by simp [ByteArray.size]
  unfold tv
  rw [Int.toNat_natCast, ← e]
  simp [Instr.sliceAt, Instr.slice, Instr.sliceBounds, Instr.sliceBound, asIntOf, run_underlying' i.ul, hsz, h1']
/-- The order of texts. -/
def lexB : List UInt8 → List UInt8 → Bool
  | [], [] => false
  | [], _ :: _ => true
  | _ :: _, [] => false
  | a :: as, b :: bs => if a = b then lexB as bs else decide (a < b)
theorem bytesLess_lexB : ∀ a b : List UInt8, Op.bytesLess a b = lexB a b
  | [], [] => rfl
  | [], _ :: _ => rfl
  | _ :: _, [] => rfl
  | a :: as, b :: bs => by
    have ih := bytesLess_lexB as bs
    unfold Op.bytesLess lexB
    rw [ih]
    by_cases h : a = b
    · subst h; simp
    · by_cases h2 : a < b <;> simp [h, h2]
theorem o_lssT {t : TypeId} {a b : List UInt8} : pvv P (binOp .lss t (tv a) (tv b)) w K = K (.bool (lexB a b)) w := pvv_eq fun w => by
  have : (⟨a.toArray⟩ : ByteArray).toList = a ∧ (⟨b.toArray⟩ : ByteArray).toList = b := by simp [ByteArray.toList_eq]
  simp only [binOp, Op.stringOp, tv, this.1, this.2, bytesLess_lexB]
  rfl
end
end Hold
