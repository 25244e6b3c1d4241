/-
  Slices of bytes and of numbers, as they are read and owned.
-/
import Derived.Test.YtbcimkjgpplcpaaGreatDoorVc
import Derived.Laws.IdiomStrings
import Derived.Lib.BufferRead
import Derived.Carry
import Derived.ChangeSame
import Derived.Handed
import Derived.JoinedOf
import Derived.OpenShut
import Derived.WalkKit
import Derived.ProofKit
import Derived.Lib.SmallJoins
import Derived.Deep.Slices
import Derived.Lib.AppendStr
import Derived.Laws.IdiomCopy
import Derived.Laws.CopyRow
import Derived.SliceStrings
import Derived.Stop.BytesEq
import Derived.Lib.AppendZerosOnto
import Derived.Lib.AppendZeros
import Derived.SizedLaws
import Derived.ChangeMaps5
import Derived.Lib.Builder
import Derived.Lib.UnsafeStr
import Derived.Lib.Bytealg
import Derived.Lib.SlBytesConst
import Derived.Laws.StructEq
import Derived.Maps.RangeRun
import Derived.Sort.OwnSortedInts
set_option linter.all false
namespace Hold
open Go

/-- A byte as the model has it. -/
def bv (b : UInt8) : Value := .int .u8 b.toNat
/-- A slice whose elements read so. -/
def RdS (J : Hp) (v : Value) (n : Nat) (xs : List Value) : Prop := ∃ a c, v = .slice a n c ∧ n ≤ c ∧ win J a xs
/-- A slice of bytes that reads so. -/
def Rd (J : Hp) (v : Value) (l : List UInt8) : Prop := RdS J v l.length (l.map bv)

theorem win.mono {J J' : Hp} (hJ : ∀ b o, J b = some o → J' b = some o) {a : Option Addr} {xs : List Value} (h : win J a xs) : win J' a xs := by
  rcases h with h | ⟨b, o, cs, e, fr, h1, h2, h3⟩
  · exact .inl h
  · exact .inr ⟨b, o, cs, e, fr, h1, hJ _ _ h2, h3⟩
theorem RdS.mono {J J' : Hp} (hJ : ∀ b o, J b = some o → J' b = some o) {v : Value} {n : Nat} {xs : List Value} (h : RdS J v n xs) : RdS J' v n xs :=
  let ⟨a, c, h1, h2, h3⟩ := h; ⟨a, c, h1, h2, h3.mono hJ⟩
/-- It stays so for ever. -/
def immS (v : Value) (n : Nat) (xs : List Value) : PP := ⟨fun I => RdS I v n xs, fun hI h => h.mono hI⟩

/-- Wherever H holds, the slice reads so. -/
def Rds (H : HP) (v : Value) (n : Nat) (xs : List Value) : Prop := ∀ (E : World0) (w : World), sat E w H → RdS (hp w) v n xs
theorem Rds.right {H X : HP} {v : Value} {n : Nat} {xs : List Value} (h : Rds H v n xs) : Rds (X * H) v n xs := fun E w hs => h E w hs.drop
theorem Rds.left {H X : HP} {v : Value} {n : Nat} {xs : List Value} (h : Rds H v n xs) : Rds (H * X) v n xs := fun E w hs => h E w hs.drop'
theorem Rds.shape {H : HP} {v : Value} {n : Nat} {xs : List Value} (h : Rds H v n xs) {E : World0} {w : World} (hs : sat E w H) : ∃ a c, v = .slice a n c ∧ n ≤ c ∧ Rds H (.slice a n c) n xs ∧ (a = none → xs = []) := by
  obtain ⟨a, c, rfl, hc, hw⟩ := h E w hs
  refine ⟨a, c, rfl, hc, h, ?_⟩
  rintro rfl
  rcases hw with hw | ⟨_, _, _, _, _, ha, _⟩
  · exact hw
  · cases ha
theorem Rds.win {H : HP} {a : Option Addr} {n c : Nat} {xs : List Value} (h : Rds H (.slice a n c) n xs) {E : World0} {w : World} (hs : sat E w H) : win (hp w) a xs := by
  obtain ⟨a', c', e, _, hw⟩ := h E w hs
  cases e
  exact hw
theorem Rds.pers {v : Value} {n : Nat} {xs : List Value} : Rds (pers (immS v n xs)) v n xs := fun E w hs => (hs.whole).pers_get

section
variable {P : Program} {E : World0} {w : World} {H R : HP} {K : Value → World → Prop}

theorem osl_rd {e n : Nat} {v : Value} {xs : List Value} {sz : Nat} (h : sat E w (osl e sz v n xs * R)) : RdS (hp w) v n xs := by
  rcases sat_osl.1 h with ⟨rfl, rfl, rfl, hR⟩ | ⟨b, cap, sp, rfl, h1, h2, h3, h4, hP⟩
  · exact ⟨none, 0, rfl, Nat.le_refl _, .inl rfl⟩
  · refine ⟨_, cap, rfl, h3, .inr ⟨b, 0, _, e, (0, 0), rfl, hP.pts_get, fun j v hj => ?_⟩⟩
    have hlt := (List.getElem?_eq_some_iff.1 hj).1
    simpa [List.getElem?_append_left hlt] using hj
theorem Rds.osl {e n : Nat} {v : Value} {xs : List Value} {sz : Nat} : Rds (osl e sz v n xs) v n xs := fun E w hs => osl_rd hs.whole
/-- What is owned may be let stay. -/
theorem osl_freeze {e n : Nat} {v : Value} {xs : List Value} {sz : Nat} (h : sat E w (osl e sz v n xs * R)) : sat E w (pers (immS v n xs) * R) := by
  rcases sat_osl.1 h with ⟨rfl, rfl, rfl, hR⟩ | ⟨b, cap, sp, rfl, h1, h2, h3, h4, hP⟩
  · exact hR.mono fun I h' hp' => (pers_star_p _ _ _ _).2 ⟨⟨none, 0, rfl, Nat.le_refl _, .inl rfl⟩, hp'⟩
  · refine (hP.freeze).pers_mono (ψ := immS _ n xs) fun I hI => ⟨_, cap, rfl, h3, .inr ⟨b, 0, _, e, (0, 0), rfl, hI, fun j v hj => ?_⟩⟩
    have hlt := (List.getElem?_eq_some_iff.1 hj).1
    simpa [List.getElem?_append_left hlt] using hj
theorem bv_one (l : List UInt8) : ∀ x ∈ l.map bv, x.oneCell' = true := by
  intro x hx
  obtain ⟨b, _, rfl⟩ := List.mem_map.1 hx
  rfl
theorem win_cell {xs : List Value} {a : Option Addr} (h : win (hp w) a xs) {j : Nat} (hj : j < xs.length) : ∃ b o, a = some ⟨b, o, none⟩ ∧ w.cell? ⟨b, o + j, none⟩ = some xs[j] := by
  rcases h with rfl | ⟨b, o, cs, e, fr, h1, h2, h3⟩
  · simp at hj
  · exact ⟨b, o, h1, cell_of h2 (h3 j _ (List.getElem?_eq_getElem hj))⟩
theorem i64_of {n : Int} (h0 : -9223372036854775808 ≤ n) (h1 : n ≤ 9223372036854775807) : IntKind.i64.wrap n = n := by
  rw [IntKind.wrap_i64]; omega
/-- An owned slice, opened: its block; what closes it again. -/
theorem osl_open {e n sz : Nat} {v : Value} {xs : List Value} (h : sat E w (osl e sz v n xs * R)) (hn : 0 < n) :
    ∃ b c sp, v = .slice (some ⟨b, 0, none⟩) n c ∧ xs.length = n * sz ∧ n ≤ c ∧ sat E w (pts b (.cells (xs ++ sp).toArray e (0, 0)) * R) ∧
      ∀ {w' : World} {R' : HP} {xs' : List Value}, xs'.length = xs.length → sat E w' (pts b (.cells (xs' ++ sp).toArray e (0, 0)) * R') → sat E w' (osl e sz v n xs' * R') := by
  rcases sat_osl.1 h with ⟨rfl, rfl, rfl, hR⟩ | ⟨b, cap, sp, rfl, h1, h2, h3, h4, hP⟩
  · omega
  · refine ⟨b, cap, sp, rfl, h1, h3, hP, fun {w' R' xs'} hl h' => sat_osl.2 (.inr ⟨b, cap, sp, rfl, by omega, ?_, h3, h4, h'⟩)⟩
    rw [List.length_append] at h2 ⊢; omega
/-- A store into an owned slice. -/
theorem osl_store (h : sat E w H) {t e n b c : Nat} {i : Nat} {xs : List Value} {u : Value} [OneC P t] [s : OwnS H (.slice (some ⟨b, 0, none⟩) n c) e 1 n xs R] (hi : i < n) (hu : u.oneCell' = true)
    (k : ∀ w', sat E w' (osl e 1 (.slice (some ⟨b, 0, none⟩) n c) n (xs.set i u) * R) → K undef w') :
    efu P (Instr.storeAt t (.pointer (some ⟨b, i, none⟩)) u) w K := by
  obtain ⟨b', c', sp, hv, hl, hc, hP, hcl⟩ := osl_open (h.perm s.eq) (by omega)
  cases hv
  refine store_sl hP hu (by simp; omega) fun w' h' => k w' (hcl (xs' := xs.set i u) (by simp) ?_)
  rwa [List.set_append_left _ _ (by omega)] at h'
/-- The shape of an owned slice. -/
theorem osl_shape {e n sz : Nat} {v : Value} {xs : List Value} (h : sat E w (osl e sz v n xs * R)) : ∃ a c, v = .slice a n c ∧ n ≤ c ∧ xs.length = n * sz ∧ (0 < n → ∃ b, a = some ⟨b, 0, none⟩) := by
  rcases sat_osl.1 h with ⟨rfl, rfl, rfl, hR⟩ | ⟨b, cap, sp, rfl, h1, h2, h3, h4, hP⟩
  · exact ⟨none, 0, rfl, Nat.le_refl _, by simp, fun h => by omega⟩
  · exact ⟨_, cap, rfl, h3, h1, fun _ => ⟨b, rfl⟩⟩
theorem st_in (h : sat E w H) {g : Gd} {t b o e : Nat} {xs : List Value} {fr : Nat × Nat} {v : Value} {A : Prop} [i : OneC P t] [hb : Has H b (.cells xs.toArray e fr)] (hv : xs[o]? = some v) (k : A) :
    stv P g (Instr.loadAt t (.pointer (some ⟨b, o, none⟩))) v w A := st_cell (cell_of (hb.get h) (by simpa using hv)) k
theorem Rds.under {H0 H1 R1 : HP} {v : Value} {n : Nat} {xs : List Value} (h : Rds H1 v n xs) [s : Split H0 H1 R1] : Rds H0 v n xs := fun E w hs => h E w (hs.split H1).drop'
theorem set_fill {α : Type} {us : List α} {z x : α} {n i : Nat} (hi : us.length = i) (h : i < n) : (us ++ List.replicate (n - i) z).set i x = (us ++ [x]) ++ List.replicate (n - (i + 1)) z := by
  rw [List.set_append_right _ _ (by omega), hi, Nat.sub_self, show n - i = (n - (i + 1)) + 1 by omega, List.replicate_succ]
  simp
/-- string(b). -/
theorem conv_bs {s d e n m : TypeId} {z : Value} [i : SliceT P s e n m z] [j : Ul P e (.int .u8)] [q : Ul P d .string] {v : Value} {l : List UInt8} (hv : RdS (hp w) v l.length (l.map bv)) (k : K (.string ⟨l.toArray⟩) w) :
    efv P (convert s d v) w K := by
  obtain ⟨a, c, rfl, hc, hw⟩ := hv
  cases a with
  | none =>
    have : l = [] := by
      rcases hw with h | ⟨_, _, _, _, _, h, _⟩
      · simpa using h
      · cases h
    subst this
    exact efv_of (Lib.run_convert_nil_bytes w s d e c i.ul j.ul q.ul) k
  | some a =>
    refine efv_of (run_convert_bytes_back w s d e a c l i.ul j.ul q.ul fun x hx => ?_) k
    obtain ⟨b, o, ha, hb⟩ := win_cell hw (j := x) (by simpa using hx)
    cases ha
    rw [add_addr, hb]
    simp [bv]
/-- A range over a function with a body: its record, its rounds, its call. -/
theorem rng_body (h : sat E w H) {n : Nat} {f : FuncId} {cap : Array Value} {fn : Func} {rd : List Value → World → (World → (World → Prop) → Prop) → (Exit → World → Prop) → Prop} {Q : Option Code → Nat → World → Prop}
    (hf : P.funcs[f]? = some fn) (hn : (fn.name == "runtime.NumGoroutine") = false) (hb : fn.body.isNone = false)
    (k : ∀ (rec : LoopState → Option Code → Obj) (D D1 : Nat) (w1 : World), sat E w1 (pts D1 (rec .ready none) * (pts D (.deferred (some [])) * H)) →
      (∀ (σ : List Value) (W : World) (K : Value → World → Prop), σ.length = n → W.heap[D1]? = some (rec .ready none) →
        rd σ W (fun W' k => W'.heap[D1]? = some (rec .ready none) ∧ k (W'.putObj D1 (rec .busy none)))
          (fun e W' => W'.heap[D1]? = some (rec .busy none) ∧
            match e with
            | .normal => K (.bool true) (W'.putObj D1 (rec .ready none))
            | .ret => K (.bool false) (W'.putObj D1 (rec .done (some .ret)))
            | .exit id => K (.bool false) (W'.putObj D1 (rec .done (some (.exit id))))
            | _ => False) →
        ef P (oCall (.func (.yield D1) #[] #[]) σ.toArray) W K) →
      Calls P f (#[.func (.yield D1) #[] #[]] ++ cap) w1 (Ret fun _ W => ∃ st p, W.heap[D1]? = some (rec st p) ∧ st ≠ .busy ∧ Q p D (W.putObj D1 (rec .exhausted p)))) :
    rng P n (.func (.func f) #[] cap) rd w Q := by
  intro rec hrec hround
  have hd := (h.alloc (.deferred (some []))).alloc (rec .ready none)
  have es : (w.alloc (.deferred (some []))).heap.size = w.heap.size + 1 := by show (w.heap.push _).size = _; simp
  rw [es] at hd
  have h1 : fn.name ≠ "runtime.NumGoroutine" := by simpa using hn
  have h2 : fn.body ≠ none := by intro e; simp [e] at hb
  exact ⟨f, _, by simp [oCall, Deferred.ofValue, invoke, callFunc, hf, h1, h2], k rec w.heap.size (w.heap.size + 1) _ hd hround⟩
theorem win_cut {J : Hp} {a : Option Addr} {xs : List Value} (h : win J a xs) {c n sz : Nat} (hc : c = n → xs.length ≤ n * sz) : win J (cutA a c n sz) (xs.drop (n * sz)) := by
  unfold cutA
  by_cases he : c = n
  · left; exact List.drop_eq_nil_of_le (hc he)
  · rw [if_neg he]
    rcases h with rfl | ⟨b, o, cs, e, fr, rfl, hb, hv⟩
    · left; simp
    · right
      refine ⟨b, o + n * sz, cs, e, fr, by simp [add_addr], hb, fun j v hj => ?_⟩
      rw [List.getElem?_drop] at hj
      have := hv _ _ hj
      rwa [← Nat.add_assoc] at this
/-- Of two that stay, a third. -/
theorem sat_imp2 (h : sat E w H) (φ ψ : PP) {χ : PP} {R1 R2 : HP} [s1 : Split H (pers φ) R1] [s2 : Split R1 (pers ψ) R2] (k : ∀ I, φ.p I → ψ.p I → χ.p I) : sat E w (pers χ * R2) := by
  have h := h.split (pers φ)
  rw [s2.eq, ← star_assoc, pers_and] at h
  exact h.pers_mono fun I hI => k I hI.1 hI.2
/-- A block is left alone. -/
theorem sat.lose (h : sat E w H) (b : Nat) {o : Obj} [Own H b o R] : sat E w R := (h.own b).drop
theorem st_agg (h : sat E w H) {g : Gd} {t n b e : Nat} {xs : List Value} {fr : Nat × Nat} {A : Prop} [i : AggC P t n] [hb : Has H b (.cells xs.toArray e fr)] (hn : xs.length = n) (k : A) :
    stv P g (Instr.loadAt t (.pointer (some ⟨b, 0, none⟩))) (.agg xs.toArray) w A :=
  stv_of (run_loadN hn fun j v hj => cell_of (hb.get h) (by simpa using hj)) k
/-- A meeting at which memory is as it was. -/
theorem jn_at {rest : List Value → World → Prop} {body : (List Value → World → Prop) → Prop} (h : sat E w H) (Ψ : HP → List Value → Prop)
    (h1 : ∀ k : List Value → World → Prop, (∀ σ w, Ψ H σ → sat E w H → k σ w) → body k) (h2 : ∀ σ w, Ψ H σ → sat E w H → rest σ w) : jn rest body := h1 rest h2
theorem o_rem {t : TypeId} {k : IntKind} {a b : Int} (hb : b ≠ 0) : pvv P (binOp .rem t (.int k a) (.int k b)) w K = K (.int k (a.tmod b)) w := pvv_eq fun _ => by simp [binOp, Op.intDiv, hb]
end
end Hold

/-
  From a walk that ends in true, with nothing old turned, to the statement's row.
-/
set_option linter.all false
namespace Hold
open Go Go.ChangeShapes Go.WideShapes Go.RowKit

theorem trodAll_below {H : Type} {enc : TypeId × Value → H} {P : Program} (hl : laidOutB P = true) {W W' : World} (hb : Below W.heap.size W W') {sp : Nat → Bool} :
    ∀ {ts : List TypeId} {vs : List Value} {ds : List (DataW H)} {ps : List MemPlace}, (∀ t ∈ ts, P.readableRec t = true ∧ t < P.types.size) → (∀ x ∈ ps, x.block < W.heap.size) → (∀ x ∈ ps, sp x.block = true) →
      DataW.TrodAll enc P W 0 (fun _ => true) true ts vs ds ps → DataW.TrodAll enc P W' 0 sp true ts vs ds ps
  | [], _, _, _, _, _, _, h => by
    obtain ⟨rfl, rfl, rfl⟩ := trodAll_nil h
    exact trodAll_mk0
  | t :: ts, _, _, _, ht, hlt, hs, h => by
    obtain ⟨v, vs, d, ds, p, q, rfl, rfl, rfl, h1, h2⟩ := trodAll_cons h
    have h1' := WideElems.Trod_stays hl (ht t (by simp)).1 (ht t (by simp)).2 h1 (fun x hx => hb.same (hlt x (List.mem_append_left _ hx))) (fun x hx => hs x (List.mem_append_left _ hx))
    have h2' := trodAll_below hl hb (fun t h => ht t (List.mem_cons_of_mem _ h)) (fun x hx => hlt x (List.mem_append_right _ hx)) (fun x hx => hs x (List.mem_append_right _ hx)) h2
    exact ⟨p, q, h1', h2', rfl⟩

theorem law_post {H : Type} {enc : TypeId × Value → H} {P : Program} {f : Func} {s : ChangeSpec} {apart fresh handsOn again : Bool} {W W' : World} {args : Array Value} {ds gs : List (DataW H)} {before : List MemPlace} {tb : TypeId}
    (hl : laidOutB P = true) (hp : ∀ t ∈ f.params.toList, P.readableRec t = true ∧ t < P.types.size) (hrt : f.resultTypes = #[tb]) (htb : P.underlying tb = some .bool)
    (hv : s.vars = []) (hs : s.fn H ds = { results := [.lit (.bool true)], args := ds }) (hW : DataW.Whole enc P f.params.toList s.vars apart W args.toList ds gs before) (hb : Below W.heap.size W W') :
    s.post enc P f apart fresh handsOn again W args (.bool true) W' := by
  have hW0 := hW
  have hlt : ∀ x ∈ before, x.block < W.heap.size := fun x hx => by simpa using hW.lt x hx
  obtain ⟨p, q, hA, hV, rfl, hz, hn⟩ := hW
  rw [hv] at hV
  obtain ⟨rfl, rfl⟩ := trodVars_none hV
  simp only [List.append_nil] at hlt hz hn
  have hold : ∀ x ∈ p, (fun b => decide (b < W.heap.size)) x.block = true := fun x hx => by simpa using hlt x hx
  have hres : ∀ (b : Nat) (sp : Nat → Bool) (hd : Bool), DataW.TrodAll enc P W' b sp hd f.resultTypes.toList ((Value.bool true).resultList f.resultTypes.size) (s.fn H (ds ++ [])).results [] := fun b sp hd => by
    rw [List.append_nil, hs, hrt]
    exact trodAll_mk1 (shut_bool htb _)
  have hargs : ∀ sp : Nat → Bool, (∀ x ∈ p, sp x.block = true) → DataW.TrodAll enc P W' 0 sp true f.params.toList args.toList (s.fn H (ds ++ [])).args p := fun sp hsp => by
    rw [List.append_nil, hs]
    exact trodAll_below hl hb hp hlt hsp hA
  have hvars : ∀ sp : Nat → Bool, DataW.TrodVars enc P W' sp s.vars (s.fn H (ds ++ [])).vars [] := fun sp => by
    rw [List.append_nil, hs, hv]
    rfl
  have hz' : ∀ b off, MemPlace.cell b off ∈ p → W'.frozen? ⟨b, off, none⟩ = W.frozen? ⟨b, off, none⟩ := fun b off hx => hb.frozen (hlt _ hx)
  refine ⟨ds, [], p ++ [], [], p, [], hW0, hres _ _ _, hargs _ hold, hvars _, hb.frame _, fun _ => ?_⟩
  refine ⟨?_, _, _, ([] ++ p) ++ [], ⟨[] ++ p, [], trodAll_append (hargs _ (fun _ _ => rfl)) (hres _ _ _), hvars _, rfl, ?_, ?_⟩, ?_⟩
  · exact ok_one hrt rfl (okWide_bool_mk htb _)
  · intro b off hx
    rw [hz' b off (by simpa using hx)]
    exact hz b off (by simpa using hx)
  · intro ha
    simpa using hn ha
  · intro x hx _
    simpa using hx

/-- The fields of a struct type. -/
def fieldsOf (P : Program) (t : TypeId) : Array Field := match P.underlying t with | some (.struct fs) => fs | _ => #[]
def fieldOf (P : Program) (t : TypeId) (i : Nat) : Field := (fieldsOf P t).getD i ⟨"", 0, 0, false, "", "", 0⟩

/-- A law's step, from its walk. -/
theorem law_lifted {H : Type} {enc : TypeId × Value → H} {C : Checked} {os : Os} {f : FuncId} {fn : Func} {s : ChangeSpec} {conds : List PathCond} {apart fresh handsOn again : Bool} {tb : TypeId}
    (own : ownKnob C.prog.godebug = none) (started : os.Started) (noInit : C.prog.inits.idxOf? f = none) (hfn : C.prog.funcs[f]? = some fn)
    (witness : ∃ (w : World) (tape : Tape) (i : Input), w.os = os ∧ (w.forCall tape i).Shaped C.prog ∧ i.vars = [] ∧ Input.okWide C.prog (w.forCall tape i) .any w.heap.size f i ∧
      s.pre6 enc C.prog fn conds apart (w.forCall tape i).memory i.args ∧ ({} : Assume).holds C.prog (lone (Frame.enter C.prog f i.args .normal) [] (w.forCall tape i)))
    (hl : laidOutB C.prog = true) (hp : fn.params.toList.all (fun t => C.prog.readableRec t && decide (t < C.prog.types.size)) = true) (hrt : fn.resultTypes = #[tb]) (htb : C.prog.underlying tb = some .bool) (hv : s.vars = [])
    (hs : ∀ ds : List (DataW H), ds.length = fn.params.toList.length → s.fn H ds = { results := [.lit (.bool true)], args := ds })
    (walk : ∀ (W : World) (args : Array Value) (ds : List (DataW H)) (ps : List MemPlace), (∀ (j : Nat) t v, fn.params.toList[j]? = some t → args.toList[j]? = some v → ∃ base, Value.okWide C.prog W .any base t v) →
      DataW.TrodAll enc C.prog W 0 (fun _ => true) true fn.params.toList args.toList ds ps → Calls C.prog f args W (Ret fun v W' => v = .bool true ∧ Below W.heap.size W W')) :
    ReturnsInHanded {} C os f .any (s.pre6 enc C.prog fn conds apart) (s.post enc C.prog fn apart fresh handsOn again) := by
  refine returnsInHanded_of_change own started noInit hfn witness ?_
  intro W base args ds gs before hval hW _ _
  have hW' := hW
  obtain ⟨p, q, hA, _⟩ := hW
  have hlen : ∀ {ts : List TypeId} {vs : List Value} {ds : List (DataW H)} {ps : List MemPlace}, DataW.TrodAll enc C.prog W 0 (fun _ => true) true ts vs ds ps → ds.length = ts.length := by
    intro ts
    induction ts with
    | nil => intro vs ds ps h; obtain ⟨_, rfl, _⟩ := trodAll_nil h; rfl
    | cons t ts ih => intro vs ds ps h; obtain ⟨v, vs, d, ds, p, q, _, rfl, _, _, h2⟩ := trodAll_cons h; simp [ih h2]
  refine (walk W args ds p (fun j t v h1 h2 => ⟨base, hval j t v (by simpa using h1) (by simpa using h2)⟩) hA).mono fun e W' ⟨v, he, hv2, hb⟩ => ?_
  subst hv2
  refine ⟨_, he, law_post hl (fun t ht => ?_) hrt htb hv (hs ds (hlen hA)) hW' hb⟩
  have := List.all_eq_true.1 hp t ht
  simpa using this

/-- Cells that are read one by one, as a window. -/
theorem win_of_cells {w : World} {a : Addr} {xs : List Value} (h : ∀ (j : Nat) (v : Value), xs[j]? = some v → w.cell? (a.add j) = some v) : win (hp w) (some a) xs := by
  cases xs with
  | nil => exact .inl rfl
  | cons x r =>
    right
    have h0 := h 0 x rfl
    obtain ⟨b, o, sp⟩ := a
    cases sp with
    | some s => simp [Addr.add, World.cell?] at h0; split at h0 <;> simp_all
    | none =>
      unfold World.cell? at h0
      split at h0
      · rename_i c e fr hb
        refine ⟨b, o, c, e, fr, rfl, by simpa [Addr.add, hp] using hb, fun j v hj => ?_⟩
        have := h j v hj
        rw [add_addr] at this
        simpa [World.cell?, show w.heap[b]? = some (.cells c e fr) by simpa [Addr.add] using hb] using this
      · cases h0
theorem add_add (a : Addr) (m n : Nat) : (a.add m).add n = a.add (m + n) := by
  unfold Addr.add
  by_cases h1 : m = 0 <;> by_cases h2 : n = 0 <;> simp [h1, h2]
  all_goals omega
/-- Of the old world: what could be read there. -/
theorem rds_old {w : World} {v : Value} {n : Nat} {xs : List Value} (h : RdS (hp w) v n xs) : Rds (old w) v n xs := fun E w' hs =>
  h.mono fun b o hb => sat.old_get (hs.whole) hb
end Hold

/-
  Strings: their bytes appended, copied, compared.
-/
set_option linter.all false
namespace Hold
open Go
/-- A text of these bytes. -/
def tv (l : List UInt8) : Value := .string ⟨l.toArray⟩
section
variable {P : Program} {E : World0} {w : World} {H R : HP} {K : Value → World → Prop}

theorem strCells_tv (l : List UInt8) : Lib.strCells ⟨l.toArray⟩ = l.map bv := rfl
theorem o_lenT {t ty : TypeId} {cs : Array Bool} {l : List UInt8} [i : Ul P t .string] : pv P (oBi .len #[t] ty cs #[tv l]) w K = K (.int .i64 l.length) w := o_lenS
theorem beq_lists (a b : List UInt8) : (((⟨a.toArray⟩ : ByteArray).toList == (⟨b.toArray⟩ : ByteArray).toList)) = decide (a = b) := by
  rw [ByteArray.toList_eq, ByteArray.toList_eq]
  simp [Bool.beq_eq_decide_eq]
theorem o_eqT {t : TypeId} {xo yo : Operand} {a b : List UInt8} : pvv P (oEq .eql t xo yo (tv a) (tv b)) w K = K (.bool (decide (a = b))) w := by
  unfold tv; rw [o_eqStr, beq_lists]
theorem o_neT {t : TypeId} {xo yo : Operand} {a b : List UInt8} : pvv P (oEq .neq t xo yo (tv a) (tv b)) w K = K (.bool !(decide (a = b))) w := by
  unfold tv; rw [o_neStr, beq_lists]
theorem zlen (n : Nat) : (Builtin.zeroCells (Value.int .u8 0).cells n).toList.length = n := by
  rw [Array.length_toList, size_zeroCells]
  simp [Value.cells]
theorem append_str (h : sat E w H) {t u ty e : TypeId} [i : SliceT P t e 1 1 (.int .u8 0)] [j : Ul P u .string] {cs : Array Bool} {v : Value} {n : Nat} {xs : List Value} [s : OwnS H v e 1 n xs R] {l : List UInt8}
    (hb : n + l.length ≤ 140737488355328) (k : ∀ v' w', sat E w' (osl e 1 v' (n + l.length) (xs ++ l.map bv) * R) → K v' w') : ef P (oBi .append #[t, u] ty cs #[v, tv l]) w K := by
  obtain ⟨y, hy, hy1, hy2, hy3⟩ := i.parts
  have hs' := h.perm s.eq
  have ef_bi : ∀ {v' w'}, (Builtin.append_ #[t, u] ty #[v, tv l]).run P w = .ok v' w' → K v' w' → ef P (oBi .append #[t, u] ty cs #[v, tv l]) w K := fun hr hk =>
    ef_of (by simp [oBi, builtin, hr]) hk
  have hsz : (⟨l.toArray⟩ : ByteArray).size = l.length := by simp [ByteArray.size]
  have grow : ∀ (sCap : Nat) (X : HP), sat E w X → n = xs.length → sCap < n + l.length → sat E (w.drew.alloc (.cells (xs.toArray ++ (l.map bv).toArray ++ Builtin.zeroCells (Value.int .u8 0).cells (grownCap w (n + l.length) sCap e - (n + l.length))) e)) (osl e 1 (.slice (some ⟨w.heap.size, 0, none⟩) (n + l.length) (grownCap w (n + l.length) sCap e)) (n + l.length) (xs ++ l.map bv) * X) := by
    intro sCap X hX hxl hlt
    have hge := grownCap_ge w (n + l.length) sCap e
    have hle := grownCap_le_maxLen w (n + l.length) sCap e (by simp only [maxLen]; omega)
    refine sat_osl.2 (.inr ⟨w.heap.size, _, (Builtin.zeroCells (Value.int .u8 0).cells (grownCap w (n + l.length) sCap e - (n + l.length))).toList, rfl, by simp [hxl], ?_, hge, by simp only [maxLen] at hle; omega, ?_⟩)
    · rw [List.length_append, List.length_append, ← hxl, List.length_map, zlen]
      omega
    · have := hX.drew.alloc (.cells (xs.toArray ++ (l.map bv).toArray ++ Builtin.zeroCells (Value.int .u8 0).cells (grownCap w (n + l.length) sCap e - (n + l.length))) e (0, 0))
      have e1 : ((xs ++ l.map bv) ++ (Builtin.zeroCells (Value.int .u8 0).cells (grownCap w (n + l.length) sCap e - (n + l.length))).toList).toArray = xs.toArray ++ (l.map bv).toArray ++ Builtin.zeroCells (Value.int .u8 0).cells (grownCap w (n + l.length) sCap e - (n + l.length)) := by
        apply Array.ext'; simp
      rw [e1]; exact this
  rcases sat_osl.1 hs' with ⟨rfl, rfl, rfl, hR⟩ | ⟨b, cap, sp, rfl, hxl, hcl, hnc, hcm, hP⟩
  · by_cases hk0 : l.length = 0
    · have hn : l = [] := List.eq_nil_of_length_eq_zero hk0
      subst hn
      refine ef_bi (v' := .slice none 0 0) (w' := w) ?_ (k _ _ (by simpa using osl_nil hR e 1))
      simp [tv, Builtin.append_, run_underlying' i.ul, run_underlying' j.ul, Go.sizeOf, typeInfo, hy, Builtin.lenOf, Builtin.firstCells, ByteArray.size]
    · have hr := run_append_nil_string (P := P) (w := w) t u ty e y _ i.ul j.ul hy hy1 ⟨l.toArray⟩ (by rw [hsz]; omega) (by rw [hsz]; omega) (by rw [hsz, hy3]; omega)
      rw [hsz] at hr
      refine ef_bi hr (k _ _ ?_)
      have := grow 0 R hR (by simp) (by omega)
      have e2 : (⟨l.toArray⟩ : ByteArray).data.map (fun b => Value.int .u8 b.toNat) = (l.map bv).toArray := by simp [bv]
      simp only [Nat.zero_add, List.nil_append] at this ⊢
      rw [e2]
      simpa using this
  · have hbl := hP.pts_get
    have hxl : xs.length = n := by omega
    by_cases hroom : n + l.length ≤ cap
    · have hr := Lib.run_append_room_string (P := P) (w := w) t u ty e y i.ul j.ul hy hy2 b n cap (xs ++ sp).toArray hbl ⟨l.toArray⟩ (by rw [hsz]; exact hroom) (by rw [hsz]; simp only [List.size_toArray]; omega)
      rw [setRow_putObj hbl, hsz, strCells_tv] at hr
      refine ef_bi hr (k _ _ (sat_osl.2 (.inr ⟨b, cap, sp.drop l.length, rfl, by simp [hxl], ?_, hroom, hcm, ?_⟩)))
      · rw [List.length_append] at hcl
        simp only [List.length_append, List.length_drop, List.length_map]
        omega
      · have e1 : ((xs ++ sp).toArray.toList.take n ++ l.map bv ++ (xs ++ sp).toArray.toList.drop (n + l.length)) = xs ++ l.map bv ++ sp.drop l.length := by
          rw [← hxl]
          simp [List.take_left', List.drop_append]
        rw [e1]
        exact hP.set _
    · have holds : ∀ j u, xs[j]? = some u → w.cell? ((⟨b, 0, none⟩ : Addr).add j) = some u := fun j u hj => by
        rw [add_addr]; exact cell_of hbl (by
          have hlt := (List.getElem?_eq_some_iff.1 hj).1
          simpa [List.getElem?_append_left hlt] using hj)
      have hr := Lib.run_append_grow_string (P := P) (w := w) t u ty e y _ i.ul j.ul hy hy1 ⟨b, 0, none⟩ n cap xs (by rw [hy2]; omega) holds ⟨l.toArray⟩ (by rw [hsz]; omega) (by rw [hsz]; omega) (by rw [hsz, hy3]; exact growslice_fits (by omega) (by omega))
      rw [hsz, strCells_tv] at hr
      exact ef_bi hr (k _ _ (grow cap R hP.drop (by omega) (by omega)))
/-- copy: all of the source fits. -/
theorem copy_sl (h : sat E w H) {t u ty e e' m : TypeId} {z : Value} [i : SliceT P t e 1 m z] {cs : Array Bool} {b n c : Nat} {xs : List Value} [s : OwnS H (.slice (some ⟨b, 0, none⟩) n c) e' 1 n xs R]
    {a : Option Addr} {k' c' : Nat} {news : List Value} (hl : news.length = k') (hw : win (hp w) a news) (h1 : ∀ x ∈ news, x.oneCell' = true) (hle : k' ≤ n)
    (k : ∀ w', sat E w' (osl e' 1 (.slice (some ⟨b, 0, none⟩) n c) n (news ++ xs.drop k') * R) → K (.int .i64 k') w') : ef P (oBi .copy #[t, u] ty cs #[.slice (some ⟨b, 0, none⟩) n c, .slice a k' c']) w K := by
  have hs' := h.perm s.eq
  have ef_bi : ∀ {v' w'}, (Builtin.copy_ #[t, u] ty #[.slice (some ⟨b, 0, none⟩) n c, .slice a k' c']).run P w = .ok v' w' → K v' w' → ef P (oBi .copy #[t, u] ty cs #[.slice (some ⟨b, 0, none⟩) n c, .slice a k' c']) w K := fun hr hk =>
    ef_of (by simp [oBi, builtin, hr]) hk
  by_cases hk0 : k' = 0
  · subst hk0
    have hn : news = [] := List.eq_nil_of_length_eq_zero hl
    subst hn
    have hr := run_copy_none (P := P) w t u ty e (some ⟨b, 0, none⟩) a n c 0 c' i.ul i.size (by simp)
    exact ef_bi hr (k _ (by simpa using hs'))
  · obtain ⟨b', c2, sp, hv, hxl, hc, hP, hcl⟩ := osl_open hs' (by omega)
    cases hv
    rcases hw with rfl | ⟨b2, o2, cs2, e2, fr2, rfl, hb2, hv2⟩
    · simp at hl; omega
    · have hbl := hP.pts_get
      have hr := run_copy_row (P := P) w t u ty e b 0 n c ⟨b2, o2, none⟩ k' c' (xs ++ sp).toArray e' news i.ul i.size hbl (by rw [hl]; exact (Nat.min_eq_left hle).symm) (fun j v hj => by rw [add_addr]; exact cell_of hb2 (hv2 j v hj)) (by simp; omega) h1
      rw [setRow_putObj hbl] at hr
      refine ef_bi hr (by
        have := k (w.putObj b (.cells ((xs ++ sp).toArray.toList.take 0 ++ news ++ (xs ++ sp).toArray.toList.drop (0 + news.length)).toArray e' (0, 0))) (hcl (xs' := news ++ xs.drop k') (by simp; omega) ?_)
        · rw [hl] at this ⊢; exact this
        · have e1 : ((xs ++ sp).toArray.toList.take 0 ++ news ++ (xs ++ sp).toArray.toList.drop (0 + news.length)) = (news ++ xs.drop k') ++ sp := by
            simp only [List.take_zero, List.nil_append, Nat.zero_add, hl, List.append_assoc]
            congr 1
            rw [List.drop_append_of_le_length (by omega)]
          rw [e1]
          exact hP.set _)
theorem win_take {J : Hp} {a : Option Addr} {xs : List Value} (h : win J a xs) (m : Nat) : win J a (xs.take m) := by
  rcases h with rfl | ⟨b, o, cs, e, fr, rfl, hb, hv⟩
  · left; simp
  · right
    refine ⟨b, o, cs, e, fr, rfl, hb, fun j v hj => hv j v ?_⟩
    rw [List.getElem?_take] at hj
    split at hj
    · exact hj
    · cases hj
theorem RdS.cut {J : Hp} {a : Option Addr} {n c lo hi : Nat} {xs : List Value} (h : RdS J (.slice a n c) n xs) (hx : xs.length = n) (h1 : lo ≤ hi) (h2 : hi ≤ n) :
    RdS J (.slice (cutA a c lo 1) (hi - lo) (c - lo)) (hi - lo) ((xs.drop lo).take (hi - lo)) := by
  obtain ⟨a', c', e, hc, hw⟩ := h
  cases e
  refine ⟨_, _, rfl, by omega, win_take ?_ _⟩
  have := win_cut (sz := 1) hw (c := c) (n := lo) (fun hcn => by omega)
  rwa [Nat.mul_one] at this
theorem RdS.cutl {J : Hp} {a : Option Addr} {n c lo : Nat} {xs : List Value} (h : RdS J (.slice a n c) n xs) (hx : xs.length = n) (h1 : lo ≤ n) :
    RdS J (.slice (cutA a c lo 1) (n - lo) (c - lo)) (n - lo) (xs.drop lo) := by
  have := h.cut hx h1 (Nat.le_refl n)
  rwa [List.take_of_length_le (by simp; omega)] at this
end
end Hold

/-
  Arguments, opened: bytes, texts.
-/
set_option linter.all false
namespace Hold
open Go Go.ChangeShapes Go.WideShapes Go.RowKit
variable {H : Type} {enc : TypeId × Value → H} {P : Program} {W : World} {r : Reach} {b0 : Nat} {v : Value} {d : DataW H} {p : List MemPlace}

theorem u8_wf {n : Int} (h : (Lit.int .u8 n).wf = true) : ∃ b : UInt8, Value.int .u8 n = bv b := by
  have hw : 0 ≤ n ∧ n ≤ 255 := by
    have := h
    simp only [Lit.wf, Bool.and_eq_true, decide_eq_true_eq] at this
    exact this
  refine ⟨UInt8.ofNat n.toNat, ?_⟩
  unfold bv
  congr 1
  simp
  omega
theorem open_bytesG {t e : TypeId} (ht : P.underlying t = some (.slice e)) (he : P.underlying e = some (.int .u8)) (hc : P.cellsOf e = 1)
    (hv : Value.okWide P W r b0 t v) (h : DataW.Trod enc P W 0 (fun _ => true) true t v d p) : ∃ l : List UInt8, Rds (old W) v l.length (l.map bv) ∧ l.length ≤ 9223372036854775807 := by
  obtain ⟨a, len, cap, rfl⟩ := okWide_slice ht hv
  obtain ⟨fuel, hf⟩ := h
  rcases open_ints (k := .u8) ht he hc hf with ⟨e, _⟩ | ⟨a', len', cap', zs, e, _, hlc, hcm, hz, _, hx, hwf⟩
  · simp [Value.cells] at e
    obtain ⟨rfl, rfl, rfl⟩ := e
    exact ⟨[], rds_old ⟨none, 0, rfl, Nat.le_refl _, .inl rfl⟩, by simp⟩
  · simp [Value.cells] at e
    obtain ⟨rfl, rfl, rfl⟩ := e
    simp at hz
    have hz2 : ∀ z ∈ zs, Value.int .u8 z = bv (UInt8.ofNat z.toNat) := fun z hzm => by
      obtain ⟨b, hb⟩ := u8_wf (hwf z hzm)
      have : z = b.toNat := by simpa [bv] using hb
      rw [this]; simp [bv]
    have hl : ((zs.take len).map fun z : Int => UInt8.ofNat z.toNat).length = len := by simp; omega
    refine ⟨(zs.take len).map fun z : Int => UInt8.ofNat z.toNat, ?_, by rw [hl]; simp only [maxLen] at hcm; omega⟩
    rw [hl]
    refine rds_old ⟨some a', cap, rfl, hlc, win_of_cells fun j v hj => ?_⟩
    have hj2 := (List.getElem?_eq_some_iff.1 hj).1
    simp at hj2
    rw [hx j (by omega)]
    rw [List.getElem?_map, List.getElem?_map, List.getElem?_take, if_pos (by omega), List.getElem?_eq_getElem (by omega)] at hj
    simp only [Option.map_some, Option.some.injEq] at hj
    rw [← hj, List.getD_eq_getElem?_getD, List.getElem?_eq_getElem (by omega)]
    simp only [Option.getD_some]
    rw [hz2 _ (List.getElem_mem _)]
theorem open_textsG {t e : TypeId} (ht : P.underlying t = some (.slice e)) (he : P.underlying e = some .string) (hc : P.cellsOf e = 1)
    (hv : Value.okWide P W r b0 t v) (h : DataW.Trod enc P W 0 (fun _ => true) true t v d p) : ∃ cs : List (List UInt8), Rds (old W) v cs.length (cs.map tv) ∧ cs.length ≤ 9223372036854775807 := by
  obtain ⟨a, len, cap, rfl⟩ := okWide_slice ht hv
  obtain ⟨fuel, hf⟩ := h
  rcases open_strings ht he hc hf with ⟨e, _⟩ | ⟨a', len', cap', ss, e, _, hlc, hcm, hz, _, hx, _⟩
  · simp [Value.cells] at e
    obtain ⟨rfl, rfl, rfl⟩ := e
    exact ⟨[], rds_old ⟨none, 0, rfl, Nat.le_refl _, .inl rfl⟩, by simp⟩
  · simp [Value.cells] at e
    obtain ⟨rfl, rfl, rfl⟩ := e
    simp at hz
    have hl : ((ss.take len).map fun s : ByteArray => s.data.toList).length = len := by simp; omega
    refine ⟨(ss.take len).map fun s : ByteArray => s.data.toList, ?_, by rw [hl]; simp only [maxLen] at hcm; omega⟩
    rw [hl]
    refine rds_old ⟨some a', cap, rfl, hlc, win_of_cells fun j v hj => ?_⟩
    have hj2 := (List.getElem?_eq_some_iff.1 hj).1
    simp at hj2
    rw [hx j (by omega)]
    rw [List.getElem?_map, List.getElem?_map, List.getElem?_take, if_pos (by omega), List.getElem?_eq_getElem (by omega)] at hj
    simp only [Option.map_some, Option.some.injEq] at hj
    rw [← hj, List.getD_eq_getElem?_getD, List.getElem?_eq_getElem (by omega)]
    simp [tv]
end Hold

/-
  Words of 32 bits, and bytes: their operations.
-/
set_option linter.all false
namespace Hold
open Go
/-- A word as the model has it. -/
def wv (x : UInt32) : Value := .int .u32 x.toNat
section
variable {P : Program} {w : World} {K : Value → World → Prop}
theorem ofInt32 (a : UInt32) : BitVec.ofInt 32 (a.toNat : Int) = a.toBitVec := by
  apply BitVec.eq_of_toNat_eq; simp
theorem ofInt8 (a : UInt8) : BitVec.ofInt 8 (a.toNat : Int) = a.toBitVec := by
  apply BitVec.eq_of_toNat_eq; simp
theorem wrapW (a : UInt32) : IntKind.u32.wrap (a.toNat : Int) = a.toNat := by
  have := a.toNat_lt
  rw [IntKind.wrap_u32]; omega
theorem wrapB (a : UInt8) : IntKind.u8.wrap (a.toNat : Int) = a.toNat := by
  have := a.toNat_lt
  rw [IntKind.wrap_u8]; omega
theorem o_xorW {t : TypeId} {a b : UInt32} : pvv P (binOp .xor t (wv a) (wv b)) w K = K (wv (a ^^^ b)) w := pvv_eq fun _ => by
  simp only [binOp, Op.intBits, wv, IntKind.bits, ofInt32]
  simp
  exact (wrapW (a ^^^ b)).trans (by simp)
theorem o_andW {t : TypeId} {a b : UInt32} : pvv P (binOp .and t (wv a) (wv b)) w K = K (wv (a &&& b)) w := pvv_eq fun _ => by
  simp only [binOp, Op.intBits, wv, IntKind.bits, ofInt32]
  simp
  exact (wrapW (a &&& b)).trans (by simp)
theorem o_orW {t : TypeId} {a b : UInt32} : pvv P (binOp .or t (wv a) (wv b)) w K = K (wv (a ||| b)) w := pvv_eq fun _ => by
  simp only [binOp, Op.intBits, wv, IntKind.bits, ofInt32]
  simp
  exact (wrapW (a ||| b)).trans (by simp)
theorem o_addW {t : TypeId} {a b : UInt32} : pvv P (binOp .add t (wv a) (wv b)) w K = K (wv (a + b)) w := by
  unfold wv
  rw [o_add, IntKind.wrap_u32]
  congr 2
theorem o_shrW {t : TypeId} {a : UInt32} {k : IntKind} {n : Nat} (hn : n < 32) : pvv P (binOp .shr t (wv a) (.int k n)) w K = K (wv (a >>> UInt32.ofNat n)) w := pvv_eq fun _ => by
  have h0 : ¬ ((n : Int) < 0) := by omega
  have hm : min n 32 = n := by omega
  simp only [binOp, Op.shift, wv, h0, if_false, Int.toNat_natCast, IntKind.bits, hm]
  simp only [Sem.run_pure]
  congr 2
  rw [UInt32.toNat_shiftRight]
  have : (UInt32.ofNat n).toNat % 32 = n := by simp; omega
  rw [this, Nat.shiftRight_eq_div_pow]
  have h2 : ((2 : Int) ^ n) = ((2 ^ n : Nat) : Int) := by simp
  rw [h2, Int.fdiv_eq_ediv_of_nonneg _ (Int.natCast_nonneg _)]
  simp
theorem o_shlW {t : TypeId} {a : UInt32} {k : IntKind} {n : Nat} (hn : n < 32) : pvv P (binOp .shl t (wv a) (.int k n)) w K = K (wv (a <<< UInt32.ofNat n)) w := pvv_eq fun _ => by
  have h0 : ¬ ((n : Int) < 0) := by omega
  have hm : min n 32 = n := by omega
  simp only [binOp, Op.shift, wv, h0, if_false, Int.toNat_natCast, IntKind.bits, hm]
  simp only [Sem.run_pure]
  congr 2
  rw [UInt32.toNat_shiftLeft, IntKind.wrap_u32]
  have : (UInt32.ofNat n).toNat % 32 = n := by simp; omega
  rw [this, Nat.shiftLeft_eq]
  simp
end
end Hold

/-
  Arrays: their places, their slices.
-/
set_option linter.all false
namespace Hold
open Go
section
variable {P : Program} {w : World} {K : Value → World → Prop}
theorem o_indexA {t e : TypeId} {len : Nat} [i : Ul P t (.array len e)] [j : OneC P e] {b o : Nat} {k : IntKind} {x : Int} (h0 : 0 ≤ x) (h1 : x < len) :
    pvv P (Instr.indexAt t (.pointer (some ⟨b, o, none⟩)) (.int k x)) w K = K (.pointer (some ⟨b, o + x.toNat, none⟩)) w := pvv_eq fun w => by
  simp [Instr.indexAt, Instr.sureAddr, asIntOf, run_underlying' i.ul, run_sizeOf' j.size, h0, h1, add_addr]
theorem o_sliceA {t e : TypeId} {len : Nat} [i : Ul P t (.array len e)] [j : OneC P e] {b o : Nat} :
    pvv P (Instr.sliceAt t (.pointer (some ⟨b, o, none⟩)) none none none) w K = K (.slice (some ⟨b, o, none⟩) len len) w := pvv_eq fun w => by
  simp [Instr.sliceAt, Instr.sureAddr, Instr.sliceBounds, Instr.sliceBound, run_underlying' i.ul, run_sizeOf' j.size, add_addr]
theorem res_agg {E : World0} {H : HP} (h : sat E w H) {t n b e : Nat} {xs : List Value} {fr : Nat × Nat} [i : AggC P t n] [hb : Has H b (.cells xs.toArray e fr)] (hn : xs.length = n) (k : K (.agg xs.toArray) w) :
    ∃ r, (do loadVar t (← asAddr (.pointer (some ⟨b, 0, none⟩)))).run P w = .ok r w ∧ K r w := by
  refine ⟨_, ?_, k⟩
  have := run_loadN (P := P) (w := w) (t := t) (b := b) (o := 0) (cs := xs) hn fun j v hj => cell_of (hb.get h) (by simpa using hj)
  simpa [Instr.loadAt, Instr.sureAddr, asAddr] using this
theorem o_eqArr {t e : TypeId} {n : Nat} [i : Ul P t (.array n e)] [j : Ul P e (.int .u8)] [q : OneC P e] {xo yo : Operand} (hg : P.eqGuardType P.depth t = false) {xs ys : List UInt8} (hx : xs.length = n) (hy : ys.length = n) :
    pvv P (oEq .eql t xo yo (.agg (xs.map bv).toArray) (.agg (ys.map bv).toArray)) w K = K (.bool (xs == ys)) w := pvv_eq fun w => by
  have := run_equalIn_bytes (P := P) w 9998 t e n i.ul j.ul (fun w => run_sizeOf' q.size) xs ys hx hy
  have e2 : (Op.equal t (.agg (xs.map bv).toArray) (.agg (ys.map bv).toArray)).run P w = .ok (xs == ys) w := this
  simp [oEq, eqGuard, hg, binOp, e2]
theorem bv_ne {a b : UInt8} : (bv a = bv b) ↔ a = b := by
  unfold bv
  constructor
  · intro h; simp at h; exact UInt8.toNat_inj.1 (by omega)
  · rintro rfl; rfl

end
end Hold

/-
  Rows: pieces of arrays as slices; append to a full row, and of noughts; copy within a row.
-/
set_option linter.all false
namespace Hold
open Go
section
variable {P : Program} {E : World0} {w : World} {H R : HP} {K : Value → World → Prop}
theorem o_sliceA_l {t e : TypeId} {len : Nat} [i : Ul P t (.array len e)] [j : OneC P e] {b o : Nat} {k : IntKind} {x : Int} (h0 : 0 ≤ x) (h1 : x < len) :
    pvv P (Instr.sliceAt t (.pointer (some ⟨b, o, none⟩)) (some (.int k x)) none none) w K = K (.slice (some ⟨b, o + x.toNat, none⟩) (len - x.toNat) (len - x.toNat)) w := pvv_eq fun w => by
  have h2 : x ≤ len := by omega
  have h3 : ¬ (len = x.toNat) := by omega
  simp [Instr.sliceAt, Instr.sureAddr, Instr.sliceBounds, Instr.sliceBound, asIntOf, run_underlying' i.ul, run_sizeOf' j.size, add_addr, h0, h2, h3]
theorem o_sliceA_h {t e : TypeId} {len : Nat} [i : Ul P t (.array len e)] [j : OneC P e] {b o : Nat} {k : IntKind} {x : Int} (h0 : 0 ≤ x) (h1 : x ≤ len) :
    pvv P (Instr.sliceAt t (.pointer (some ⟨b, o, none⟩)) none (some (.int k x)) none) w K = K (.slice (some ⟨b, o, none⟩) x.toNat len) w := pvv_eq fun w => by
  simp [Instr.sliceAt, Instr.sureAddr, Instr.sliceBounds, Instr.sliceBound, asIntOf, run_underlying' i.ul, run_sizeOf' j.size, add_addr, h0, h1]
/-- The element of an array's value. -/
theorem o_indexV {t e : TypeId} {len : Nat} [i : Ul P t (.array len e)] [j : OneC P e] {xs : List Value} {k : IntKind} {x : Int} {v : Value} (hl : xs.length = len) (h0 : 0 ≤ x) (hv : xs[x.toNat]? = some v) :
    pvv P (Instr.index t (.agg xs.toArray) (.int k x)) w K = K v w := pvv_eq fun w => by
  have h1 := (List.getElem?_eq_some_iff.1 hv).1
  have h2 : x < len := by omega
  have hp : (part e xs.toArray x.toNat).run P w = .ok v w := by
    simp [part, j.agg w, hv]
  simp [Instr.index, asIntOf, run_underlying' i.ul, run_sizeOf' j.size, h0, h2, hp]
theorem o_shl {t : TypeId} {k k' : IntKind} {a : Int} {n : Nat} (hn : n ≤ k.bits) : pvv P (binOp .shl t (.int k a) (.int k' n)) w K = K (.int k (k.wrap (a * 2 ^ n))) w := pvv_eq fun _ => by
  have h0 : ¬ ((n : Int) < 0) := by omega
  have hm : min n k.bits = n := by omega
  simp [binOp, Op.shift, h0, hm]
theorem o_shr {t : TypeId} {k k' : IntKind} {a : Nat} {n : Nat} (hn : n ≤ k.bits) : pvv P (binOp .shr t (.int k a) (.int k' n)) w K = K (.int k (a / 2 ^ n : Nat)) w := pvv_eq fun _ => by
  have h0 : ¬ ((n : Int) < 0) := by omega
  have hm : min n k.bits = n := by omega
  have h2 : ((2 : Int) ^ n) = ((2 ^ n : Nat) : Int) := by simp
  simp only [binOp, Op.shift, h0, hm, if_false, Int.toNat_natCast, Sem.run_pure]
  rw [h2, Int.fdiv_eq_ediv_of_nonneg _ (Int.natCast_nonneg _)]
  simp
theorem o_xorB {t : TypeId} {a b : UInt8} : pvv P (binOp .xor t (bv a) (bv b)) w K = K (bv (a ^^^ b)) w := pvv_eq fun _ => by
  simp only [binOp, Op.intBits, bv, IntKind.bits, ofInt8]
  simp
  exact (wrapB (a ^^^ b)).trans (by simp)
theorem o_andB {t : TypeId} {a b : UInt8} : pvv P (binOp .and t (bv a) (bv b)) w K = K (bv (a &&& b)) w := pvv_eq fun _ => by
  simp only [binOp, Op.intBits, bv, IntKind.bits, ofInt8]
  simp
  exact (wrapB (a &&& b)).trans (by simp)
theorem o_orB {t : TypeId} {a b : UInt8} : pvv P (binOp .or t (bv a) (bv b)) w K = K (bv (a ||| b)) w := pvv_eq fun _ => by
  simp only [binOp, Op.intBits, bv, IntKind.bits, ofInt8]
  simp
  exact (wrapB (a ||| b)).trans (by simp)
/-- append to a full row that can be read: what comes can be read. -/
theorem append_full (h : sat E w H) {t ty e m : Nat} {z : Value} [i : SliceT P t e 1 m z] {cs : Array Bool} {a : Option Addr} {n : Nat} {xs : List Value} (hx : xs.length = n) (hv : Rds H (.slice a n n) n xs)
    {a2 : Option Addr} {k' c : Nat} (news : List Value) (hl : news.length = k') (hw : win (hp w) a2 news) (h1 : ∀ x ∈ news, x.oneCell' = true) (hb : (n + k') * m ≤ 140737488355328) (hm : n + k' ≤ 9223372036854775807)
    (k : ∀ v' w' X, sat E w' (X * H) → Rds (X * H) v' (n + k') (xs ++ news) → K v' w') : ef P (oBi .append #[t, t] ty cs #[.slice a n n, .slice a2 k' c]) w K := by
  obtain ⟨y, hy, hy1, hy2, hy3⟩ := i.parts
  have hz := i.zs
  have ef_bi : ∀ {v' w'}, (Builtin.append_ #[t, t] ty #[.slice a n n, .slice a2 k' c]).run P w = .ok v' w' → K v' w' → ef P (oBi .append #[t, t] ty cs #[.slice a n n, .slice a2 k' c]) w K := fun hr hk =>
    ef_of (by simp [oBi, builtin, hr]) hk
  by_cases hk0 : k' = 0
  · subst hk0
    have hn : news = [] := List.eq_nil_of_length_eq_zero hl
    subst hn
    have hst : ∀ (ad : Addr), (storeCells ad ([] : List Value) 0).run P w = .ok () w := fun ad => rfl
    refine ef_bi (v' := .slice a (n + 0) n) (w' := w) ?_ (k _ _ emp (by rw [emp_star]; exact h) ?_)
    · cases a2 <;> cases a <;> simp [Builtin.append_, run_underlying' i.ul, Go.sizeOf, typeInfo, hy, Builtin.lenOf, Builtin.firstCells, loadCells, loadCellsFrom, hst]
    · rw [emp_star]; simpa using hv
  · rcases hw with rfl | ⟨b2, o2, cs2, e2, fr2, rfl, hb2, hv2⟩
    · simp at hl; omega
    · have grow : ∀ (sCap : Nat), sCap < n + k' → sat E (w.drew.alloc (.cells (xs.toArray ++ news.toArray ++ Builtin.zeroCells z.cells (grownCap w (n + k') sCap e - (n + k'))) e)) (osl e 1 (.slice (some ⟨w.heap.size, 0, none⟩) (n + k') (grownCap w (n + k') sCap e)) (n + k') (xs ++ news) * H) := by
        intro sCap hlt
        have hge := grownCap_ge w (n + k') sCap e
        have hle := grownCap_le_maxLen w (n + k') sCap e (by simp only [maxLen]; omega)
        refine sat_osl.2 (.inr ⟨w.heap.size, _, (Builtin.zeroCells z.cells (grownCap w (n + k') sCap e - (n + k'))).toList, rfl, by simp; omega, ?_, hge, by simp only [maxLen] at hle; omega, ?_⟩)
        · rw [List.length_append, List.length_append, hx, hl, Array.length_toList, size_zeroCells, hz]
          omega
        · have := h.drew.alloc (.cells (xs.toArray ++ news.toArray ++ Builtin.zeroCells z.cells (grownCap w (n + k') sCap e - (n + k'))) e (0, 0))
          have e1 : ((xs ++ news) ++ (Builtin.zeroCells z.cells (grownCap w (n + k') sCap e - (n + k'))).toList).toArray = xs.toArray ++ news.toArray ++ Builtin.zeroCells z.cells (grownCap w (n + k') sCap e - (n + k')) := by
            apply Array.ext'; simp
          rw [e1]; exact this
      have hnews : ∀ j v, news[j]? = some v → w.cell? ((⟨b2, o2, none⟩ : Addr).add j) = some v := fun j v hj => by rw [add_addr]; exact cell_of hb2 (hv2 j v hj)
      rcases hv.win h with rfl | ⟨b, o, cs1, e1, fr1, rfl, hb1, hv1⟩
      · simp at hx
        subst hx
        cases a with
        | none =>
          have hr := run_append_nil (P := P) w t ty e y z i.ul hy hy1 ⟨b2, o2, none⟩ k' c news (by rw [hy2]; omega) hnews (by omega) (by omega) (by rw [hy3]; simp only [Nat.zero_add] at hb; omega)
          have g0 := grow 0 (by omega)
          simp only [Nat.zero_add, List.nil_append] at g0 k ⊢
          refine ef_bi hr (k _ _ _ (by simpa using g0) Rds.osl.left)
        | some a =>
          have hr := run_append_grow (P := P) w t ty e y z i.ul hy hy1 a 0 0 [] (by simp) (fun j v hj => by simp at hj) ⟨b2, o2, none⟩ k' c news (by rw [hy2]; omega) hnews (by omega) (by omega) (growslice_fits (by omega) (by rw [hy3]; exact hb))
          exact ef_bi hr (k _ _ _ (grow 0 (by omega)) Rds.osl.left)
      · have hr := run_append_grow (P := P) w t ty e y z i.ul hy hy1 ⟨b, o, none⟩ n n xs (by rw [hy2]; omega) (fun j v hj => by rw [add_addr]; exact cell_of hb1 (hv1 j v hj)) ⟨b2, o2, none⟩ k' c news (by rw [hy2]; omega) hnews (by omega) (by omega) (growslice_fits (by omega) (by rw [hy3]; exact hb))
        exact ef_bi hr (k _ _ _ (grow n (by omega)) Rds.osl.left)
/-- append(v, make([]T, k')...). -/
theorem append_noughts (h : sat E w H) {t u ty e m : Nat} {z : Value} {ku : IntKind} [i : SliceT P t e 1 m z] [j : Ul P u (.int ku)] (hz1 : z.oneCell' = true) {cs : Array Bool} {v : Value} {n : Nat} {xs : List Value} [hs : OwnS H v e 1 n xs R]
    {kq : IntKind} {k' : Nat} (hb : (n + k') * m ≤ 140737488355328) (hm : n + k' ≤ 9223372036854775807)
    (k : ∀ v' w', sat E w' (osl e 1 v' (n + k') (xs ++ List.replicate k' z) * R) → K v' w') : ef P (oBi .append #[t, u] ty cs #[v, .int kq k']) w K := by
  obtain ⟨y, hy, hy1, hy2, hy3⟩ := i.parts
  have hz : z.cells = #[z] := by cases z <;> first | rfl | cases hz1
  have hs' := h.perm hs.eq
  have hzc : ∀ q, Builtin.zeroCells z.cells q = (List.replicate q z).toArray := fun q => by
    apply Array.ext'
    rw [hz]
    simp [Builtin.zeroCells]
    apply List.ext_getElem
    · simp
    · intro q1 h1 h2; simp [Nat.mod_one]
  have ef_bi : ∀ {v' w'}, (Builtin.append_ #[t, u] ty #[v, .int kq k']).run P w = .ok v' w' → K v' w' → ef P (oBi .append #[t, u] ty cs #[v, .int kq k']) w K := fun hr hk =>
    ef_of (by simp [oBi, builtin, hr]) hk
  have hwr : IntKind.i64.wrap (k' : Int) = k' := by rw [IntKind.wrap_i64]; omega
  have hneg : ¬ ((k' : Int) < 0) := by omega
  have h48i : ¬ (281474976710656 < (k' : Int) * (y.bytes : Int)) := by
    rw [← Int.natCast_mul, hy3]
    rw [Nat.add_mul] at hb
    omega
  have grow : ∀ (sCap : Nat) (X : HP), sat E w X → n = xs.length → sCap < n + k' → sat E (w.drew.alloc (.cells (xs.toArray ++ Builtin.zeroCells z.cells k' ++ Builtin.zeroCells z.cells (grownCap w (n + k') sCap e - (n + k'))) e)) (osl e 1 (.slice (some ⟨w.heap.size, 0, none⟩) (n + k') (grownCap w (n + k') sCap e)) (n + k') (xs ++ List.replicate k' z) * X) := by
    intro sCap X hX hxl hlt
    have hge := grownCap_ge w (n + k') sCap e
    have hle := grownCap_le_maxLen w (n + k') sCap e (by simp only [maxLen]; omega)
    refine sat_osl.2 (.inr ⟨w.heap.size, _, List.replicate (grownCap w (n + k') sCap e - (n + k')) z, rfl, by simp; omega, ?_, hge, by simp only [maxLen] at hle; omega, ?_⟩)
    · simp; omega
    · have := hX.drew.alloc (.cells (xs.toArray ++ Builtin.zeroCells z.cells k' ++ Builtin.zeroCells z.cells (grownCap w (n + k') sCap e - (n + k'))) e (0, 0))
      have e1 : ((xs ++ List.replicate k' z) ++ List.replicate (grownCap w (n + k') sCap e - (n + k')) z).toArray = xs.toArray ++ Builtin.zeroCells z.cells k' ++ Builtin.zeroCells z.cells (grownCap w (n + k') sCap e - (n + k')) := by
        rw [hzc, hzc]; apply Array.ext'; simp
      rw [e1]; exact this
  rcases sat_osl.1 hs' with ⟨rfl, rfl, rfl, hR⟩ | ⟨b, cap, sp, rfl, hxl, hcl, hnc, hcm, hP⟩
  · by_cases hk0 : k' = 0
    · subst hk0
      refine ef_bi (v' := .slice none 0 0) (w' := w) ?_ (k _ _ (by simpa using osl_nil hR e 1))
      simp [Builtin.append_, run_underlying' i.ul, run_underlying' j.ul, Go.sizeOf, typeInfo, hy, asInt, asIntOf, show IntKind.i64.wrap 0 = 0 from rfl]
    · have hr := Lib.run_append_grow_zeros (P := P) w t u ty e y z kq ku i.ul j.ul hy hy1 none 0 0 [] (by simp [Builtin.firstCells]) k' (by omega) (by omega) (by omega) (by omega) (by rw [hy3]; simp only [Nat.zero_add] at hb; omega) (growslice_fits (by omega) (by rw [hy3]; exact hb))
      exact ef_bi hr (k _ _ (grow 0 R hR rfl (by omega)))
  · have hbl := hP.pts_get
    have hxl : xs.length = n := by omega
    by_cases hk0 : k' = 0
    · subst hk0
      have hst : ∀ (ad : Addr), (storeCells ad ([] : List Value) 0).run P w = .ok () w := fun ad => rfl
      refine ef_bi (v' := .slice (some ⟨b, 0, none⟩) (n + 0) cap) (w' := w) ?_ (k _ _ (by simpa using hs'))
      simp [Builtin.append_, run_underlying' i.ul, run_underlying' j.ul, Go.sizeOf, typeInfo, hy, asInt, asIntOf, show IntKind.i64.wrap 0 = 0 from rfl, hnc, hst]
    by_cases hroom : n + k' ≤ cap
    · have hnew : (if k' * y.size = 0 then pure #[] else (do pure (Builtin.zeroCells (← zeroValue e).cells k') : Sem (Array Value))).run P w = .ok (List.replicate k' z).toArray w := by
        by_cases hk0 : k' = 0
        · subst hk0; simp
        · have : ¬ (k' * y.size = 0) := by rw [hy2]; omega
          rw [if_neg this]
          simp [zeroValue, typeInfo, hy, hy1, hzc]
      have hst := run_storeCells_at P b n e (List.replicate k' z) 0 (xs ++ sp).toArray w hbl (by simp at hcl ⊢; omega) (fun x hx => by rw [(List.mem_replicate.1 hx).2]; exact hz1)
      rw [setRow_putObj hbl] at hst
      refine ef_bi (v' := .slice (some ⟨b, 0, none⟩) (n + k') cap) ?_ (k _ _ (sat_osl.2 (.inr ⟨b, cap, sp.drop k', rfl, by simp; omega, ?_, hroom, hcm, hP.set _⟩)))
      · have hroom' : n + k' ≤ cap := hroom
        have e1 : ((xs ++ sp).toArray.toList.take (n + 0) ++ List.replicate k' z ++ (xs ++ sp).toArray.toList.drop (n + 0 + (List.replicate k' z).length)) = xs ++ List.replicate k' z ++ sp.drop k' := by
          rw [← hxl]
          simp [List.take_left', List.drop_append]
        rw [e1] at hst
        have hst' : (storeCells ((⟨b, 0, none⟩ : Addr).add (n * y.size)) (List.replicate k' z) 0).run P w = .ok () (w.putObj b (.cells (xs ++ List.replicate k' z ++ sp.drop k').toArray e (0, 0))) := by rw [add_addr, hy2, Nat.zero_add, Nat.mul_one]; exact hst
        have : ¬ (k' * y.size = 0) := by rw [hy2]; omega
        have hsz0 : ¬ (y.size = 0) := by omega
        simp [Builtin.append_, run_underlying' i.ul, run_underlying' j.ul, Go.sizeOf, typeInfo, hy, asInt, asIntOf, hwr, hneg, h48i, hroom', hk0, hsz0, zeroValue, hy1, hzc, hst']
        exact fun h => absurd h this
      · simp at hcl ⊢; omega
    · have holds : (Builtin.firstCells y.size n (.slice (some ⟨b, 0, none⟩) n cap)).run P w.drew = .ok xs.toArray w.drew :=
        run_firstCells_some (P := P) w.drew y.size n ⟨b, 0, none⟩ n cap xs (by rw [hy2]; omega) fun j u hj => by
          rw [add_addr]
          have hlt := (List.getElem?_eq_some_iff.1 hj).1
          exact cell_of (w := w.drew) hbl (by simpa [List.getElem?_append_left hlt] using hj)
      by_cases hk0 : k' = 0
      · omega
      · have hr := Lib.run_append_grow_zeros (P := P) w t u ty e y z kq ku i.ul j.ul hy hy1 (some ⟨b, 0, none⟩) n cap xs holds k' (by omega) (by omega) (by omega) (by omega) (by rw [hy3]; rw [Nat.add_mul] at hb; omega) (growslice_fits (by omega) (by rw [hy3]; exact hb))
        exact ef_bi hr (k _ _ (grow cap R hP.drop (by omega) (by omega)))
/-- copy into a row that is owned. -/
theorem copy_in (h : sat E w H) {t u ty e e' m : TypeId} {z : Value} [i : SliceT P t e 1 m z] {cs : Array Bool} {b o n c : Nat} {xs : List Value} [s : Own H b (.cells xs.toArray e' (0, 0)) R]
    {a : Option Addr} {k' c' : Nat} {news : List Value} (hl : news.length = min k' n) (hw : win (hp w) a news) (h1 : ∀ x ∈ news, x.oneCell' = true) (hle : o + news.length ≤ xs.length)
    (k : ∀ w', sat E w' (pts b (.cells (xs.take o ++ news ++ xs.drop (o + news.length)).toArray e' (0, 0)) * R) → K (.int .i64 news.length) w') : ef P (oBi .copy #[t, u] ty cs #[.slice (some ⟨b, o, none⟩) n c, .slice a k' c']) w K := by
  have hs' := h.own b
  have ef_bi : ∀ {v' w'}, (Builtin.copy_ #[t, u] ty #[.slice (some ⟨b, o, none⟩) n c, .slice a k' c']).run P w = .ok v' w' → K v' w' → ef P (oBi .copy #[t, u] ty cs #[.slice (some ⟨b, o, none⟩) n c, .slice a k' c']) w K := fun hr hk =>
    ef_of (by simp [oBi, builtin, hr]) hk
  have hbl := hs'.pts_get
  by_cases hn0 : news = []
  · subst hn0
    have hz : Nat.min k' n = 0 := by simpa using hl.symm
    have hr := run_copy_none (P := P) w t u ty e (some ⟨b, o, none⟩) a n c k' c' i.ul i.size hz
    exact ef_bi hr (by simpa [goInt] using k w (by simpa using hs'))
  · rcases hw with rfl | ⟨b2, o2, cs2, e2, fr2, rfl, hb2, hv2⟩
    · exact absurd rfl hn0
    · have hr := run_copy_row (P := P) w t u ty e b o n c ⟨b2, o2, none⟩ k' c' xs.toArray e' news i.ul i.size hbl hl (fun j v hj => by rw [add_addr]; exact cell_of hb2 (hv2 j v hj)) (by simpa using hle) h1
      rw [setRow_putObj hbl] at hr
      exact ef_bi hr (k _ (hs'.set _))
/-! ### Words and bytes that are read -/
theorem o_shrW' {t : TypeId} {a : UInt32} {k : IntKind} {x : Int} (h0 : 0 ≤ x) (h1 : x < 32) : pvv P (binOp .shr t (wv a) (.int k x)) w K = K (wv (a >>> UInt32.ofNat x.toNat)) w := by
  obtain ⟨n, rfl⟩ := Int.eq_ofNat_of_zero_le h0
  rw [o_shrW (by omega)]; rfl
theorem o_shlW' {t : TypeId} {a : UInt32} {k : IntKind} {x : Int} (h0 : 0 ≤ x) (h1 : x < 32) : pvv P (binOp .shl t (wv a) (.int k x)) w K = K (wv (a <<< UInt32.ofNat x.toNat)) w := by
  obtain ⟨n, rfl⟩ := Int.eq_ofNat_of_zero_le h0
  rw [o_shlW (by omega)]; rfl
theorem o_convBW {s d : TypeId} {x : UInt8} [i : Ul P s (.int .u8)] [j : Ul P d (.int .u32)] : pvv P (convert s d (bv x)) w K = K (wv x.toUInt32) w := by
  unfold bv wv
  rw [o_convInt, IntKind.wrap_u32]
  have := x.toNat_lt
  congr 2
  simp; omega
theorem o_convWB {s d : TypeId} {x : UInt32} [i : Ul P s (.int .u32)] [j : Ul P d (.int .u8)] : pvv P (convert s d (wv x)) w K = K (bv x.toUInt8) w := by
  unfold bv wv
  rw [o_convInt, IntKind.wrap_u8]
  congr 2
theorem getbv {l : List UInt8} {j : Nat} (h : j < l.length) : (l.map bv)[j]? = some (bv (l.getD j 0)) := by
  simp [List.getD_eq_getElem?_getD, h]
theorem getwv {l : List UInt32} {r : List Value} {j : Nat} (h : j < l.length) : (l.map wv ++ r)[j]? = some (wv (l.getD j 0)) := by
  rw [List.getElem?_append_left (by simpa using h)]
  simp [List.getD_eq_getElem?_getD, h]
theorem getwv' {l : List UInt32} {j : Nat} (h : j < l.length) : (l.map wv)[j]? = some (wv (l.getD j 0)) := by
  simp [List.getD_eq_getElem?_getD, h]
theorem Rds.opened {v : Value} {n : Nat} {xs : List Value} (hb : Rds H v n xs) (h : sat E w H) (hn : 0 < xs.length) : ∃ b o c, v = .slice (some ⟨b, o, none⟩) n c ∧ n ≤ c ∧ Rds H (.slice (some ⟨b, o, none⟩) n c) n xs := by
  obtain ⟨a, c, rfl, hc, hw⟩ := hb E w h
  rcases hw with rfl | ⟨b, o, _, _, _, rfl, _, _⟩
  · simp at hn
  · exact ⟨b, o, c, rfl, hc, hb⟩
theorem Rds.cell {b o n c : Nat} {xs : List Value} (hb : Rds H (.slice (some ⟨b, o, none⟩) n c) n xs) (h : sat E w H) {q j : Nat} {v : Value} (hq : q = o + j) (hv : xs[j]? = some v) : w.cell? ⟨b, q, none⟩ = some v := by
  subst hq
  exact win.cell (hb.win h) b o rfl j v hv
theorem ld_rd (h : sat E w H) {t b o n c q : Nat} {xs : List Value} {v : Value} [i : OneC P t] (hb : Rds H (.slice (some ⟨b, o, none⟩) n c) n xs) (j : Nat) (hq : q = o + j) (hv : xs[j]? = some v) (k : K v w) :
    ldv P (Instr.loadAt t (.pointer (some ⟨b, q, none⟩))) w K := ld_cell (hb.cell h hq hv) k
theorem st_rd (h : sat E w H) {g : Gd} {t b o n c q : Nat} {xs : List Value} {v : Value} {A : Prop} [i : OneC P t] (hb : Rds H (.slice (some ⟨b, o, none⟩) n c) n xs) (j : Nat) (hq : q = o + j) (hv : xs[j]? = some v) (k : A) :
    stv P g (Instr.loadAt t (.pointer (some ⟨b, q, none⟩))) v w A := st_cell (hb.cell h hq hv) k
/-- append(v, u). -/
theorem push_sl (h : sat E w H) {t ty e m : Nat} {z : Value} [i : SliceT P t e 1 m z] {cs : Array Bool} {v : Value} {n : Nat} {xs : List Value} [hs : OwnS H v e 1 n xs R] {u : Value} (hz : z.oneCell' = true) (hu : u.oneCell' = true)
    (hb : (n + 1) * m ≤ 140737488355328) (hm : n + 1 ≤ 9223372036854775807)
    (k : ∀ v' w', sat E w' (osl e 1 v' (n + 1) (xs ++ [u]) * R) → K v' w') : efv P (Instr.buildSlice t 1 #[(0, u)]) w fun t1 w => ef P (oBi .append #[t, t] ty cs #[v, t1]) w K := by
  obtain ⟨y, hy, hy1, hy2, hy3⟩ := i.parts
  have hcu : u.cells = #[u] := by cases u <;> first | rfl | cases hu
  have hcz : z.cells = #[z] := by cases z <;> first | rfl | cases hz
  refine buildSlice_sl h (e := e) (cs := #[u]) (fun w => ?_) fun b w h => ?_
  · have ht : (typeInfo e).run P w = .ok y w := by simp [typeInfo, hy]
    simp [Instr.buildSlice, run_underlying' i.ul, Go.sizeOf, zeroValue, ht, hy1, hy2, hcz, Instr.fill, hcu, newRow]
    have e0 : Array.range 1 = #[0] := rfl
    have e9 : ∀ f : Nat → Value, (Array.map f #[0]).setIfInBounds 0 u = #[u] := fun f => by simp
    rw [e0, e9]
  · refine append_sl h [u] rfl (.inr ⟨b, 0, #[u], e, (0, 0), rfl, h.pts_get, fun j v hj => by simpa using hj⟩) (by simpa using hu) hb hm fun v' w h => k _ _ (h.lose b)
end
end Hold

/-
  The form's own reach handed on: each argument's size is bounded; openers of arguments with it.
-/
set_option linter.all false
namespace Hold
open Go Go.ChangeShapes Go.WideShapes Go.RowKit

/-- A law's step, from its walk; the arguments' sizes are handed on. -/
theorem law_liftedS {H : Type} {enc : TypeId × Value → H} {C : Checked} {os : Os} {f : FuncId} {fn : Func} {s : ChangeSpec} {conds : List PathCond} {apart fresh handsOn again : Bool} {tb : TypeId}
    (own : ownKnob C.prog.godebug = none) (started : os.Started) (noInit : C.prog.inits.idxOf? f = none) (hfn : C.prog.funcs[f]? = some fn)
    (witness : ∃ (w : World) (tape : Tape) (i : Input), w.os = os ∧ (w.forCall tape i).Shaped C.prog ∧ i.vars = [] ∧ Input.okWide C.prog (w.forCall tape i) .any w.heap.size f i ∧
      s.pre6 enc C.prog fn conds apart (w.forCall tape i).memory i.args ∧ ({} : Assume).holds C.prog (lone (Frame.enter C.prog f i.args .normal) [] (w.forCall tape i)))
    (hl : laidOutB C.prog = true) (hp : fn.params.toList.all (fun t => C.prog.readableRec t && decide (t < C.prog.types.size)) = true) (hrt : fn.resultTypes = #[tb]) (htb : C.prog.underlying tb = some .bool) (hv : s.vars = [])
    (hs : ∀ ds : List (DataW H), ds.length = fn.params.toList.length → s.fn H ds = { results := [.lit (.bool true)], args := ds })
    (walk : ∀ (W : World) (args : Array Value) (ds : List (DataW H)) (ps : List MemPlace), (∀ (j : Nat) t v, fn.params.toList[j]? = some t → args.toList[j]? = some v → ∃ base, Value.okWide C.prog W .any base t v) →
      DataW.TrodAll enc C.prog W 0 (fun _ => true) true fn.params.toList args.toList ds ps →
      (∀ (j : Nat) t d, fn.params.toList[j]? = some t → ds[j]? = some d → ∀ n ∈ d.weights C.prog t, n ≤ 140737488351232) → Calls C.prog f args W (Ret fun v W' => v = .bool true ∧ Below W.heap.size W W')) :
    ReturnsInHanded {} C os f .any (s.pre6 enc C.prog fn conds apart) (s.post enc C.prog fn apart fresh handsOn again) := by
  refine returnsInHanded_of_change_sized own started noInit hfn witness ?_
  intro W base args ds gs before hval hW _ hsz _
  have hW' := hW
  obtain ⟨p, q, hA, hV, _⟩ := hW
  have hlen : ∀ {ts : List TypeId} {vs : List Value} {ds : List (DataW H)} {ps : List MemPlace}, DataW.TrodAll enc C.prog W 0 (fun _ => true) true ts vs ds ps → ds.length = ts.length := by
    intro ts
    induction ts with
    | nil => intro vs ds ps h; obtain ⟨_, rfl, _⟩ := trodAll_nil h; rfl
    | cons t ts ih => intro vs ds ps h; obtain ⟨v, vs, d, ds, p, q, _, rfl, _, _, h2⟩ := trodAll_cons h; simp [ih h2]
  have hw : ∀ (j : Nat) t d, fn.params.toList[j]? = some t → ds[j]? = some d → ∀ n ∈ d.weights C.prog t, n ≤ 140737488351232 := fun j t d h1 h2 n hn => by
    have l1 := (List.getElem?_eq_some_iff.1 h1).1
    have l2 := (List.getElem?_eq_some_iff.1 h2).1
    have := List.all_eq_true.1 hsz _ (DataW.weights_mem_each (j := j) (t := t) (d := d) (by rw [List.getElem?_append_left l1]; exact h1) (by rw [List.getElem?_append_left l2]; exact h2) n hn)
    have e : reachBytes = 140737488351232 := by decide
    rw [e] at this
    simpa using this
  refine (walk W args ds p (fun j t v h1 h2 => ⟨base, hval j t v (by simpa using h1) (by simpa using h2)⟩) hA hw).mono fun e W' ⟨v, he, hv2, hb⟩ => ?_
  subst hv2
  refine ⟨_, he, law_post hl (fun t ht => ?_) hrt htb hv (hs ds (hlen hA)) hW' hb⟩
  have := List.all_eq_true.1 hp t ht
  simpa using this

variable {H : Type} {enc : TypeId × Value → H} {P : Program} {W : World} {r : Reach} {b0 : Nat} {v : Value} {d : DataW H} {p : List MemPlace}
theorem open_bytesS {t e : TypeId} (ht : P.underlying t = some (.slice e)) (he : P.underlying e = some (.int .u8)) (hc : P.cellsOf e = 1) (h1 : P.bytesOf e = 1)
    (hv : Value.okWide P W r b0 t v) (h : DataW.Trod enc P W 0 (fun _ => true) true t v d p) (hw : ∀ n ∈ d.weights P t, n ≤ 140737488351232) : ∃ l : List UInt8, Rds (old W) v l.length (l.map bv) ∧ l.length ≤ 140737488351232 := by
  obtain ⟨l, hr, _⟩ := open_bytesG ht he hc hv h
  refine ⟨l, hr, ?_⟩
  obtain ⟨a, len, cap, rfl⟩ := okWide_slice ht hv
  obtain ⟨a2, c2, e2, hc2, _⟩ := hr _ W (sat.start W)
  cases e2
  obtain ⟨fuel, hf⟩ := h
  rcases open_ints (k := .u8) ht he hc hf with ⟨e, _⟩ | ⟨a', len', cap', zs, e, _, hlc, hcm, hz, hd, hx, hwf⟩
  · simp [Value.cells] at e
    omega
  · simp [Value.cells] at e
    obtain ⟨rfl, rfl, rfl⟩ := e
    simp at hd
    obtain ⟨rfl, _⟩ := hd
    simp at hz
    have := hw ((lits (H := H) .u8 (zs.take l.length)).length + (lits (H := H) .u8 (zs.drop l.length)).length) (by simp [DataW.weights, ht, h1])
    simp [lits] at this
    omega
theorem weightsAll_mem {e : TypeId} : ∀ {ds : List (DataW H)} {d : DataW H}, d ∈ ds → ∀ n ∈ d.weights P e, n ∈ DataW.weightsAll P e ds
  | x :: ds, d, hd, n, hn => by
    simp only [DataW.weightsAll, List.mem_append]
    rcases List.mem_cons.1 hd with rfl | hd
    · exact .inl hn
    · exact .inr (weightsAll_mem hd n hn)
theorem open_textsS {t e : TypeId} (ht : P.underlying t = some (.slice e)) (he : P.underlying e = some .string) (hc : P.cellsOf e = 1) (h1 : P.bytesOf e = 16)
    (hv : Value.okWide P W r b0 t v) (h : DataW.Trod enc P W 0 (fun _ => true) true t v d p) (hw : ∀ n ∈ d.weights P t, n ≤ 140737488351232) :
    ∃ cs : List (List UInt8), Rds (old W) v cs.length (cs.map tv) ∧ cs.length * 16 ≤ 140737488351232 ∧ ∀ c ∈ cs, c.length ≤ 140737488351232 := by
  obtain ⟨a, len, cap, rfl⟩ := okWide_slice ht hv
  obtain ⟨fuel, hf⟩ := h
  rcases open_strings ht he hc hf with ⟨e, _⟩ | ⟨a', len', cap', ss, e, _, hlc, hcm, hz, hd, hx, _⟩
  · simp [Value.cells] at e
    obtain ⟨rfl, rfl, rfl⟩ := e
    exact ⟨[], rds_old ⟨none, 0, rfl, Nat.le_refl _, .inl rfl⟩, by simp, by simp⟩
  · simp [Value.cells] at e
    obtain ⟨rfl, rfl, rfl⟩ := e
    simp at hz
    simp only [Prod.mk.injEq] at hd
    obtain ⟨rfl, _⟩ := hd
    have hl : ((ss.take len).map fun s : ByteArray => s.data.toList).length = len := by simp; omega
    have hw1 := hw (((strs (H := H) (ss.take len)).length + (strs (H := H) (ss.drop len)).length) * P.bytesOf e) (by simp [DataW.weights, ht])
    rw [h1] at hw1
    have hlt : (strs (H := H) (ss.take len)).length = len := by simp [strs]; omega
    refine ⟨(ss.take len).map fun s : ByteArray => s.data.toList, ?_, ?_, ?_⟩
    · rw [hl]
      refine rds_old ⟨some a', cap, rfl, hlc, win_of_cells fun j v hj => ?_⟩
      have hj2 := (List.getElem?_eq_some_iff.1 hj).1
      simp at hj2
      rw [hx j (by omega)]
      rw [List.getElem?_map, List.getElem?_map, List.getElem?_take, if_pos (by omega), List.getElem?_eq_getElem (by omega)] at hj
      simp only [Option.map_some, Option.some.injEq] at hj
      rw [← hj, List.getD_eq_getElem?_getD, List.getElem?_eq_getElem (by omega)]
      simp [tv]
    · rw [hl]
      rw [hlt, Nat.add_mul] at hw1
      omega
    · intro c hcm2
      obtain ⟨s, hs, rfl⟩ := List.mem_map.1 hcm2
      refine hw s.data.toList.length ?_
      simp only [DataW.weights, ht]
      refine List.mem_cons_of_mem _ (List.mem_append_left _ (weightsAll_mem (d := .lit (.string s.data.toList)) ?_ _ (by simp [DataW.weights])))
      simp only [strs, List.mem_map]
      exact ⟨s, hs, rfl⟩
theorem open_textS {t : TypeId} (ht : P.underlying t = some .string) (hv : Value.okWide P W r b0 t v) (h : DataW.Trod enc P W 0 (fun _ => true) true t v d p) (hw : ∀ n ∈ d.weights P t, n ≤ 140737488351232) :
    ∃ l : List UInt8, v = tv l ∧ l.length ≤ 140737488351232 := by
  obtain ⟨s, rfl, rfl, _, _⟩ := Go.ChangeMaps.open_string ht hv h
  refine ⟨s.data.toList, by simp [tv], ?_⟩
  exact hw _ (by simp [DataW.weights])
theorem open_intG {t : TypeId} (ht : P.underlying t = some (.int .i64)) (hv : Value.okWide P W r b0 t v) (h : DataW.Trod enc P W 0 (fun _ => true) true t v d p) :
    ∃ n : Int, v = .int .i64 n ∧ (-9223372036854775808 ≤ n ∧ n ≤ 9223372036854775807) := by
  obtain ⟨n, rfl, _, _, hw⟩ := open_int ht hv h
  refine ⟨n, rfl, ?_⟩
  simpa [Lit.wf, IntKind.min, IntKind.max, IntKind.signed, IntKind.bits] using hw
theorem open_u8G {t : TypeId} (ht : P.underlying t = some (.int .u8)) (hv : Value.okWide P W r b0 t v) (h : DataW.Trod enc P W 0 (fun _ => true) true t v d p) : ∃ b : UInt8, v = bv b := by
  obtain ⟨n, rfl, _, _, hw⟩ := open_int ht hv h
  exact u8_wf hw
/-- An array of bytes. -/
theorem open_arrB {t e : TypeId} {n : Nat} (ht : P.underlying t = some (.array n e)) (he : P.underlying e = some (.int .u8)) (hc : P.cellsOf e = 1) (hct : P.cellsOf t = n)
    (hv : Value.okWide P W r b0 t v) (h : DataW.Trod enc P W 0 (fun _ => true) true t v d p) : ∃ l : List UInt8, v = .agg (l.map bv).toArray ∧ l.length = n := by
  simp only [Value.okWide, ht] at hv
  obtain ⟨cs, rfl, h2, _⟩ := hv
  obtain ⟨fuel, hf⟩ := h
  obtain ⟨xs, m, rfl, _, hl, hxl, hx⟩ := DataW.trod_array ht hf
  simp only [Value.cells] at hl hx
  rw [hct] at hl
  have hb : ∀ i, i < n → ∃ b : UInt8, cs.toList[i]? = some (bv b) := fun i hi => by
    have := hx i hi
    rw [hc, Nat.mul_one] at this
    rw [List.getElem?_eq_getElem (by omega)] at this
    obtain ⟨z, hz, _, hwf⟩ := DataW.trod_int he this
    obtain ⟨b, hb⟩ := u8_wf hwf
    refine ⟨b, ?_⟩
    rw [← hb]
    have h0 : ((cs.toList.drop i).take 1)[0]? = some (Value.int .u8 z) := by rw [hz]; rfl
    rw [List.getElem?_take, if_pos (by omega), List.getElem?_drop] at h0
    simpa using h0
  have key : ∀ (L : List Value), (∀ i, i < L.length → ∃ b : UInt8, L[i]? = some (bv b)) → ∃ l : List UInt8, L = l.map bv := by
    intro L
    induction L with
    | nil => intro _; exact ⟨[], rfl⟩
    | cons x L ih =>
      intro hL
      obtain ⟨b, hb0⟩ := hL 0 (by simp)
      obtain ⟨l, rfl⟩ := ih fun i hi => by
        obtain ⟨b, hb⟩ := hL (i + 1) (by simpa using hi)
        exact ⟨b, by simpa using hb⟩
      simp at hb0
      exact ⟨b :: l, by simp [hb0]⟩
  obtain ⟨l, hl2⟩ := key cs.toList (fun i hi => hb i (by simp at hl hi; omega))
  have hln : l.length = n := by
    have := congrArg List.length hl2
    simp at this hl
    omega
  exact ⟨l, by rw [← hl2], hln⟩
end Hold

/-
  Strings: joined, cut, indexed; made bytes and back; a builder's string.
-/
set_option linter.all false
namespace Hold
open Go
section
variable {P : Program} {E : World0} {w : World} {H R : HP} {K : Value → World → Prop}
theorem rds_row {b e n c : Nat} {xs sp : List Value} {fr : Nat × Nat} [hb : Has H b (.cells (xs ++ sp).toArray e fr)] (hc : n ≤ c) : Rds H (.slice (some ⟨b, 0, none⟩) n c) n xs := fun E w hs =>
  ⟨_, c, rfl, hc, .inr ⟨b, 0, _, _, _, rfl, hb.get hs, fun j v hj => by
    have hlt := (List.getElem?_eq_some_iff.1 hj).1
    simpa [List.getElem?_append_left hlt] using hj⟩⟩
/-- []byte(s). -/
theorem conv_sb (h : sat E w H) {s d e n m : TypeId} {z : Value} [i : Ul P s .string] [j : SliceT P d e n m z] [q : Ul P e (.int .u8)] {l : List UInt8}
    (k : ∀ b c sp fr w', sat E w' (pts b (.cells (l.map bv ++ sp).toArray e fr) * H) → l.length ≤ c → K (.slice (some ⟨b, 0, none⟩) l.length c) w') : efv P (convert s d (tv l)) w K := by
  have hsz : (⟨l.toArray⟩ : ByteArray).size = l.length := by simp [ByteArray.size]
  have hr := run_bytes_of_string (P := P) w s d e ⟨l.toArray⟩ i.ul j.ul q.ul
  rw [hsz] at hr
  have hge : l.length ≤ grownCap w l.length 0 e := grownCap_ge w l.length 0 e
  have e1 : bytesRow ⟨l.toArray⟩ (grownCap w l.length 0 e) = (l.map bv ++ List.replicate (grownCap w l.length 0 e - l.length) (Value.int .u8 0)).toArray := by
    apply Array.ext'
    simp [bytesRow, bv, ByteArray.size]
  rw [e1] at hr
  exact efv_of hr (k _ _ _ _ _ (h.drew.alloc _) hge)
/-- A block's mark. -/
theorem sat.setO {b : Nat} {o : Obj} (h : sat E w (pts b o * R)) (o' : Obj) {w' : World} (hw : w' = w.putObj b o') : sat E w' (pts b o' * R) := by subst hw; exact h.set o'
theorem freeze_put {b n : Nat} {xs : Array Value} {e : TypeId} {o : Nat} (h : w.heap[b]? = some (.cells xs e (0, 0))) (hn : n ≠ 0) : w.freeze ⟨b, o, none⟩ n = w.putObj b (.cells xs e (o, o + n)) := by
  have hlt := (Array.getElem?_eq_some_iff.1 h).1
  unfold World.freeze World.putObj
  rw [if_neg hn]
  congr 1
  refine Array.ext_getElem? fun i => ?_
  rw [Array.getElem?_modify, Array.getElem?_setIfInBounds]
  by_cases hi : b = i
  · subst hi
    have hx : w.heap[b] = .cells xs e (0, 0) := (Array.getElem?_eq_some_iff.1 h).2
    simp [hlt, hx]
  · simp [hi]
theorem conv_const (h : sat E w H) {t e n m : TypeId} {z : Value} [i : SliceT P t e n m z] [q : Ul P e (.int .u8)] {b l c : Nat} {xs : Array Value} [s : Own H b (.cells xs e (0, 0)) R]
    (k : ∀ fr w', sat E w' (pts b (.cells xs e fr) * R) → K (.slice (some ⟨b, 0, none⟩) l c) w') : efv P (convert t t (.slice (some ⟨b, 0, none⟩) l c)) w K := by
  have hs := h.own b
  have hb := hs.pts_get
  have hsh : w.shape? b = some (e, xs.size) := by simp [World.shape?, hb]
  refine efv_of (v := .slice (some ⟨b, 0, none⟩) l c) (w' := w.freeze ⟨b, xs.size, none⟩ 1) ?_ (k _ _ (hs.setO _ (freeze_put hb (by decide))))
  simp [convert, run_underlying' i.ul, run_underlying' q.ul, markStringish, hsh]
theorem o_catT {t : TypeId} {a b : List UInt8} (hl : a.length + b.length ≤ 9223372036854775807) : pvv P (binOp .add t (tv a) (tv b)) w K = K (tv (a ++ b)) w := pvv_eq fun w => by
  have h1 : ¬ (9223372036854775807 : Int) < ((a.length : Int) + (b.length : Int)) := by omega
  have hm : IntKind.i64.max = 9223372036854775807 := rfl
  have h2 : ¬ ((((⟨a.toArray⟩ : ByteArray).size + (⟨b.toArray⟩ : ByteArray).size : Nat) : Int) > IntKind.i64.max) := by
    rw [hm]; simp only [ByteArray.size, List.size_toArray]; omega
  have e : (⟨a.toArray⟩ ++ ⟨b.toArray⟩ : ByteArray) = ⟨(a ++ b).toArray⟩ := by
    apply ByteArray.ext
    simp
  unfold tv
  simp only [binOp, Op.stringOp]
  rw [if_neg h2, e]
  rfl
theorem o_indexT {t : TypeId} [i : Ul P t .string] {l : List UInt8} {k : IntKind} {x : Int} (h0 : 0 ≤ x) (h1 : x.toNat < l.length) : pvv P (Instr.index t (tv l) (.int k x)) w K = K (bv (l.getD x.toNat 0)) w := by
  have hs : x.toNat < (⟨l.toArray⟩ : ByteArray).size := by simpa [ByteArray.size] using h1
  have e : (⟨l.toArray⟩ : ByteArray)[x.toNat]'hs = l.getD x.toNat 0 := by
    have e2 : (⟨l.toArray⟩ : ByteArray)[x.toNat]'hs = l[x.toNat]'h1 := rfl
    rw [e2, List.getD_eq_getElem?_getD, List.getElem?_eq_getElem h1]; rfl
  unfold tv
  rw [o_indexS h0 hs, e]
  rfl
theorem o_sliceT {t : TypeId} [i : Ul P t .string] {l : List UInt8} {k k' : IntKind} {x y : Int} (h0 : 0 ≤ x) (h1 : x ≤ y) (h2 : y ≤ l.length) :
    pvv P (Instr.sliceAt t (tv l) (some (.int k x)) (some (.int k' y)) none) w K = K (tv ((l.drop x.toNat).take (y.toNat - x.toNat))) w := pvv_eq fun w => by
  obtain ⟨x, rfl⟩ := Int.eq_ofNat_of_zero_le h0
  obtain ⟨y, rfl⟩ := Int.eq_ofNat_of_zero_le (show 0 ≤ y by omega)
  have h1' : x ≤ y := by omega
  have h2' : y ≤ l.length := by omega
  have e : (⟨l.toArray⟩ : ByteArray).extract x y = ⟨((l.drop x).take (y - x)).toArray⟩ := by
    apply ByteArray.ext
    simp [ByteArray.data_extract, List.drop_take]
  have hsz : (⟨l.toArray⟩ : ByteArray).size = l.length := by simp [ByteArray.size]
  unfold tv
  rw [Int.toNat_natCast, Int.toNat_natCast, ← e]
  simp [Instr.sliceAt, Instr.slice, Instr.sliceBounds, Instr.sliceBound, asIntOf, run_underlying' i.ul, hsz, h1', h2']
/-- A call of a function without a body that the model carries out at once. -/
theorem ef_ext {f : FuncId} {args : Array Value} {v : Value} (hr : ∀ w, (oCall (.func (.func f) #[] #[]) args).run P w = .ok (.value v) w) (k : K v w) : ef P (oCall (.func (.func f) #[] #[]) args) w K := ef_of (hr w) k
theorem unsafe_data {t u : TypeId} {cs : Array Bool} {a : Addr} {n c : Nat} (hc : c ≠ 0) (k : K (.pointer (some a)) w) : ef P (oBi .unsafeSliceData #[t] u cs #[.slice (some a) n c]) w K := by
  refine ef_of (v := .pointer (some a)) (w' := w) ?_ k
  have := Lib.run_unsafeSliceData_row (P := P) (w := w) #[t] u a n c hc
  simp [oBi, builtin, this]
theorem unsafe_str (h : sat E w H) {pt it ty e : TypeId} {cs : Array Bool} [i : Ul P pt (.pointer e)] (hce : P.cellsOf e = 1) {b : Nat} {l : List UInt8} {sp : List Value} [s : Own H b (.cells (l.map bv ++ sp).toArray e (0, 0)) R] (h0 : l ≠ []) (h63 : l.length ≤ 9223372036854775807)
    (k : ∀ fr w', sat E w' (pts b (.cells (l.map bv ++ sp).toArray e fr) * R) → K (tv l) w') : ef P (oBi .unsafeString #[pt, it] ty cs #[.pointer (some ⟨b, 0, none⟩), .int .i64 l.length]) w K := by
  have hs := h.own b
  have hb := hs.pts_get
  have hl : l.length ≠ 0 := by simpa using h0
  have hr := Lib.run_unsafeString_row (P := P) (w := w) pt it ty e i.ul hce b _ (by simp [World.shape?, hb]; rfl) l h0 (by simp) h63 (fun j x hj => by
    rw [add_addr]
    have hlt := (List.getElem?_eq_some_iff.1 hj).1
    refine cell_of hb ?_
    simp [List.getElem?_append_left, hlt, bv]
    exact (List.getElem?_eq_some_iff.1 hj).2 ▸ rfl)
  refine ef_of (v := tv l) (w' := w.freeze ⟨b, 0, none⟩ l.length) ?_ (k _ _ (hs.setO _ (freeze_put hb hl)))
  simp [oBi, builtin, hr, tv]
theorem o_sliceT_l {t : TypeId} [i : Ul P t .string] {l : List UInt8} {k : IntKind} {x : Int} (h0 : 0 ≤ x) (h1 : x ≤ l.length) :
    pvv P (Instr.sliceAt t (tv l) (some (.int k x)) none none) w K = K (tv (l.drop x.toNat)) w := pvv_eq fun w => by
  obtain ⟨x, rfl⟩ := Int.eq_ofNat_of_zero_le h0
  have h1' : x ≤ l.length := by omega
  have e : (⟨l.toArray⟩ : ByteArray).extract x l.length = ⟨(l.drop x).toArray⟩ := by
    apply ByteArray.ext
    simp [ByteArray.data_extract]
    exact List.take_of_length_le (by simp)
  have hsz : (⟨l.toArray⟩ : ByteArray).size = l.length := by simp [ByteArray.size]
  unfold tv
  rw [Int.toNat_natCast, ← e]
  simp [Instr.sliceAt, Instr.slice, Instr.sliceBounds, Instr.sliceBound, asIntOf, run_underlying' i.ul, hsz, h1']
theorem o_sliceT_h {t : TypeId} [i : Ul P t .string] {l : List UInt8} {k : IntKind} {x : Int} (h0 : 0 ≤ x) (h1 : x ≤ l.length) :
    pvv P (Instr.sliceAt t (tv l) none (some (.int k x)) none) w K = K (tv (l.take x.toNat)) w := pvv_eq fun w => by
  obtain ⟨x, rfl⟩ := Int.eq_ofNat_of_zero_le h0
  have h1' : x ≤ l.length := by omega
  have e : (⟨l.toArray⟩ : ByteArray).extract 0 x = ⟨(l.take x).toArray⟩ := by
    apply ByteArray.ext
    simp [ByteArray.data_extract]
  have hsz : (⟨l.toArray⟩ : ByteArray).size = l.length := by simp [ByteArray.size]
  unfold tv
  rw [Int.toNat_natCast, ← e]
  simp [Instr.sliceAt, Instr.slice, Instr.sliceBounds, Instr.sliceBound, asIntOf, run_underlying' i.ul, hsz, h1']
/-- The order of texts. -/
def lexB : List UInt8 → List UInt8 → Bool
  | [], [] => false
  | [], _ :: _ => true
  | _ :: _, [] => false
  | a :: as, b :: bs => if a = b then lexB as bs else decide (a < b)
theorem bytesLess_lexB : ∀ a b : List UInt8, Op.bytesLess a b = lexB a b
  | [], [] => rfl
  | [], _ :: _ => rfl
  | _ :: _, [] => rfl
  | a :: as, b :: bs => by
    have ih := bytesLess_lexB as bs
    unfold Op.bytesLess lexB
    rw [ih]
    by_cases h : a = b
    · subst h; simp
    · by_cases h2 : a < b <;> simp [h, h2]
theorem o_lssT {t : TypeId} {a b : List UInt8} : pvv P (binOp .lss t (tv a) (tv b)) w K = K (.bool (lexB a b)) w := pvv_eq fun w => by
  have : (⟨a.toArray⟩ : ByteArray).toList = a ∧ (⟨b.toArray⟩ : ByteArray).toList = b := by simp [ByteArray.toList_eq]
  simp only [binOp, Op.stringOp, tv, this.1, this.2, bytesLess_lexB]
  rfl
end
end Hold

/-
  Structs within blocks: parts of a written list, elements of several cells, the sameness of structs.
-/
set_option linter.all false
namespace Hold
open Go
section
variable {P : Program} {E : World0} {w : World} {H R : HP} {K : Value → World → Prop}
theorem take_cell {xs ys : List Value} {o n j : Nat} {v : Value} (hy : (xs.drop o).take n = ys) (hj : ys[j]? = some v) : xs[o + j]? = some v := by
  subst hy
  rw [List.getElem?_take] at hj
  split at hj
  · rwa [List.getElem?_drop] at hj
  · cases hj
theorem ld_part (h : sat E w H) {t n b o e : Nat} {xs : List Value} {fr : Nat × Nat} [i : AggC P t n] [hb : Has H b (.cells xs.toArray e fr)] (ys : List Value) (hn : ys.length = n) (hy : (xs.drop o).take n = ys) (k : K (.agg ys.toArray) w) :
    ldv P (Instr.loadAt t (.pointer (some ⟨b, o, none⟩))) w K :=
  ldv_of (run_loadN hn fun j v hj => cell_of (hb.get h) (by simpa using take_cell hy hj)) k
theorem st_part (h : sat E w H) {g : Gd} {t n b o e : Nat} {xs : List Value} {fr : Nat × Nat} {A : Prop} [i : AggC P t n] [hb : Has H b (.cells xs.toArray e fr)] (ys : List Value) (hn : ys.length = n) (hy : (xs.drop o).take n = ys) (k : A) :
    stv P g (Instr.loadAt t (.pointer (some ⟨b, o, none⟩))) (.agg ys.toArray) w A :=
  stv_of (run_loadN hn fun j v hj => cell_of (hb.get h) (by simpa using take_cell hy hj)) k
theorem store_part (h : sat E w H) {t n b o e : Nat} {xs vs : List Value} [i : AggC P t n] [hb : Own H b (.cells xs.toArray e (0, 0)) R] (ys : List Value) (hn : vs.length = n) (h1 : ∀ x ∈ vs, x.oneCell' = true) (hl : o + n ≤ xs.length)
    (hy : xs.take o ++ vs ++ xs.drop (o + n) = ys) (k : ∀ w', sat E w' (pts b (.cells ys.toArray e (0, 0)) * R) → K undef w') :
    efu P (Instr.storeAt t (.pointer (some ⟨b, o, none⟩)) (.agg vs.toArray)) w K := by
  subst hy
  exact storeN_sl (b := b) h i.size (vs := vs) (by simp [Value.cells]) hn h1 hl k
/-- A store of a struct over all of its block. -/
theorem store_all (h : sat E w H) {t n b e : Nat} {xs vs : List Value} [i : AggC P t n] [hb : Own H b (.cells xs.toArray e (0, 0)) R] (hx : xs.length = n) (hn : vs.length = n) (h1 : ∀ x ∈ vs, x.oneCell' = true)
    (k : ∀ w', sat E w' (pts b (.cells vs.toArray e (0, 0)) * R) → K undef w') :
    efu P (Instr.storeAt t (.pointer (some ⟨b, 0, none⟩)) (.agg vs.toArray)) w K :=
  store_part (b := b) h vs hn h1 (by omega) (by rw [List.take_zero, List.nil_append, List.drop_eq_nil_of_le (by omega), List.append_nil]) k
/-- An element of several cells. -/
theorem ld_el (h : sat E w H) {t b o n c q sz : Nat} {xs : List Value} [i : AggC P t sz] (hb : Rds H (.slice (some ⟨b, o, none⟩) n c) n xs) (d : Nat) (hq : q = o + d) (ys : List Value) (hn : ys.length = sz) (hy : (xs.drop d).take sz = ys) (k : K (.agg ys.toArray) w) :
    ldv P (Instr.loadAt t (.pointer (some ⟨b, q, none⟩))) w K :=
  ldv_of (run_loadN hn fun j v hj => hb.cell h (by omega) (take_cell hy hj)) k
theorem st_el (h : sat E w H) {g : Gd} {t b o n c q sz : Nat} {xs : List Value} {A : Prop} [i : AggC P t sz] (hb : Rds H (.slice (some ⟨b, o, none⟩) n c) n xs) (d : Nat) (hq : q = o + d) (ys : List Value) (hn : ys.length = sz) (hy : (xs.drop d).take sz = ys) (k : A) :
    stv P g (Instr.loadAt t (.pointer (some ⟨b, q, none⟩))) (.agg ys.toArray) w A :=
  stv_of (run_loadN hn fun j v hj => hb.cell h (by omega) (take_cell hy hj)) k
theorem o_slice_hm {t e n m : Nat} {z : Value} [i : SliceT P t e n m z] {a : Option Addr} {l c : Nat} {k k' : IntKind} {y x : Int} (h0 : 0 ≤ y) (h1 : y ≤ x) (h2 : x ≤ c) :
    pvv P (Instr.sliceAt t (.slice a l c) none (some (.int k y)) (some (.int k' x))) w K = K (.slice a y.toNat x.toNat) w := by
  obtain ⟨y, rfl⟩ := Int.eq_ofNat_of_zero_le h0
  obtain ⟨x, rfl⟩ := Int.eq_ofNat_of_zero_le (show 0 ≤ x by omega)
  have h1' : y ≤ x := by omega
  have h2' : x ≤ c := by omega
  exact pvv_eq fun w => by
    have ha : ∀ a : Addr, a.add 0 = a := fun a => by cases a; unfold Addr.add; split <;> simp_all
    cases a <;> simp [Instr.sliceAt, Instr.slice, Instr.sliceBounds, Instr.sliceBound, asIntOf, run_underlying' i.ul, run_sizeOf' i.size, h1', h2', ha]
/-- append to a full slice, of elements of several cells: at least one is appended. -/
theorem append_fullN (h : sat E w H) {t ty e sz m : Nat} {z : Value} [i : SliceT P t e sz m z] {cs : Array Bool} {a : Option Addr} {n : Nat} {xs : List Value} (hx : xs.length = n * sz) (hv : Rds H (.slice a n n) n xs)
    {a2 : Option Addr} {k' c : Nat} (news : List Value) (hk : 0 < k') (hl : news.length = k' * sz) (hw : win (hp w) a2 news) (hb : (n + k') * m ≤ 140737488355328) (hm : n + k' ≤ 9223372036854775807)
    (k : ∀ v' w', sat E w' (osl e sz v' (n + k') (xs ++ news) * H) → K v' w') : ef P (oBi .append #[t, t] ty cs #[.slice a n n, .slice a2 k' c]) w K := by
  obtain ⟨y, hy, hy1, hy2, hy3⟩ := i.parts
  have hz := i.zs
  have hsz := i.pos
  have ef_bi : ∀ {v' w'}, (Builtin.append_ #[t, t] ty #[.slice a n n, .slice a2 k' c]).run P w = .ok v' w' → K v' w' → ef P (oBi .append #[t, t] ty cs #[.slice a n n, .slice a2 k' c]) w K := fun hr hk =>
    ef_of (by simp [oBi, builtin, hr]) hk
  rcases hw with rfl | ⟨b2, o2, cs2, e2, fr2, rfl, hb2, hv2⟩
  · exfalso
    have h0 : k' * sz = 0 := by simpa using hl.symm
    rcases Nat.mul_eq_zero.1 h0 with h' | h' <;> omega
  · have grow : ∀ (sCap : Nat), sCap < n + k' → sat E (w.drew.alloc (.cells (xs.toArray ++ news.toArray ++ Builtin.zeroCells z.cells (grownCap w (n + k') sCap e - (n + k'))) e)) (osl e sz (.slice (some ⟨w.heap.size, 0, none⟩) (n + k') (grownCap w (n + k') sCap e)) (n + k') (xs ++ news) * H) := by
      intro sCap hlt
      have hge := grownCap_ge w (n + k') sCap e
      have hle := grownCap_le_maxLen w (n + k') sCap e (by simp only [maxLen]; omega)
      refine sat_osl.2 (.inr ⟨w.heap.size, _, (Builtin.zeroCells z.cells (grownCap w (n + k') sCap e - (n + k'))).toList, rfl, by rw [List.length_append, hx, hl, Nat.add_mul], ?_, hge, by simp only [maxLen] at hle; omega, ?_⟩)
      · rw [List.length_append, List.length_append, hx, hl, Array.length_toList, size_zeroCells, hz, ← Nat.add_mul, ← Nat.add_mul]
        congr 1; omega
      · have := h.drew.alloc (.cells (xs.toArray ++ news.toArray ++ Builtin.zeroCells z.cells (grownCap w (n + k') sCap e - (n + k'))) e (0, 0))
        have e1 : ((xs ++ news) ++ (Builtin.zeroCells z.cells (grownCap w (n + k') sCap e - (n + k'))).toList).toArray = xs.toArray ++ news.toArray ++ Builtin.zeroCells z.cells (grownCap w (n + k') sCap e - (n + k')) := by
          apply Array.ext'; simp
        rw [e1]; exact this
    have hnews : ∀ j v, news[j]? = some v → w.cell? ((⟨b2, o2, none⟩ : Addr).add j) = some v := fun j v hj => by rw [add_addr]; exact cell_of hb2 (hv2 j v hj)
    have hnm : n * m ≤ (n + k') * m := Nat.mul_le_mul_right _ (by omega)
    rcases hv.win h with rfl | ⟨b, o, cs1, e1, fr1, rfl, hb1, hv1⟩
    · have hn0 : n = 0 := by
        have h0 : n * sz = 0 := by simpa using hx.symm
        rcases Nat.mul_eq_zero.1 h0 with h' | h' <;> omega
      subst hn0
      cases a with
      | none =>
        have hr := run_append_nil (P := P) w t ty e y z i.ul hy hy1 ⟨b2, o2, none⟩ k' c news (by rw [hy2]; omega) hnews (by omega) (by omega) (by rw [hy3]; simp only [Nat.zero_add] at hb; omega)
        have g0 := grow 0 (by omega)
        simp only [Nat.zero_add, List.nil_append] at g0 k ⊢
        exact ef_bi hr (k _ _ (by simpa using g0))
      | some a =>
        have hr := run_append_grow (P := P) w t ty e y z i.ul hy hy1 a 0 0 [] (by simp) (fun j v hj => by simp at hj) ⟨b2, o2, none⟩ k' c news (by rw [hy2]; omega) hnews (by omega) (by omega) (growslice_fits (by omega) (by rw [hy3]; exact hb))
        exact ef_bi hr (k _ _ (grow 0 (by omega)))
    · have hr := run_append_grow (P := P) w t ty e y z i.ul hy hy1 ⟨b, o, none⟩ n n xs (by rw [hy2]; omega) (fun j v hj => by rw [add_addr]; exact cell_of hb1 (hv1 j v hj)) ⟨b2, o2, none⟩ k' c news (by rw [hy2]; omega) hnews (by omega) (by omega) (growslice_fits (by omega) (by rw [hy3]; exact hb))
      exact ef_bi hr (k _ _ (grow n (by omega)))
theorem o_eqStruct {t : TypeId} {xo yo : Operand} {xs ys : Array Value} {b : Bool} (hg : P.eqGuardType P.depth t = false) (ht : P.underlying t = some (.struct (P.fieldsOf t))) (hp : P.stoodInHeld t = false)
    (hr : ∀ w, (Op.eqFields 9999 xs ys (P.fieldsOf t).toList).run P w = .ok b w) : pvv P (oEq .eql t xo yo (.agg xs) (.agg ys)) w K = K (.bool b) w := pvv_eq fun w => by
  have e2 : (Op.equalIn 10000 t (.agg xs) (.agg ys)).run P w = .ok b w := by rw [run_equalIn_struct w 9999 t xs ys ht hp]; exact hr w
  have e3 := run_eqGuard_agg (P := P) w .eql t xo yo xs ys hg
  have e4 := run_eql_struct (P := P) w t xs ys
  rw [e2] at e4
  simp only [oEq, Sem.run_bind, e3, Result.andThen_ok, e4]
theorem o_neStruct {t : TypeId} {xo yo : Operand} {xs ys : Array Value} {b : Bool} (hg : P.eqGuardType P.depth t = false) (ht : P.underlying t = some (.struct (P.fieldsOf t))) (hp : P.stoodInHeld t = false)
    (hr : ∀ w, (Op.eqFields 9999 xs ys (P.fieldsOf t).toList).run P w = .ok b w) : pvv P (oEq .neq t xo yo (.agg xs) (.agg ys)) w K = K (.bool !b) w := pvv_eq fun w => by
  have e2 : (Op.equalIn 10000 t (.agg xs) (.agg ys)).run P w = .ok b w := by rw [run_equalIn_struct w 9999 t xs ys ht hp]; exact hr w
  have e3 := run_eqGuard_agg (P := P) w .neq t xo yo xs ys hg
  have e4 := run_neq_struct (P := P) w t xs ys
  rw [e2] at e4
  simp only [oEq, Sem.run_bind, e3, Result.andThen_ok, e4]
theorem o_neArr {t e : TypeId} {n : Nat} [i : Ul P t (.array n e)] [j : Ul P e (.int .u8)] [q : OneC P e] {xo yo : Operand} (hg : P.eqGuardType P.depth t = false) {xs ys : List UInt8} (hx : xs.length = n) (hy : ys.length = n) :
    pvv P (oEq .neq t xo yo (.agg (xs.map bv).toArray) (.agg (ys.map bv).toArray)) w K = K (.bool !(xs == ys)) w := pvv_eq fun w => by
  have := run_equalIn_bytes (P := P) w 9998 t e n i.ul j.ul (fun w => run_sizeOf' q.size) xs ys hx hy
  have e2 : (Op.equal t (.agg (xs.map bv).toArray) (.agg (ys.map bv).toArray)).run P w = .ok (xs == ys) w := this
  simp [oEq, eqGuard, hg, binOp, e2]
/-- A result that stands in a block of its own, of several cells. -/
theorem res_all (h : sat E w H) {t n b e : Nat} {xs vs : List Value} [i : AggC P t n] [hb : Own H b (.cells xs.toArray e (0, 0)) R] (hx : xs.length = n) (hn : vs.length = n) (h1 : ∀ x ∈ vs, x.oneCell' = true)
    (k : ∀ w', sat E w' (pts b (.cells vs.toArray e (0, 0)) * R) → K (.agg vs.toArray) w') :
    efu P (Instr.storeAt t (.pointer (some ⟨b, 0, none⟩)) (.agg vs.toArray)) w fun _ w => ∃ r, (do loadVar t (← asAddr (.pointer (some ⟨b, 0, none⟩)))).run P w = .ok r w ∧ K r w :=
  store_all (b := b) h hx hn h1 fun w h => res_agg (b := b) h hn (k _ h)
theorem res_one (h : sat E w H) {t b e : Nat} {xs : List Value} {v : Value} [i : OneC P t] [hb : Has H b (.cells xs.toArray e (0, 0))] (hv : xs[0]? = some v) (k : K v w) :
    ∃ r, (do loadVar t (← asAddr (.pointer (some ⟨b, 0, none⟩)))).run P w = .ok r w ∧ K r w := by
  refine ⟨_, ?_, k⟩
  have := run_load1 (P := P) (w := w) (t := t) (a := ⟨b, 0, none⟩) (v := v) (cell_of (hb.get h) (by simpa using hv))
  simpa [Instr.loadAt, Instr.sureAddr, asAddr] using this
theorem run_part1 {t : TypeId} {off : Nat} {v : Value} {cs : Array Value} {w : World} [i : OneC P t] (hv : cs[off]? = some v) : (part t cs off).run P w = .ok v w := by
  simp [part, i.agg w, hv]
theorem run_partN {t n : TypeId} {off : Nat} {cs : Array Value} {w : World} [i : AggC P t n] : (part t cs off).run P w = .ok (.agg (cs.extract off (off + n))) w := by
  simp [part, i.agg w, run_sizeOf' i.size]
/-- One field's sameness, and the others'. -/
theorem run_eqField {d : Nat} {xs ys : Array Value} {f : Field} {fs : List Field} {a b : Value} {p q : Bool} {w : World} (hn : (f.name == "_") = false) (ha : (part f.type xs f.offset).run P w = .ok a w) (hb : (part f.type ys f.offset).run P w = .ok b w)
    (he : (Op.equalIn d f.type a b).run P w = .ok p w) (hr : (Op.eqFields d xs ys fs).run P w = .ok q w) : (Op.eqFields d xs ys (f :: fs)).run P w = .ok (p && q) w := by
  have hn2 : f.name ≠ "_" := by simpa using hn
  simp only [Op.eqFields, hn2, if_true, ne_eq, not_false_eq_true, Sem.run_bind, ha, hb, he, Result.andThen_ok]
  cases p
  · simp
  · simp [hr]
theorem run_eqNone {d : Nat} {xs ys : Array Value} {w : World} : (Op.eqFields d xs ys []).run P w = .ok true w := by simp [Op.eqFields]
end
end Hold

/-
  Maps whose keys are whole numbers: what is owned of one; looked at, written, cut down, gone through.
-/
set_option linter.all false
namespace Hold
open Go
/-- Entries: keys and values, with the stamps of their coming. -/
def ents : List (Int × Value) → List Nat → List MapEntry
  | x :: l, n :: ns => { key := .int .i64 x.1, val := x.2, born := n } :: ents l ns
  | _, _ => []
def findM : List (Int × Value) → Int → Option (Nat × Value)
  | [], _ => none
  | x :: l, k => if k = x.1 then some (0, x.2) else (findM l k).map fun y => (y.1 + 1, y.2)
def lookM (l : List (Int × Value)) (k : Int) : Option Value := (findM l k).map (·.2)
def putM : List (Int × Value) → Int → Value → List (Int × Value)
  | [], k, v => [(k, v)]
  | x :: l, k, v => if k = x.1 then (k, v) :: l else x :: putM l k v
def delM : List (Int × Value) → Int → List (Int × Value)
  | [], _ => []
  | x :: l, k => if k = x.1 then l else x :: delM l k
/-- The stamps that are left. -/
def delN : List (Int × Value) → List Nat → Int → List Nat
  | x :: l, n :: ns, k => if k = x.1 then ns else n :: delN l ns k
  | _, ns, _ => ns
structure Stamps (l : List (Int × Value)) (ns : List Nat) (c : Nat) : Prop where
  len : ns.length = l.length
  nd : ns.Nodup
  lt : ∀ n ∈ ns, n < c
def omap (b : Nat) (l : List (Int × Value)) : HP :=
  ex fun q : List Nat × Nat => pur (Stamps l q.1 q.2) * pts b (.map (ents l q.1).toArray q.2)
section
variable {P : Program} {E : World0} {w : World} {H R : HP} {K : Value → World → Prop}
theorem sat_omap {b : Nat} {l : List (Int × Value)} : sat E w (omap b l * R) ↔ ∃ ns c, Stamps l ns c ∧ sat E w (pts b (.map (ents l ns).toArray c) * R) := by
  unfold omap
  rw [sat_ex_star]
  constructor
  · rintro ⟨⟨ns, c⟩, h⟩
    simp only [star_assoc] at h
    rw [sat_pur_star] at h
    exact ⟨ns, c, h.1, h.2⟩
  · rintro ⟨ns, c, h1, h2⟩
    refine ⟨(ns, c), ?_⟩
    simp only [star_assoc]
    rw [sat_pur_star]
    exact ⟨h1, h2⟩
/-- The map b is owned. -/
class OwnM (H : HP) (b : Nat) (l : outParam (List (Int × Value))) (R : outParam HP) : Prop where eq : H = omap b l * R
instance (priority := 1100) OwnM.here (b : Nat) (l : List (Int × Value)) (R : HP) : OwnM (omap b l * R) b l R := ⟨rfl⟩
instance (priority := 1050) OwnM.there (b : Nat) (l : List (Int × Value)) (R : HP) : OwnM (R * omap b l) b l R := ⟨star_comm _ _⟩
instance (priority := 900) OwnM.right (P1 P2 : HP) (b : Nat) (l : List (Int × Value)) (R : HP) [h : OwnM P2 b l R] : OwnM (P1 * P2) b l (P1 * R) := ⟨by rw [h.eq, star_left_comm]⟩
instance (priority := 800) OwnM.left (P1 P2 : HP) (b : Nat) (l : List (Int × Value)) (R : HP) [h : OwnM P1 b l R] : OwnM (P1 * P2) b l (R * P2) := ⟨by rw [h.eq, star_assoc]⟩
instance (priority := 100) OwnM.all (b : Nat) (l : List (Int × Value)) : OwnM (omap b l) b l emp := ⟨(star_emp _).symm⟩
theorem sat.ownm (h : sat E w H) (b : Nat) {l : List (Int × Value)} [s : OwnM H b l R] : sat E w (omap b l * R) := h.perm s.eq

theorem getObj_at {r : Nat} {es : Array MapEntry} {c : Nat} (h : w.heap[r]? = some (.map es c)) : (getObj r).run P w = .ok (.map es c) w := by simp [getObj, Sem.run, h]
theorem setObj_at {r : Nat} {es : Array MapEntry} {c : Nat} {o' : Obj} (h : w.heap[r]? = some (.map es c)) : (setObj r o').run P w = .ok () (w.putObj r o') := by simp [setObj, Sem.run, h, World.putObj]
theorem findNow_ents (k : Int) : ∀ (l : List (Int × Value)) (ns : List Nat) (i : Nat), ns.length = l.length → Instr.findNow (.int .i64) (.int .i64 k) (ents l ns) i = some ((findM l k).map fun y => (i + y.1, y.2))
  | [], [], i, _ => rfl
  | x :: l, n :: ns, i, h => by
    have ih := findNow_ents k l ns (i + 1) (by simpa using h)
    simp only [ents, Instr.findNow, Instr.sameNow, findM]
    by_cases hk : k = x.1
    · simp [hk]
    · have e : (k == x.1) = false := by simpa using hk
      simp only [if_true, e, hk, if_false]
      rw [ih]
      cases findM l k with
      | none => rfl
      | some y => simp; omega
theorem run_findKey {kt : TypeId} (hk : P.underlying kt = some (.int .i64)) {k : Int} {l : List (Int × Value)} {ns : List Nat} (h : ns.length = l.length) :
    (Instr.findKey kt (.int .i64 k) (ents l ns)).run P w = .ok (findM l k) w := by
  have e := findNow_ents k l ns 0 h
  have e2 : (findM l k).map (fun y => (0 + y.1, y.2)) = findM l k := by cases findM l k <;> simp
  rw [e2] at e
  simp [Instr.findKey, run_underlying' hk, e]
theorem run_checkKey {kt : TypeId} (hk : P.underlying kt = some (.int .i64)) {k : Int} {b : Bool} : (Instr.checkKey b 10000 kt (.int .i64 k)).run P w = .ok () w := by
  rw [show (10000 : Nat) = 9999 + 1 from rfl, Instr.checkKey]
  simp [run_underlying' hk]
theorem look_ld (h : sat E w H) {t kt vt b : Nat} {l : List (Int × Value)} {k : Int} {z : Value} [i : Ul P t (.map kt vt)] [j : Ul P kt (.int .i64)] [q : ZeroC P vt z] [s : OwnM H b l R]
    (kk : K (match lookM l k with | some v => .tuple #[v, .bool true] | none => .tuple #[z, .bool false]) w) : ldv P (Instr.lookup t (.map (some b)) (.int .i64 k) true) w K := by
  obtain ⟨ns, c, st, hp⟩ := sat_omap.1 (h.perm s.eq)
  refine ldv_of ?_ kk
  have hb := hp.pts_get
  have hf := run_findKey (P := P) (w := w) j.ul (k := k) st.len
  unfold lookM
  cases hx : findM l k with
  | none => rw [hx] at hf; simp [Instr.lookup, run_underlying' i.ul, getObj_at hb, run_checkKey j.ul, hf, run_zero q]
  | some y => rw [hx] at hf; simp [Instr.lookup, run_underlying' i.ul, getObj_at hb, run_checkKey j.ul, hf]
theorem look1_ld (h : sat E w H) {t kt vt b : Nat} {l : List (Int × Value)} {k : Int} {z : Value} [i : Ul P t (.map kt vt)] [j : Ul P kt (.int .i64)] [q : ZeroC P vt z] [s : OwnM H b l R]
    (kk : K ((lookM l k).getD z) w) : ldv P (Instr.lookup t (.map (some b)) (.int .i64 k) false) w K := by
  obtain ⟨ns, c, st, hp⟩ := sat_omap.1 (h.perm s.eq)
  refine ldv_of ?_ kk
  have hb := hp.pts_get
  have hf := run_findKey (P := P) (w := w) j.ul (k := k) st.len
  unfold lookM
  cases hx : findM l k with
  | none => rw [hx] at hf; simp [Instr.lookup, run_underlying' i.ul, getObj_at hb, run_checkKey j.ul, hf, run_zero q]
  | some y => rw [hx] at hf; simp [Instr.lookup, run_underlying' i.ul, getObj_at hb, run_checkKey j.ul, hf]
theorem len_ld (h : sat E w H) {t kt vt b ty : Nat} {cs : Array Bool} {l : List (Int × Value)} [i : Ul P t (.map kt vt)] [s : OwnM H b l R]
    (kk : K (.int .i64 l.length) w) : ld P (oBi .len #[t] ty cs #[.map (some b)]) w K := by
  obtain ⟨ns, c, st, hp⟩ := sat_omap.1 (h.perm s.eq)
  have hb := hp.pts_get
  have hl : ∀ (l : List (Int × Value)) (ns : List Nat), ns.length = l.length → (ents l ns).length = l.length := by
    intro l
    induction l with
    | nil => intro ns _; cases ns <;> rfl
    | cons x l ih => intro ns h; cases ns with
      | nil => cases h
      | cons n ns => simp [ents, ih ns (by simpa using h)]
  refine ⟨.int .i64 l.length, ?_, kk⟩
  simp [oBi, builtin, Builtin.len_, run_underlying' i.ul, getObj_at hb, hl l ns st.len, goInt]
theorem make_map (h : sat E w H) {t kt vt : Nat} [i : Ul P t (.map kt vt)] (kk : ∀ b w', sat E w' (omap b [] * H) → K (.map (some b)) w') : efv P (Instr.makeMap t none) w K := by
  refine efv_of (v := .map (some w.heap.size)) (w' := w.alloc (.map #[] 0)) rfl (kk _ _ (sat_omap.2 ⟨[], 0, ⟨rfl, List.nodup_nil, by simp⟩, h.alloc _⟩))
theorem findM_put {l : List (Int × Value)} {ns : List Nat} {k : Int} {v : Value} {y : Nat × Value} (h : ns.length = l.length) (hf : findM l k = some y) :
    (ents l ns).modify y.1 (fun e => { e with key := .int .i64 k, val := v }) = ents (putM l k v) ns ∧ (putM l k v).length = l.length ∧ (ents l ns)[y.1]?.map (·.key) = some (.int .i64 k) := by
  induction l generalizing ns y with
  | nil => cases hf
  | cons x l ih =>
    cases ns with
    | nil => cases h
    | cons n ns =>
      simp only [findM] at hf
      by_cases hk : k = x.1
      · rw [if_pos hk] at hf
        cases hf
        simp [ents, putM, hk]
      · rw [if_neg hk] at hf
        obtain ⟨y', hy', rfl⟩ := Option.map_eq_some_iff.1 hf
        obtain ⟨a1, a2, a3⟩ := ih (by simpa using h) hy'
        simp [ents, putM, hk, a1, a2, a3]
theorem findM_add {l : List (Int × Value)} {ns : List Nat} {k : Int} {v : Value} {c : Nat} (h : ns.length = l.length) (hf : findM l k = none) :
    ents l ns ++ [{ key := .int .i64 k, val := v, born := c }] = ents (putM l k v) (ns ++ [c]) ∧ (putM l k v).length = l.length + 1 := by
  induction l generalizing ns with
  | nil => cases ns with
    | nil => exact ⟨rfl, rfl⟩
    | cons => cases h
  | cons x l ih =>
    cases ns with
    | nil => cases h
    | cons n ns =>
      simp only [findM] at hf
      by_cases hk : k = x.1
      · rw [if_pos hk] at hf; cases hf
      · rw [if_neg hk, Option.map_eq_none_iff] at hf
        obtain ⟨a1, a2⟩ := ih (by simpa using h) hf
        simp [ents, putM, hk, a1, a2]
theorem update_sl (h : sat E w H) {t kt vt b : Nat} {l : List (Int × Value)} {k : Int} {v : Value} [i : Ul P t (.map kt vt)] [j : Ul P kt (.int .i64)] [s : OwnM H b l R]
    (kk : ∀ w', sat E w' (omap b (putM l k v) * R) → K undef w') : efu P (Instr.mapUpdate t (.map (some b)) (.int .i64 k) v) w K := by
  obtain ⟨ns, c, st, hp⟩ := sat_omap.1 (h.perm s.eq)
  have hb := hp.pts_get
  have hf := run_findKey (P := P) (w := w) j.ul (k := k) st.len
  cases hx : findM l k with
  | none =>
    rw [hx] at hf
    obtain ⟨a1, a2⟩ := findM_add (v := v) (c := c) st.len hx
    refine efu_of (w' := w.putObj b (.map (ents (putM l k v) (ns ++ [c])).toArray (c + 1))) ?_ (kk _ (sat_omap.2 ⟨_, _, ⟨by simp [st.len, a2], ?_, ?_⟩, hp.set _⟩))
    · rw [← a1]
      simp [Instr.mapUpdate, run_underlying' i.ul, getObj_at hb, run_checkKey j.ul, hf, setObj_at hb]
    · refine List.nodup_append.2 ⟨st.nd, by simp, ?_⟩
      intro a ha b' hb' hab
      simp at hb'
      have := st.lt a ha
      omega
    · intro n hn
      rcases List.mem_append.1 hn with hn | hn
      · have := st.lt n hn; omega
      · simp at hn; omega
  | some y =>
    rw [hx] at hf
    obtain ⟨a1, a2, a3⟩ := findM_put (v := v) st.len hx
    refine efu_of (w' := w.putObj b (.map (ents (putM l k v) ns).toArray c)) ?_ (kk _ (sat_omap.2 ⟨_, _, ⟨by simp [st.len, a2], st.nd, st.lt⟩, hp.set _⟩))
    rw [← a1]
    have sb : Instr.sameBits 10000 (.int .i64 k) (.int .i64 k) = true := by unfold Instr.sameBits; simp
    simp [Instr.mapUpdate, run_underlying' i.ul, getObj_at hb, run_checkKey j.ul, hf, setObj_at hb, Instr.keyThatStays, a3, sb]
theorem findM_del {l : List (Int × Value)} {ns : List Nat} {k : Int} {y : Nat × Value} (h : ns.length = l.length) (hf : findM l k = some y) :
    (ents l ns).eraseIdx y.1 = ents (delM l k) (delN l ns k) ∧ (delN l ns k).length = (delM l k).length ∧ (delN l ns k).Sublist ns := by
  induction l generalizing ns y with
  | nil => cases hf
  | cons x l ih =>
    cases ns with
    | nil => cases h
    | cons n ns =>
      simp only [findM] at hf
      by_cases hk : k = x.1
      · rw [if_pos hk] at hf
        cases hf
        simp only [ents, delM, delN, if_pos hk]
        exact ⟨rfl, by simpa using h, List.sublist_cons_self _ _⟩
      · rw [if_neg hk] at hf
        obtain ⟨y', hy', rfl⟩ := Option.map_eq_some_iff.1 hf
        obtain ⟨a1, a2, a3⟩ := ih (by simpa using h) hy'
        simp only [ents, delM, delN, if_neg hk]
        exact ⟨by simp [a1, ents], by simp [a2], a3.cons₂ _⟩
theorem findM_gone {l : List (Int × Value)} {k : Int} (hf : findM l k = none) : delM l k = l := by
  induction l with
  | nil => rfl
  | cons x l ih =>
    simp only [findM] at hf
    by_cases hk : k = x.1
    · rw [if_pos hk] at hf; cases hf
    · rw [if_neg hk, Option.map_eq_none_iff] at hf
      simp only [delM, if_neg hk, ih hf]
theorem delete_sl (h : sat E w H) {t kt vt ty b : Nat} {cs : Array Bool} {l : List (Int × Value)} {k : Int} [i : Ul P t (.map kt vt)] [j : Ul P kt (.int .i64)] [s : OwnM H b l R]
    (kk : ∀ w', sat E w' (omap b (delM l k) * R) → K (.tuple #[]) w') : ef P (oBi .delete #[t, kt] ty cs #[.map (some b), .int .i64 k]) w K := by
  obtain ⟨ns, c, st, hp⟩ := sat_omap.1 (h.perm s.eq)
  have hb := hp.pts_get
  have hf := run_findKey (P := P) (w := w) j.ul (k := k) st.len
  cases hx : findM l k with
  | none =>
    rw [hx] at hf
    refine ef_of (v := .tuple #[]) (w' := w.putObj b (.map (ents l ns).toArray c)) ?_ (kk _ ?_)
    · simp [oBi, builtin, Builtin.delete_, run_underlying' i.ul, getObj_at hb, run_checkKey j.ul, hf, setObj_at hb]
    · rw [findM_gone hx]; exact sat_omap.2 ⟨_, _, st, hp.set _⟩
  | some y =>
    rw [hx] at hf
    obtain ⟨a1, a2, a3⟩ := findM_del st.len hx
    refine ef_of (v := .tuple #[]) (w' := w.putObj b (.map (ents (delM l k) (delN l ns k)).toArray c)) ?_ (kk _ (sat_omap.2 ⟨_, _, ⟨a2, st.nd.sublist a3, fun n hn => st.lt n (a3.subset hn)⟩, hp.set _⟩))
    rw [← a1]
    simp [oBi, builtin, Builtin.delete_, run_underlying' i.ul, getObj_at hb, run_checkKey j.ul, hf, setObj_at hb]
theorem clear_sl (h : sat E w H) {t kt vt ty b : Nat} {cs : Array Bool} {l : List (Int × Value)} [i : Ul P t (.map kt vt)] [s : OwnM H b l R]
    (kk : ∀ w', sat E w' (omap b [] * R) → K (.tuple #[]) w') : ef P (oBi .clear #[t] ty cs #[.map (some b)]) w K := by
  obtain ⟨ns, c, st, hp⟩ := sat_omap.1 (h.perm s.eq)
  have hb := hp.pts_get
  refine ef_of (v := .tuple #[]) (w' := w.putObj b (.map #[] c)) ?_ (kk _ (sat_omap.2 ⟨[], c, ⟨rfl, List.nodup_nil, by simp⟩, hp.set _⟩))
  simp [oBi, builtin, Builtin.clear_, run_underlying' i.ul, getObj_at hb, setObj_at hb]
/-! Going through a map. -/
def unseen : List (Int × Value) → List Nat → List Nat → List (Int × Value)
  | x :: l, n :: ns, seen => if n ∈ seen then unseen l ns seen else x :: unseen l ns seen
  | _, _, _ => []
/-- An iterator in block i over map b: what is there; what it has not come to yet. -/
def omit_ (i b : Nat) (l rest : List (Int × Value)) : HP :=
  ex fun q : List Nat × Nat × List Nat => pur (Stamps l q.1 q.2.1 ∧ rest = unseen l q.1 q.2.2) * (pts i (.mapIter (some b) q.2.1 q.2.2.toArray q.2.1) * pts b (.map (ents l q.1).toArray q.2.1))
theorem sat_omit {i b : Nat} {l rest : List (Int × Value)} : sat E w (omit_ i b l rest * R) ↔ ∃ ns c seen, Stamps l ns c ∧ rest = unseen l ns seen ∧ sat E w (pts i (.mapIter (some b) c seen.toArray c) * (pts b (.map (ents l ns).toArray c) * R)) := by
  unfold omit_
  rw [sat_ex_star]
  constructor
  · rintro ⟨⟨ns, c, seen⟩, h⟩
    simp only [star_assoc] at h
    rw [sat_pur_star] at h
    exact ⟨ns, c, seen, h.1.1, h.1.2, h.2⟩
  · rintro ⟨ns, c, seen, h1, h2, h3⟩
    refine ⟨(ns, c, seen), ?_⟩
    simp only [star_assoc]
    rw [sat_pur_star]
    exact ⟨⟨h1, h2⟩, h3⟩
theorem unseen_nil : ∀ (l : List (Int × Value)) (ns : List Nat), ns.length = l.length → unseen l ns [] = l
  | [], ns, _ => by cases ns <;> rfl
  | x :: l, n :: ns, h => by simp [unseen, unseen_nil l ns (by simpa using h)]
theorem range_sl (h : sat E w H) {t kt vt b : Nat} {l : List (Int × Value)} [i : Ul P t (.map kt vt)] [s : OwnM H b l R]
    (kk : ∀ i w', sat E w' (omit_ i b l l * R) → K (.pointer (some ⟨i, 0, none⟩)) w') : efv P (Instr.range t (.map (some b))) w K := by
  obtain ⟨ns, c, st, hp⟩ := sat_omap.1 (h.perm s.eq)
  have hb := hp.pts_get
  refine efv_of (run_range_map (P := P) w t kt vt b _ c i.ul hb) (kk _ _ (sat_omit.2 ⟨ns, c, [], st, (unseen_nil l ns st.len).symm, ?_⟩))
  exact hp.alloc _
theorem unseen_add : ∀ (l : List (Int × Value)) (ns seen : List Nat) (n : Nat), n ∉ ns → unseen l ns (seen ++ [n]) = unseen l ns seen
  | [], ns, seen, n, _ => by cases ns <;> rfl
  | _ :: _, [], seen, n, _ => rfl
  | x :: l, m :: ns, seen, n, h => by
    have ih := unseen_add l ns seen n (fun hn => h (List.mem_cons_of_mem _ hn))
    have hm : m ≠ n := fun e => h (by simp [e])
    simp only [unseen, ih, List.mem_append, List.mem_singleton, hm, or_false]
theorem born_mem : ∀ {l : List (Int × Value)} {ns : List Nat} {e : MapEntry}, e ∈ ents l ns → e.born ∈ ns
  | [], [], e, h => by simp [ents] at h
  | [], _ :: _, e, h => by simp [ents] at h
  | _ :: _, [], e, h => by simp [ents] at h
  | x :: l, n :: ns, e, h => by
    simp only [ents, List.mem_cons] at h
    rcases h with rfl | h
    · simp
    · exact List.mem_cons_of_mem _ (born_mem h)
theorem left_spec : ∀ {l : List (Int × Value)} {ns seen : List Nat} {e : MapEntry}, ns.Nodup → e ∈ (ents l ns).filter (fun e => !seen.contains e.born) →
    ∃ (j : Nat) (x : Int × Value), (unseen l ns seen)[j]? = some x ∧ e.key = .int .i64 x.1 ∧ e.val = x.2 ∧ unseen l ns (seen ++ [e.born]) = (unseen l ns seen).eraseIdx j
  | [], ns, seen, e, _, h => by cases ns <;> simp [ents] at h
  | _ :: _, [], seen, e, _, h => by simp [ents] at h
  | x :: l, n :: ns, seen, e, hn, h => by
    obtain ⟨hn1, hn2⟩ := List.nodup_cons.1 hn
    simp only [ents, List.filter_cons] at h
    by_cases hs : n ∈ seen
    · have e1 : (!seen.contains n) = false := by simp [hs]
      simp only [e1, Bool.false_eq_true, if_false] at h
      obtain ⟨j, y, h1, h2, h3, h4⟩ := left_spec hn2 h
      refine ⟨j, y, by simp [unseen, hs, h1], h2, h3, ?_⟩
      simp only [unseen, List.mem_append, hs, true_or, if_true, h4]
    · have e1 : (!seen.contains n) = true := by simp [hs]
      simp only [e1, if_true, List.mem_cons] at h
      rcases h with rfl | h
      · refine ⟨0, x, by simp [unseen, hs], rfl, rfl, ?_⟩
        simp [unseen, hs, unseen_add l ns seen n hn1]
      · obtain ⟨j, y, h1, h2, h3, h4⟩ := left_spec hn2 h
        have hb : n ≠ e.born := fun he => hn1 (he ▸ born_mem (List.mem_filter.1 h).1)
        refine ⟨j + 1, y, by simp [unseen, hs, h1], h2, h3, ?_⟩
        simp [unseen, hs, hb, h4]
theorem left_none : ∀ {l : List (Int × Value)} {ns seen : List Nat}, (ents l ns).filter (fun e => !seen.contains e.born) = [] → unseen l ns seen = []
  | [], ns, seen, _ => by cases ns <;> rfl
  | _ :: _, [], seen, _ => rfl
  | x :: l, n :: ns, seen, h => by
    simp only [ents, List.filter_cons] at h
    by_cases hs : n ∈ seen
    · have e1 : (!seen.contains n) = false := by simp [hs]
      simp only [e1, Bool.false_eq_true, if_false] at h
      simp [unseen, hs, left_none h]
    · have e1 : (!seen.contains n) = true := by simp [hs]
      rw [if_pos e1] at h
      cases h
theorem sat.put2 {i : Nat} {o o' : Obj} {w1 : World} (h : sat E w (pts i o * R)) (hw : w1 = w ∨ w1 = w.drew) : sat E (Go.ChangeMaps.setBlock w1 i o') (pts i o' * R) := by
  rcases hw with rfl | rfl
  · exact h.set o'
  · exact (h.drew).set o'
theorem ents_born : ∀ {l : List (Int × Value)} {ns : List Nat}, ns.length = l.length → (ents l ns).map (·.born) = ns
  | [], [], _ => rfl
  | x :: l, n :: ns, h => by simp [ents, ents_born (l := l) (ns := ns) (by simpa using h)]
/-- The next entry, whichever it is. -/
theorem next_sl (h : sat E w H) {i b ty : Nat} {l rest : List (Int × Value)} [s : Split H (omit_ i b l rest) R] (k0 : rest = [] → K (.tuple #[.bool false]) w)
    (k1 : ∀ (j : Nat) (x : Int × Value) w', rest[j]? = some x → (Instr.entry (.pointer (some ⟨i, 0, none⟩))).run P w' = .ok (.tuple #[.int .i64 x.1, x.2]) w' → sat E w' (omit_ i b l (rest.eraseIdx j) * R) → K (.tuple #[.bool true, .int .i64 x.1, x.2]) w') :
    efv P (Instr.next (.pointer (some ⟨i, 0, none⟩)) false ty) w K := by
  obtain ⟨ns, c, seen, st, rfl, hp⟩ := sat_omit.1 (h.perm s.eq)
  have hi := hp.pts_get
  have hb := (hp.perm (star_left_comm _ _ _)).pts_get
  have hold : ∀ x ∈ (ents l ns).toArray.toList, x.born < c := fun x hx => st.lt _ (born_mem (by simpa using hx))
  have hll : (leftOf (ents l ns).toArray seen.toArray).toList = (ents l ns).filter (fun e => !seen.contains e.born) := by
    unfold leftOf
    simp
  rcases run_next_at (P := P) w ty i b c c seen.toArray _ c hi hb hold (Nat.le_refl _) with ⟨h0, hr⟩ | ⟨e, he, w1, hw1, hr⟩
  · refine efv_of hr (k0 (left_none (ns := ns) ?_))
    rw [← hll]
    exact List.eq_nil_of_length_eq_zero (by simpa using h0)
  · rw [hll] at he
    obtain ⟨j, x, h1, h2, h3, h4⟩ := left_spec st.nd he
    have hx := hp.put2 (o' := .mapIter (some b) c (seen.toArray.push e.born) c) hw1
    have hen := run_entry_at (P := P) _ i b c seen.toArray (ents l ns).toArray c e hx.pts_get (hx.perm (star_left_comm _ _ _)).pts_get (by simpa using (List.mem_filter.1 he).1) (by simpa [ents_born st.len] using st.nd)
    rw [h2, h3] at hr hen
    refine efv_of hr (k1 j x _ h1 hen (sat_omit.2 ⟨ns, c, seen ++ [e.born], st, h4.symm, ?_⟩))
    simpa using hx
theorem omit_close {i b : Nat} {l rest : List (Int × Value)} (h : sat E w (omit_ i b l rest * R)) : sat E w (omap b l * R) := by
  obtain ⟨ns, c, seen, st, rfl, hp⟩ := sat_omit.1 h
  exact sat_omap.2 ⟨ns, c, st, hp.drop⟩
theorem unseen_del : ∀ {l : List (Int × Value)} {ns seen : List Nat} {k : Int}, ns.length = l.length → (∀ x ∈ unseen l ns seen, x.1 ≠ k) → unseen (delM l k) (delN l ns k) seen = unseen l ns seen
  | [], ns, seen, k, h, _ => by cases ns <;> rfl
  | _ :: _, [], seen, k, h, _ => by cases h
  | x :: l, n :: ns, seen, k, h, hu => by
    simp only [delM, delN]
    by_cases hk : k = x.1
    · rw [if_pos hk, if_pos hk]
      by_cases hs : n ∈ seen
      · simp [unseen, hs]
      · exact absurd hk.symm (hu x (by simp [unseen, hs]))
    · rw [if_neg hk, if_neg hk]
      by_cases hs : n ∈ seen
      · have := unseen_del (l := l) (ns := ns) (seen := seen) (k := k) (by simpa using h) (fun y hy => hu y (by simpa [unseen, hs] using hy))
        simp [unseen, hs, this]
      · have := unseen_del (l := l) (ns := ns) (seen := seen) (k := k) (by simpa using h) (fun y hy => hu y (by simp [unseen, hs, hy]))
        simp [unseen, hs, this]
/-- delete, in a range over the map: an entry that has come. -/
theorem delete_it (h : sat E w H) {t kt vt ty i b : Nat} {cs : Array Bool} {l rest : List (Int × Value)} {k : Int} [u : Ul P t (.map kt vt)] [j : Ul P kt (.int .i64)] [s : Split H (omit_ i b l rest) R] (hk : ∀ x ∈ rest, x.1 ≠ k)
    (kk : ∀ w', sat E w' (omit_ i b (delM l k) rest * R) → K (.tuple #[]) w') : ef P (oBi .delete #[t, kt] ty cs #[.map (some b), .int .i64 k]) w K := by
  obtain ⟨ns, c, seen, st, rfl, hp⟩ := sat_omit.1 (h.perm s.eq)
  have hp := hp.perm (star_left_comm _ _ _)
  have hb := hp.pts_get
  have hf := run_findKey (P := P) (w := w) j.ul (k := k) st.len
  cases hx : findM l k with
  | none =>
    rw [hx] at hf
    refine ef_of (v := .tuple #[]) (w' := w.putObj b (.map (ents l ns).toArray c)) ?_ (kk _ ?_)
    · simp [oBi, builtin, Builtin.delete_, run_underlying' u.ul, getObj_at hb, run_checkKey j.ul, hf, setObj_at hb]
    · rw [findM_gone hx]; exact sat_omit.2 ⟨_, _, _, st, rfl, (hp.set _).perm (star_left_comm _ _ _)⟩
  | some y =>
    rw [hx] at hf
    obtain ⟨a1, a2, a3⟩ := findM_del st.len hx
    refine ef_of (v := .tuple #[]) (w' := w.putObj b (.map (ents (delM l k) (delN l ns k)).toArray c)) ?_ (kk _ (sat_omit.2 ⟨_, _, seen, ⟨a2, st.nd.sublist a3, fun n hn => st.lt n (a3.subset hn)⟩, (unseen_del st.len hk).symm, (hp.set _).perm (star_left_comm _ _ _)⟩))
    rw [← a1]
    simp [oBi, builtin, Builtin.delete_, run_underlying' u.ul, getObj_at hb, run_checkKey j.ul, hf, setObj_at hb]
end
end Hold

/-
  slices.Sort of whole numbers, by the kit's contract, said of an owned slice.
-/
set_option linter.all false
namespace Hold
open Go Go.Sort Go.Proofs
def iv (n : Int) : Value := .int .i64 n
section
variable {P : Program} {E : World0} {w : World} {H R : HP} {K : Value → World → Prop}
/-- A block has turned, and blocks have come. -/
theorem sat_turn {w' : World} {b : Nat} {o o' : Obj} (h : sat E w (pts b o * R)) (he : env w' = env w) (hb : w'.heap[b]? = some o') (hk : ∀ (k : Nat) (x : Obj), k ≠ b → w.heap[k]? = some x → w'.heap[k]? = some x) : sat E w' (pts b o' * R) := by
  have hs := h.set o'
  obtain ⟨e, I, h', ha, hb', hp⟩ := hs
  have key : ∀ (k : Nat) (x : Obj), (w.putObj b o').heap[k]? = some x → w'.heap[k]? = some x := by
    intro k x hx
    have hx : (w.heap.setIfInBounds b o')[k]? = some x := hx
    by_cases hkb : k = b
    · subst hkb
      rw [Array.getElem?_setIfInBounds_self] at hx
      split at hx
      · rw [hb]; exact hx
      · cases hx
    · rw [Array.getElem?_setIfInBounds_ne (fun h => hkb h.symm)] at hx
      exact hk k x hkb hx
  refine ⟨he.trans (show env w = E from e), I, h', fun k x hI => ⟨(ha k x hI).1, key k x (ha k x hI).2⟩, fun k x hx => key k x (hb' k x hx), hp⟩
theorem putCells_iv (ts : List Int) (sp : List Value) (xs : List Value) (hl : xs.length = ts.length) : putCells (Value.int .i64) 0 ts.toArray (xs ++ sp).toArray = (ts.map iv ++ sp).toArray := by
  apply Array.ext'
  apply List.ext_getElem?
  intro j
  rw [Array.getElem?_toList]
  simp only [putCells, Array.getElem?_mapIdx, List.getElem?_toArray, Nat.zero_le, Nat.zero_add, List.size_toArray, true_and, Nat.sub_zero]
  by_cases hj : j < ts.length
  · rw [List.getElem?_append_left (by rw [hl]; exact hj), List.getElem?_append_left (by simpa using hj), List.getElem?_eq_getElem (by rw [hl]; exact hj)]
    simp [hj, iv]
  · rw [List.getElem?_append_right (by omega), List.getElem?_append_right (by simp; omega)]
    simp [hj, hl]
theorem sort_sl {f : FuncId} (hS : ∀ (blk off cap : Nat) (zs : List Int) (w : World), Holds (Value.int .i64) w blk off zs.toArray → blk < w.heap.size → zs.length < 4611686018427387904 →
      Calls P f #[.slice (some ⟨blk, off, none⟩) zs.length cap] w fun e w' => e = .returned (.tuple #[]) ∧ ∃ n os, w' = grow (putRow (Value.int .i64) (Sort.ahead w n) blk off (zs.mergeSort fun x y => decide (x ≤ y)).toArray) os)
    (hN : ∀ (p : Option Addr) (cap : Nat) (w : World), Calls P f #[.slice p 0 cap] w fun e w' => e = .returned (.tuple #[]) ∧ w' = w)
    {e : TypeId} {v : Value} {zs : List Int} (h : sat E w (osl e 1 v zs.length (zs.map iv) * R)) (hl : zs.length ≤ 1000000)
    (k : ∀ w', sat E w' (osl e 1 v zs.length ((zs.mergeSort fun x y => decide (x ≤ y)).map iv) * R) → K (.tuple #[]) w') : Calls P f #[v] w (Ret K) := by
  have hlen : (zs.mergeSort fun x y => decide (x ≤ y)).length = zs.length := List.length_mergeSort _
  by_cases h0 : zs = []
  · subst h0
    have e0 : (([] : List Int).mergeSort fun x y => decide (x ≤ y)) = [] := by simp
    obtain ⟨a, c, rfl, _, _, _⟩ := osl_shape h
    refine (hN a c w).mono ?_
    rintro e w' ⟨rfl, rfl⟩
    refine ⟨_, rfl, k _ ?_⟩
    rw [e0]
    exact h
  · rcases sat_osl.1 h with ⟨rfl, h1, h2, hR⟩ | ⟨b, cap, sp, rfl, h1, h2, h3, h4, hP⟩
    · exact absurd (List.eq_nil_of_length_eq_zero h1) h0
    · have hb := hP.pts_get
      have hlt := (Array.getElem?_eq_some_iff.1 hb).1
      have hH : Holds (Value.int .i64) w b 0 zs.toArray := holds_of_blockI (e := e) hb (by simp [List.take_left', iv])
      refine (hS b 0 cap zs w hH hlt (by omega)).mono ?_
      rintro e' w' ⟨rfl, n, os, rfl⟩
      refine ⟨_, rfl, k _ ?_⟩
      refine sat_osl.2 (.inr ⟨b, cap, sp, rfl, by simp [hlen], by simpa [hlen] using h2, h3, h4, ?_⟩)
      have hg := grownBy_sortedI (w := w) (g := b) (n := n) (os := os) (zs.mergeSort fun x y => decide (x ≤ y)).toArray
      have hh := heap_sortedI (n := n) (os := os) (zs.mergeSort fun x y => decide (x ≤ y)).toArray hb
      rw [putCells_iv _ sp (zs.map iv) (by simp [hlen])] at hh
      refine sat_turn hP rfl hh fun j x hj hx => ?_
      have hjl := (Array.getElem?_eq_some_iff.1 hx).1
      rw [heap_grow_old _ _ (by simpa using hjl)]
      have hne : b ≠ j := fun h => hj h.symm
      simp [putRow, mapBlock, Sort.ahead, Array.getElem?_modify, hne, hx]
end
end Hold
