/-
  Short names for the operations, as the printed bodies use them.
-/
import Derived.Test.YtfaeklinhchidaaGreatDen
import Derived.Recover
import Derived.Test.YtfaeklinhchidaaGreatHp
import Derived.Lib.Small
import Derived.Laws.IdiomStrings
import Derived.Lib.BufferRead
import Derived.Carry
import Derived.ChangeSame
import Derived.Handed
import Derived.JoinedOf
import Derived.OpenShut
import Derived.WalkKit
import Derived.ProofKit
import Derived.Lib.SmallJoins
import Derived.Deep.Slices
import Derived.Lib.AppendStr
import Derived.Laws.IdiomCopy
import Derived.Laws.CopyRow
import Derived.SliceStrings
import Derived.Stop.BytesEq
import Derived.Lib.AppendZerosOnto
import Derived.Lib.AppendZeros
import Derived.SizedLaws
import Derived.ChangeMaps5
import Derived.Lib.Builder
import Derived.Lib.UnsafeStr
import Derived.Lib.Bytealg
import Derived.Lib.SlBytesConst
set_option linter.all false
namespace Hold
open Go

def vN (s : Sem Value) : Sem Next := do pure (.value (← s))
def uN (s : Sem Unit) : Sem Next := do s; pure .skip
def pvv (P : Program) (s : Sem Value) (w : World) (K : Value → World → Prop) : Prop := pv P (vN s) w K
def ldv (P : Program) (s : Sem Value) (w : World) (K : Value → World → Prop) : Prop := ld P (vN s) w K
def efv (P : Program) (s : Sem Value) (w : World) (K : Value → World → Prop) : Prop := ef P (vN s) w K
def efu (P : Program) (s : Sem Unit) (w : World) (K : Value → World → Prop) : Prop := ef P (uN s) w K
def stv (P : Program) (g : Gd) (s : Sem Value) (v : Value) (w : World) (A : Prop) : Prop := stay P g (vN s) v w A
def oPick (c a b : Value) : Sem Next := do pure (.value (if ← asBool c then a else b))
def oNil (x : Value) : Sem Next :=
  match x with
  | .pointer none | .nilIface | .nilFunc => runtimePanic .nilDeref
  | .func (.method name) first captured =>
    match (first[0]? : Option Value) with
    | some .nilIface => runtimePanic .nilDeref
    | some (.iface t w) => do
      if (← nilAhead ((← program).types.size + Made.depth) t w name) != some false then
        unsupported (.noEntry "op/nilCheck.the method's receiver behind this interface value is a nil pointer, or cannot be seen to be none, and the arguments act or may panic (ledger 612)")
      pure (.value (.func (.method name) first captured))
    | _ => pure (.value (.func (.method name) first captured))
  | x => pure (.value x)
def oEq (op : BinOp) (t : TypeId) (x y : Operand) (a b : Value) : Sem Value := do eqGuard op t x y a b; binOp op t a b
def oBi (b : Builtin) (argTypes : Array TypeId) (type : TypeId) (consts : Array Bool) (args : Array Value) : Sem Next := builtin b argTypes type consts args

end Hold

/-
  A function that defers one closure, which recovers: what its code asks, where nothing panics.
-/
set_option linter.all false
namespace Hold
open Go

inductive AnnD where
  | here (t : Ann)
  | seq (a : Ann) (r : AnnD)
def deferOf (o : Oper) : Option Operand :=
  match o.guard, o.op with
  | none, .defer c => (match c.callee, c.args.toList with | .value x, [] => some x | _, _ => none)
  | _, _ => none
def isFn (v : Value) : Prop := match v with | .func _ _ _ => True | _ => False
def denD (P : Program) : Code → AnnD → Ev → World → (Option Value → Exit → Ev → World → Prop) → Prop
  | .seq (.region _ ops false) b, .here t, ev, w, Q =>
    match ops.toList with
    | [mk, df] => denOps P ops [mk] ev w fun ev w =>
        match deferOf df with
        | some x => (match evOf ev x with | some v => (match ev.d with | [] => isFn v ∧ den P true b t (putE ev df.dst undef) w fun e ev w => Q (some v) e ev w | _ => False) | none => False)
        | none => False
    | _ => False
  | .seq a r, .seq s t, ev, w, Q => den P true a s ev w fun e ev' w' => match e with | .normal => denD P r t ev' w' Q | e => Q none e ev' w'
  | _, _, _, _, _ => False
def chkD (P : Program) : Code → AnnD → Bool
  | .seq (.region _ _ false) b, .here t => chk P b t
  | .seq a r, .seq s t => chk P a s && chkD P r t
  | _, _ => false
/-- The deferred closure is called where nothing panics. -/
def dfr (P : Program) (v : Value) (w : World) (K : World → Prop) : Prop :=
  match v with
  | .func fv first cap => ∃ f args, (invoke (.fn fv cap) first).run P w = .ok (.enter f args) w ∧ CallsD P f args .returning w fun e u w' => (∃ x, e = .returned x) ∧ u = .returning ∧ K w'
  | _ => False
def undD (P : Program) : Option Value → World → (World → Prop) → Prop
  | none, w, K => K w
  | some v, w, K => dfr P v w K
def denFnD (P : Program) (fn : Func) (t : AnnD) (args : List Value) (w : World) (K : Value → World → Prop) : Prop :=
  match fn.body with
  | some c => denD P c t ⟨args.length + (fn.ntmps - args.length), startE args, []⟩ w fun df e ev w' =>
    match e with
    | .normal | .ret => (match ev.d with | [] => undD P df w' fun w' => denRes P fn.results.toList ev w' fun vs => K (tupled vs) w' | _ => False)
    | _ => False
  | none => False
def chkFnD (P : Program) (fn : Func) (t : AnnD) : Bool := match fn.body with | some c => chkD P c t | none => false
section
variable {P : Program}
def bsOf : Option Value → List Deferred
  | some (.func fv first cap) => [{ target := .fn fv cap, args := first }]
  | _ => []
def liftD (Q : Option Value → Exit → Ev → World → Prop) (e : Exit) (a : Act) (w : World) : Prop :=
  match e with
  | .panic _ => False
  | .outgrown => False
  | e => ∃ df ev', Agree (bsOf df) ev' a ∧ Q df e ev' w
theorem liftD_of {bs : List Deferred} {b : Bool} {m : Nat} {ev : Ev} {Q : Exit → Ev → World → Prop} {Q' : Option Value → Exit → Ev → World → Prop} {df : Option Value} (hb : bsOf df = bs) {e : Exit} {a : Act} {w : World} (h : lift bs b m ev Q e a w)
    (hq : ∀ ev' , Q e ev' w → Q' df e ev' w) : liftD Q' e a w := by
  obtain ⟨hne, hno, ev', hA, _, hk⟩ := lift_of h
  cases e with
  | panic c => exact absurd rfl (hne c)
  | outgrown => exact absurd rfl hno
  | normal => exact ⟨df, ev', hb ▸ hA, hq _ hk⟩
  | exit k => exact ⟨df, ev', hb ▸ hA, hq _ hk⟩
  | goto k => exact ⟨df, ev', hb ▸ hA, hq _ hk⟩
  | ret => exact ⟨df, ev', hb ▸ hA, hq _ hk⟩
theorem deferOf_spec {o : Oper} {x : Operand} (h : deferOf o = some x) : o.guard = none ∧ ∃ c, o.op = .defer c ∧ c.callee = .value x ∧ c.args = #[] := by
  unfold deferOf at h
  split at h
  · rename_i c hg ho
    split at h
    · rename_i y h1 h2
      cases h
      exact ⟨hg, c, ho, h1, by simpa using h2⟩
    · cases h
  · cases h
theorem denD_seq {x r : Code} {s : Ann} {t : AnnD} {ev : Ev} {w : World} {Q : Option Value → Exit → Ev → World → Prop} :
    denD P (.seq x r) (.seq s t) ev w Q = den P true x s ev w fun e ev' w' => match e with | .normal => denD P r t ev' w' Q | e => Q none e ev' w' := by
  cases x with
  | region id ops d => cases d <;> rfl
  | _ => rfl
theorem chkD_seq {x r : Code} {s : Ann} {t : AnnD} : chkD P (.seq x r) (.seq s t) = (chk P x s && chkD P r t) := by
  cases x with
  | region id ops d => cases d <;> rfl
  | _ => rfl
theorem denD_sound : ∀ (c : Code) (t : AnnD) (ev : Ev) (w : World) (Q : Option Value → Exit → Ev → World → Prop) (a : Act),
    chkD P c t = true → denD P c t ev w Q → Agree [] ev a → c.wpIn (Wd none) 0 P (liftD Q) a w := by
  intro c
  induction c with
  | seq x r ihx ihr =>
    intro t ev w Q a hc h hA
    cases t with
    | seq s t =>
      rw [denD_seq] at h
      rw [chkD_seq] at hc
      rw [Bool.and_eq_true] at hc
      refine wp_seq_of (den_sound x [] s true none ev w _ a (fun _ => rfl) hc.1 h hA) (fun a' w' hn => ?_) (fun e a' w' he hx => ?_)
      · obtain ⟨_, _, ev', hA', _, hk⟩ := lift_of hn
        exact ihr t ev' w' Q a' hc.2 hk hA'
      · refine liftD_of (df := none) rfl hx fun ev' hk => ?_
        cases e <;> first | exact absurd rfl he | exact hk
    | here t =>
      cases x <;> try exact h.elim
      rename_i id ops draw
      cases draw with
      | true => exact h.elim
      | false =>
      have hc : chk P r t = true := hc
      simp only [denD] at h
      split at h
      case h_2 => exact h.elim
      rename_i mk df hops
      refine wp_seq_of (Q' := fun e a w => e = .normal ∧ ∃ v ev', isFn v ∧ Agree (bsOf (some v)) ev' a ∧ den P true r t ev' w fun e ev w => Q (some v) e ev w) (wpIn_region_list ?_) (fun a' w' hn => ?_) (fun e a' w' he hx => absurd hx.1 he)
      · rw [hops]
        simp only [denOps] at h
        cases hg : guardOf ops ev mk with
        | none => rw [hg] at h; exact h.elim
        | some g =>
          rw [hg] at h
          have next : ∀ v w', (match deferOf df with
              | some x => (match evOf (putE ev mk.dst v) x with | some v' => (match (putE ev mk.dst v).d with | [] => isFn v' ∧ den P true r t (putE (putE ev mk.dst v) df.dst undef) w' fun e ev w => Q (some v') e ev w | _ => False) | none => False)
              | none => False) → wpListIn (Wd none) 0 P ops (fun e a w => e = .normal ∧ ∃ v ev', isFn v ∧ Agree (bsOf (some v)) ev' a ∧ den P true r t ev' w fun e ev w => Q (some v) e ev w) [df] (a.put mk.dst v) w' := fun v w' hd => by
            split at hd
            case h_2 => exact hd.elim
            rename_i x hdf
            split at hd
            case h_2 => exact hd.elim
            rename_i u hu
            split at hd
            case h_2 => exact hd.elim
            rename_i hd0
            obtain ⟨hfn, hd⟩ := hd
            obtain ⟨h1, c, h2, h3, h4⟩ := deferOf_spec hdf
            have hA1 := hA.put mk.dst v
            have hev := hA1.eval hu
            unfold wpListIn
            rw [if_pos (by unfold Region.wanted; rw [h1])]
            refine ⟨about_ok, ?_⟩
            cases u <;> try exact hfn.elim
            rename_i fv first cap
            have hrun : (df.semAt (Wd none).round (a.put mk.dst v).eval).run P w' = .ok (.defer { target := .fn fv cap, args := first }) w' := by
              show (execOp (a.put mk.dst v).eval df).run P w' = _
              unfold execOp
              rw [h2]
              simp only [resolve, h3, h4, hev, Deferred.ofValue, Sem.run_bind, Sem.run_pure, Result.andThen_ok]
              simp
            rw [hrun]
            rw [Oper.uponIn_defer]
            unfold wpListIn
            refine ⟨rfl, .func fv first cap, putE (putE ev mk.dst v) df.dst undef, trivial, ?_, hd⟩
            have hA2 : Agree (bsOf (some (.func fv first cap))) (putE ev mk.dst v) { a.put mk.dst v with defers := { target := .fn fv cap, args := first } :: (a.put mk.dst v).defers } := by
              refine ⟨hA1.1, hA1.2.1, ?_⟩
              have h9 := hA1.2.2
              rw [hd0] at h9 ⊢
              show _ :: (a.put mk.dst v).defers = _
              rw [h9]
              rfl
            exact hA2.put df.dst undef
          unfold wpListIn
          rcases gate_cases h with ⟨hw, h⟩ | ⟨hw, h⟩
          · rw [if_pos ((guard_wanted hA hg).2 hw)]
            exact denOp_oper h hA next
          · rw [if_neg (fun h' => hw ((guard_wanted hA hg).1 h'))]
            exact ⟨about_ok, next undef w h⟩
      · obtain ⟨_, v, ev', hfn, hA', hd⟩ := hn
        refine wpIn_mono (den_sound r _ t true none ev' w' _ a' (fun _ => rfl) hc hd hA') fun e a'' w'' hl => ?_
        exact liftD_of (df := some v) rfl hl fun ev' hk => hk
  | _ => intro t ev w Q a hc h hA; cases t <;> exact h.elim
theorem denFnD_calls {f : FuncId} {fn : Func} {t : AnnD} {args : List Value} {w : World} {K : Value → World → Prop} (hf : P.funcs[f]? = some fn)
    (hchk : chkFnD P fn t = true) (h : denFnD P fn t args w K) : Calls P f args.toArray w (Ret K) := by
  unfold denFnD at h
  split at h
  case h_2 => exact h.elim
  rename_i c hc
  refine calls_of_wp_defers hf hc (wpIn_wide (n := 0) |>.1 ?_)
  have hA : Agree [] ⟨args.length + (fn.ntmps - args.length), startE args, []⟩ { tmps := args.toArray ++ Array.replicate (fn.ntmps - args.toArray.size) undef, defers := [] } := start_agree
  refine wpIn_mono (denD_sound c t _ w _ _ (by unfold chkFnD at hchk; rw [hc] at hchk; exact hchk) h hA) fun e a' w' hl => ?_
  have fin : ∀ df ev', Agree (bsOf df) ev' a' → (match ev'.d with | [] => undD P df w' fun w' => denRes P fn.results.toList ev' w' fun vs => K (tupled vs) w' | _ => False) → Leaves P fn a'.tmps (Ret K) a'.defers .returning w' := fun df ev' hA' hu => by
    split at hu
    case h_2 => exact hu.elim
    rename_i hd0
    have last : ∀ w', denRes P fn.results.toList ev' w' (fun vs => K (tupled vs) w') → Leaves P fn a'.tmps (Ret K) [] .returning w' := fun w' hu => by
      obtain ⟨vs, h1, h2⟩ := denRes_sound (P := P) (w := w') hA' _ _ hu
      refine ⟨tupled vs, ?_, _, rfl, h2⟩
      rw [results_eq, Array.mapM_eq_mapM_toList]
      simp only [Sem.run_bind, Sem.run_map, h1, Result.andThen_ok, Sem.run_pure, tupled_eq]
    have hdf := hA'.2.2
    rw [hd0] at hdf
    cases df with
    | none =>
      have hdf : a'.defers = [] := hdf
      rw [hdf]
      exact last w' hu
    | some v =>
      cases v <;> try exact hu.elim
      rename_i fv first cap
      have hdf : a'.defers = [{ target := .fn fv cap, args := first }] := hdf
      rw [hdf]
      obtain ⟨f, args, hinv, hcall⟩ := hu
      refine ⟨by simp, fv, cap, f, args, rfl, hinv, ?_⟩
      intro c₀ cs hu0
      obtain ⟨e, u', w'', fr, ⟨⟨x, rfl⟩, rfl, hk⟩, hs⟩ := hcall c₀ cs hu0
      exact ⟨.returned x, .returning, w'', fr, last _ hk, hs⟩
  cases e with
  | normal => obtain ⟨df, ev', hA', hq⟩ := hl; exact fin df ev' hA' hq
  | ret => obtain ⟨df, ev', hA', hq⟩ := hl; exact fin df ev' hA' hq
  | exit k => obtain ⟨df, ev', hA', hq⟩ := hl; exact hq.elim
  | goto k => obtain ⟨df, ev', hA', hq⟩ := hl; exact hq.elim
  | panic c => exact hl.elim
  | outgrown => exact hl.elim
end
end Hold

/-
  The operations, as rules: what each comes to, over a heap of owned and staying blocks.
-/
set_option linter.all false
namespace Hold
open Go

/-! ### What the tables say of types -/
class OneC (P : Program) (t : TypeId) : Prop where
  agg : ∀ w, (isAgg t).run P w = .ok false w
  size : (P.info? t).map (·.size) = some 1
class AggC (P : Program) (t : TypeId) (n : outParam Nat) : Prop where
  agg : ∀ w, (isAgg t).run P w = .ok true w
  size : (P.info? t).map (·.size) = some n
class FldOff (P : Program) (s : TypeId) (f : Nat) (off : outParam Nat) : Prop where
  run : ∀ (b o : Nat) w, (Instr.fieldAt s (.pointer (some ⟨b, o, none⟩)) f).run P w = .ok (.pointer (some ⟨b, o + off, none⟩)) w
class SliceT (P : Program) (t : TypeId) (e : outParam TypeId) (n by_ : outParam Nat) (z : outParam Value) : Prop where
  ul : P.underlying t = some (.slice e)
  info : (P.info? e).map (fun i => (i.zero, i.size, i.bytes)) = some (some z, n, by_)
  zs : z.cells.size = n
  pos : 0 < n
class Ul (P : Program) (t : TypeId) (d : outParam TypeDesc) : Prop where
  ul : P.underlying t = some d

theorem run_sizeOf' {P : Program} {t : TypeId} {n : Nat} {w : World} (h : (P.info? t).map (·.size) = some n) : (Go.sizeOf t).run P w = .ok n w := by
  unfold Go.sizeOf typeInfo
  cases hi : P.info? t with
  | none => rw [hi] at h; cases h
  | some i => rw [hi] at h; simp at h; simp [hi, h]
theorem run_underlying' {P : Program} {t : TypeId} {d : TypeDesc} {w : World} (h : P.underlying t = some d) : (underlying t).run P w = .ok d w := by
  unfold underlying; simp [h]

section
variable {P : Program} {E : World0} {w : World} {H R : HP} {K : Value → World → Prop}

theorem vN_run {s : Sem Value} {v : Value} {w w' : World} (h : s.run P w = .ok v w') : (vN s).run P w = .ok (.value v) w' := by
  unfold vN; simp [h]
theorem uN_run {s : Sem Unit} {w w' : World} (h : s.run P w = .ok () w') : (uN s).run P w = .ok .skip w' := by
  unfold uN; simp [h]

theorem pvv_of {s : Sem Value} {v : Value} (hr : ∀ w, s.run P w = .ok v w) (k : K v w) : pvv P s w K := ⟨v, fun w => vN_run (hr w), k⟩
theorem pvv_eq {s : Sem Value} {v : Value} (hr : ∀ w, s.run P w = .ok v w) : pvv P s w K = K v w :=
  propext ⟨fun ⟨u, hu, k⟩ => by have := (hu w).symm.trans (vN_run (hr w)); cases this; exact k, pvv_of hr⟩
theorem pv_eq {s : Sem Next} {v : Value} (hr : ∀ w, s.run P w = .ok (.value v) w) : pv P s w K = K v w :=
  propext ⟨fun ⟨u, hu, k⟩ => by have := (hu w).symm.trans (hr w); cases this; exact k, fun k => ⟨v, hr, k⟩⟩
theorem ldv_of {s : Sem Value} {v : Value} (hr : s.run P w = .ok v w) (k : K v w) : ldv P s w K := ⟨v, vN_run hr, k⟩
theorem efv_of {s : Sem Value} {v : Value} {w' : World} (hr : s.run P w = .ok v w') (k : K v w') : efv P s w K := by
  show upon P K _; rw [vN_run hr]; exact k
theorem efu_of {s : Sem Unit} {w' : World} (hr : s.run P w = .ok () w') (k : K undef w') : efu P s w K := by
  show upon P K _; rw [uN_run hr]; exact k
theorem ef_of {s : Sem Next} {v : Value} {w' : World} (hr : s.run P w = .ok (.value v) w') (k : K v w') : ef P s w K := by
  show upon P K _; rw [hr]; exact k
theorem stv_of {g : Gd} {s : Sem Value} {v : Value} {A : Prop} (hr : s.run P w = .ok v w) (k : A) : stv P g s v w A := ⟨fun _ => vN_run hr, k⟩

theorem oCall_run {f : FuncId} {args : Array Value} {w : World} : (oCall (.func (.func f) #[] #[]) args).run P w = (callFunc f args).run P w := by
  simp [oCall, Deferred.ofValue, invoke]
/-- A call of a function value: of a function with a body. -/
theorem oCall_body {f : FuncId} {args cap : Array Value} {fn : Func} (hf : P.funcs[f]? = some fn) (hn : (fn.name == "runtime.NumGoroutine") = false) (hb : fn.body.isNone = false) (h : Calls P f (args ++ cap) w (Ret K)) :
    ef P (oCall (.func (.func f) #[] cap) args) w K := by
  have h1 : fn.name ≠ "runtime.NumGoroutine" := by simpa using hn
  show upon P K _
  have e : (oCall (.func (.func f) #[] cap) args).run P w = .ok (.enter f (args ++ cap)) w := by
    have h2 : fn.body ≠ none := by intro e; simp [e] at hb
    simp [oCall, Deferred.ofValue, invoke, callFunc, hf, h1, h2]
  rw [e]; exact h
/-! ### Tests, gates, meetings -/
theorem cd_true {A B : Prop} : cd (.bool true) A B = A := by simp [cd]
theorem cd_false {A B : Prop} : cd (.bool false) A B = B := by simp [cd]
theorem cd_split {b : Bool} {A B : Prop} (h1 : b = true → A) (h2 : b = false → B) : cd (.bool b) A B := ⟨h1, h2⟩
theorem cd_dec {p : Prop} [Decidable p] {A B : Prop} (h1 : p → A) (h2 : ¬ p → B) : cd (.bool (decide p)) A B := ⟨fun h => h1 (by simpa using h), fun h => h2 (by simpa using h)⟩
theorem gate_tt {yes : (Value → World → Prop) → Prop} : gate (some (.bool true, true)) yes w K = yes K := propext ⟨fun h => h.out, fun h => ⟨h⟩⟩
theorem gate_ff {yes : (Value → World → Prop) → Prop} : gate (some (.bool false, false)) yes w K = yes K := propext ⟨fun h => h.out, fun h => ⟨h⟩⟩
theorem gate_tf {yes : (Value → World → Prop) → Prop} : gate (some (.bool true, false)) yes w K = K undef w := propext ⟨fun h => h.out, fun h => ⟨h⟩⟩
theorem gate_ft {yes : (Value → World → Prop) → Prop} : gate (some (.bool false, true)) yes w K = K undef w := propext ⟨fun h => h.out, fun h => ⟨h⟩⟩
theorem gate_undef {yes : (Value → World → Prop) → Prop} {b : Bool} : gate (some (undef, b)) yes w K = K undef w := propext ⟨fun h => h.out, fun h => ⟨h⟩⟩
theorem o_bind {s : Sem Next} {k : Sem Next → Prop} : bindS s k = k s := rfl
theorem stay_v {g : Gd} {s : Sem Value} {v : Value} {w : World} {A : Prop} : stay P g (vN s) v w A = stv P g s v w A := rfl
theorem pop_cons {v : Value} {σ : List Value} {f : Value → List Value → Prop} : pop (v :: σ) f = f v σ := rfl
theorem fin_nil {A : Prop} : fin [] A = A := rfl
theorem dr_sl {K : World → Prop} (h : sat E w H) (k : ∀ w', sat E w' H → hp w' = hp w → K w') : dr w K := k w.drew h.drew rfl
theorem jn_cut {rest : List Value → World → Prop} {body : (List Value → World → Prop) → Prop} (Φ : List Value → World → Prop) (h1 : ∀ k : List Value → World → Prop, (∀ σ w, Φ σ w → k σ w) → body k) (h2 : ∀ σ w, Φ σ w → rest σ w) : jn rest body := h1 rest h2
theorem lp_inv {body : List Value → World → (List Value → World → Prop) → Prop} {σ : List Value} (I : List Value → World → Prop) (μ : List Value → World → Nat) (h0 : I σ w)
    (h : ∀ σ w (again : List Value → World → Prop), I σ w → (∀ σ' w', I σ' w' → μ σ' w' < μ σ w → again σ' w') → body σ w again) : lp body σ w :=
  ⟨I, μ, h0, fun σ w hI => h σ w _ hI fun σ' w' h1 h2 => ⟨h1, h2⟩⟩
/-- A loop that counts what is left. -/
theorem lp_nat {body : List Value → World → (List Value → World → Prop) → Prop} {σ : List Value} (I : Nat → List Value → World → Prop) (n : Nat) (h0 : I n σ w)
    (h : ∀ n σ w (again : List Value → World → Prop), I n σ w → (∀ m σ' w', m < n → I m σ' w' → again σ' w') → body σ w again) : lp body σ w := by
  classical
  have key : ∀ σ w, (∃ m, I m σ w) → ∃ m, I m σ w ∧ ∀ k, I k σ w → m ≤ k := by
    intro σ w ⟨m, hm⟩
    induction m using Nat.strongRecOn with
    | _ m ih =>
      by_cases hx : ∃ k, k < m ∧ I k σ w
      · obtain ⟨k, hk, hI⟩ := hx; exact ih k hk hI
      · exact ⟨m, hm, fun k hk => Nat.le_of_not_lt fun hlt => hx ⟨k, hlt, hk⟩⟩
  refine lp_inv (fun σ w => ∃ m, I m σ w) (fun σ w => if h : ∃ m, I m σ w then Classical.choose (key σ w h) else 0) ⟨n, h0⟩ ?_
  intro σ w again hI hag
  obtain ⟨m1, m2⟩ := Classical.choose_spec (key σ w hI)
  refine h (Classical.choose (key σ w hI)) σ w again m1 fun m σ' w' hlt hI' => hag σ' w' ⟨m, hI'⟩ ?_
  obtain ⟨_, m4⟩ := Classical.choose_spec (key σ' w' ⟨m, hI'⟩)
  rw [dif_pos ⟨m, hI'⟩, dif_pos hI]
  exact Nat.lt_of_le_of_lt (m4 m hI') hlt

/-! ### Operations that yield -/
theorem o_nil {a : Addr} : pv P (oNil (.pointer (some a))) w K = K (.pointer (some a)) w := pv_eq fun _ => rfl
theorem o_field {s f b o off : Nat} [i : FldOff P s f off] : pvv P (Instr.fieldAt s (.pointer (some ⟨b, o, none⟩)) f) w K = K (.pointer (some ⟨b, o + off, none⟩)) w := pvv_eq fun _ => i.run b o _
theorem o_add {t : TypeId} {k : IntKind} {a b : Int} : pvv P (binOp .add t (.int k a) (.int k b)) w K = K (.int k (k.wrap (a + b))) w := pvv_eq fun _ => by simp [binOp, Op.intArith]
theorem o_sub {t : TypeId} {k : IntKind} {a b : Int} : pvv P (binOp .sub t (.int k a) (.int k b)) w K = K (.int k (k.wrap (a - b))) w := pvv_eq fun _ => by simp [binOp, Op.intArith]
theorem o_mul {t : TypeId} {k : IntKind} {a b : Int} : pvv P (binOp .mul t (.int k a) (.int k b)) w K = K (.int k (k.wrap (a * b))) w := pvv_eq fun _ => by simp [binOp, Op.intArith]
theorem o_lss {t : TypeId} {k : IntKind} {a b : Int} : pvv P (binOp .lss t (.int k a) (.int k b)) w K = K (.bool (decide (a < b))) w := pvv_eq fun _ => by simp [binOp, Op.intCmp]
theorem o_leq {t : TypeId} {k : IntKind} {a b : Int} : pvv P (binOp .leq t (.int k a) (.int k b)) w K = K (.bool (decide (a ≤ b))) w := pvv_eq fun _ => by simp [binOp, Op.intCmp]
theorem o_gtr {t : TypeId} {k : IntKind} {a b : Int} : pvv P (binOp .gtr t (.int k a) (.int k b)) w K = K (.bool (decide (b < a))) w := pvv_eq fun _ => by simp [binOp, Op.intCmp]
theorem o_geq {t : TypeId} {k : IntKind} {a b : Int} : pvv P (binOp .geq t (.int k a) (.int k b)) w K = K (.bool (decide (b ≤ a))) w := pvv_eq fun _ => by simp [binOp, Op.intCmp]
theorem o_not {b : Bool} : pvv P (Op.unary .not (.bool b)) w K = K (.bool !b) w := pvv_eq fun _ => by simp [Op.unary]
theorem o_pick {b : Bool} {x y : Value} : pv P (oPick (.bool b) x y) w K = K (if b then x else y) w := pv_eq fun _ => by simp [oPick, asBool]
theorem beq_dec (a b : Int) : (a == b) = decide (a = b) := rfl
theorem o_eqInt {t : TypeId} {xo yo : Operand} {k : IntKind} {a b : Int} : pvv P (oEq .eql t xo yo (.int k a) (.int k b)) w K = K (.bool (decide (a = b))) w := pvv_eq fun _ => by
  simp [oEq, eqGuard, binOp, Op.intCmp, beq_dec]
theorem o_neInt {t : TypeId} {xo yo : Operand} {k : IntKind} {a b : Int} : pvv P (oEq .neq t xo yo (.int k a) (.int k b)) w K = K (.bool !(decide (a = b))) w := pvv_eq fun _ => by
  simp [oEq, eqGuard, binOp, Op.intCmp, bne, beq_dec]
theorem o_eqBool {t : TypeId} {xo yo : Operand} {a b : Bool} [i : Ul P t .bool] : pvv P (oEq .eql t xo yo (.bool a) (.bool b)) w K = K (.bool (a == b)) w := pvv_eq fun w => by
  have := run_eql_bool (P := P) w t a b i.ul
  simp [oEq, eqGuard, this]
theorem o_neBool {t : TypeId} {xo yo : Operand} {a b : Bool} [i : Ul P t .bool] : pvv P (oEq .neq t xo yo (.bool a) (.bool b)) w K = K (.bool !(a == b)) w := pvv_eq fun w => by
  have := run_neq_bool (P := P) w t a b i.ul
  simp [oEq, eqGuard, this]
theorem run_eqPtrIn (d : Nat) {t e : TypeId} {p : Option Addr} {w : World} (h : P.underlying t = some (.pointer e)) : (Op.equalIn (d + 1) t (.pointer p) (.pointer none)).run P w = .ok p.isNone w := by
  cases p <;> simp [Op.equalIn, run_underlying' h]
theorem run_eqPtr {t e : TypeId} {p : Option Addr} {w : World} (h : P.underlying t = some (.pointer e)) : (Op.equal t (.pointer p) (.pointer none)).run P w = .ok p.isNone w := run_eqPtrIn 9999 h
theorem run_eqPtrIn' (d : Nat) {t e : TypeId} {p : Option Addr} {w : World} (h : P.underlying t = some (.pointer e)) : (Op.equalIn (d + 1) t (.pointer none) (.pointer p)).run P w = .ok p.isNone w := by
  simp [Op.equalIn, run_underlying' h]
theorem run_eqPtr' {t e : TypeId} {p : Option Addr} {w : World} (h : P.underlying t = some (.pointer e)) : (Op.equal t (.pointer none) (.pointer p)).run P w = .ok p.isNone w := run_eqPtrIn' 9999 h
theorem o_eqPtr {t e : TypeId} {xo yo : Operand} {p : Option Addr} [i : Ul P t (.pointer e)] : pvv P (oEq .eql t xo yo (.pointer p) (.pointer none)) w K = K (.bool p.isNone) w := pvv_eq fun w => by
  have := run_eqPtr (P := P) (p := p) (w := w) i.ul
  simp [oEq, eqGuard, binOp, this]
theorem o_nePtr {t e : TypeId} {xo yo : Operand} {p : Option Addr} [i : Ul P t (.pointer e)] : pvv P (oEq .neq t xo yo (.pointer p) (.pointer none)) w K = K (.bool !p.isNone) w := pvv_eq fun w => by
  have := run_eqPtr (P := P) (p := p) (w := w) i.ul
  simp [oEq, eqGuard, binOp, this]
theorem o_eqPtr' {t e : TypeId} {xo yo : Operand} {p : Option Addr} [i : Ul P t (.pointer e)] : pvv P (oEq .eql t xo yo (.pointer none) (.pointer p)) w K = K (.bool p.isNone) w := pvv_eq fun w => by
  have := run_eqPtr' (P := P) (p := p) (w := w) i.ul
  simp [oEq, eqGuard, binOp, this]
theorem run_eqSlIn (d : Nat) {t e : TypeId} {p : Option Addr} {l c : Nat} {w : World} (h : P.underlying t = some (.slice e)) : (Op.equalIn (d + 1) t (.slice p l c) (.slice none 0 0)).run P w = .ok p.isNone w := by
  cases p <;> simp [Op.equalIn, run_underlying' h]
theorem run_eqSl {t e : TypeId} {p : Option Addr} {l c : Nat} {w : World} (h : P.underlying t = some (.slice e)) : (Op.equal t (.slice p l c) (.slice none 0 0)).run P w = .ok p.isNone w := run_eqSlIn 9999 h
theorem o_eqSl {t e : TypeId} {xo yo : Operand} {p : Option Addr} {l c : Nat} [i : Ul P t (.slice e)] : pvv P (oEq .eql t xo yo (.slice p l c) (.slice none 0 0)) w K = K (.bool p.isNone) w := pvv_eq fun w => by
  have := run_eqSl (P := P) (p := p) (w := w) (l := l) (c := c) i.ul
  simp [oEq, eqGuard, binOp, this]
theorem o_neSl {t e : TypeId} {xo yo : Operand} {p : Option Addr} {l c : Nat} [i : Ul P t (.slice e)] : pvv P (oEq .neq t xo yo (.slice p l c) (.slice none 0 0)) w K = K (.bool !p.isNone) w := pvv_eq fun w => by
  have := run_eqSl (P := P) (p := p) (w := w) (l := l) (c := c) i.ul
  simp [oEq, eqGuard, binOp, this]
theorem o_eqStr {t : TypeId} {xo yo : Operand} {a b : ByteArray} : pvv P (oEq .eql t xo yo (.string a) (.string b)) w K = K (.bool (a.toList == b.toList)) w := pvv_eq fun w => by
  simp [oEq, eqGuard, binOp, Op.stringOp]
theorem o_neStr {t : TypeId} {xo yo : Operand} {a b : ByteArray} : pvv P (oEq .neq t xo yo (.string a) (.string b)) w K = K (.bool !(a.toList == b.toList)) w := pvv_eq fun w => by
  simp [oEq, eqGuard, binOp, Op.stringOp]
theorem o_len {t ty e : TypeId} {cs : Array Bool} {a : Option Addr} {l c : Nat} [i : Ul P t (.slice e)] : pv P (oBi .len #[t] ty cs #[.slice a l c]) w K = K (.int .i64 l) w := pv_eq fun w => by
  simp [oBi, builtin, Builtin.len_, run_underlying' i.ul, goInt]
theorem o_lenS {t ty : TypeId} {cs : Array Bool} {s : ByteArray} [i : Ul P t .string] : pv P (oBi .len #[t] ty cs #[.string s]) w K = K (.int .i64 s.size) w := pv_eq fun w => by
  simp [oBi, builtin, Builtin.len_, run_underlying' i.ul, goInt]
theorem o_min {t t' ty : TypeId} {cs : Array Bool} {k : IntKind} {a b : Int} : pv P (oBi .min #[t, t'] ty cs #[.int k a, .int k b]) w K = K (.int k (min a b)) w := pv_eq fun w => by
  have := run_min_int2 (P := P) w #[t, t'] ty k k a b
  simp only [oBi, builtin, Sem.run_bind, this, Result.andThen_ok, Sem.run_pure]
  congr 3
  omega
theorem o_max {t t' ty : TypeId} {cs : Array Bool} {k : IntKind} {a b : Int} : pv P (oBi .max #[t, t'] ty cs #[.int k a, .int k b]) w K = K (.int k (max a b)) w := pv_eq fun w => by
  have := run_max_int2 (P := P) w #[t, t'] ty k k a b
  simp only [oBi, builtin, Sem.run_bind, this, Result.andThen_ok, Sem.run_pure]
  congr 3
  omega
/-- The element of a written list. -/
class At (l : List Value) (i : Nat) (v : outParam Value) : Prop where get : l[i]? = some v
instance At.zero (v : Value) (l : List Value) : At (v :: l) 0 v := ⟨rfl⟩
instance At.succ (v u : Value) (l : List Value) (i : Nat) [h : At l i u] : At (v :: l) (i + 1) u := ⟨by simpa using h.get⟩
/-- A written list, one element turned. -/
class Put (l : List Value) (i : Nat) (v : Value) (l' : outParam (List Value)) : Prop where eq : l.set i v = l'
instance Put.zero (u v : Value) (l : List Value) : Put (u :: l) 0 v (v :: l) := ⟨rfl⟩
instance Put.succ (u v : Value) (l l' : List Value) (i : Nat) [h : Put l i v l'] : Put (u :: l) (i + 1) v (u :: l') := ⟨by simpa using h.eq⟩
theorem o_extract {l : List Value} {i : Nat} {v : Value} [h : At l i v] : pvv P (Instr.extract (.tuple l.toArray) i) w K = K v w := pvv_eq fun w => by
  simp [Instr.extract, h.get]
theorem o_convInt {s d : TypeId} {k k' : IntKind} {n : Int} [i : Ul P s (.int k)] [j : Ul P d (.int k')] : pvv P (convert s d (.int k n)) w K = K (.int k' (k'.wrap n)) w := pvv_eq fun w => by
  simp [convert, run_underlying' i.ul, run_underlying' j.ul, Conv.intToInt]
theorem o_index {t e n m : TypeId} {z : Value} [i : SliceT P t e n m z] {b o l c : Nat} {k : IntKind} {x : Int} (h0 : 0 ≤ x) (h1 : x < l) :
    pvv P (Instr.indexAt t (.slice (some ⟨b, o, none⟩) l c) (.int k x)) w K = K (.pointer (some ⟨b, o + x.toNat * n, none⟩)) w := pvv_eq fun w => by
  have hi : (P.info? e).map (·.size) = some n := by
    have := i.info
    cases hi : P.info? e with
    | none => rw [hi] at this; cases this
    | some y => rw [hi] at this; simp at this; simp [this.2.1]
  have ha : ∀ m : Nat, (⟨b, o, none⟩ : Addr).add m = ⟨b, o + m, none⟩ := fun m => by unfold Addr.add; split <;> simp_all
  simp [Instr.indexAt, asIntOf, run_underlying' i.ul, run_sizeOf' hi, h0, h1, ha]
/-! ### Slicing a slice -/
theorem SliceT.size {t e n m : Nat} {z : Value} (i : SliceT P t e n m z) : (P.info? e).map (·.size) = some n := by
  have := i.info
  cases hi : P.info? e with
  | none => rw [hi] at this; cases this
  | some y => rw [hi] at this; simp at this; simp [this.2.1]
/-- The address behind a cut: at the capacity's end it stays. -/
def cutA (a : Option Addr) (cap lo n : Nat) : Option Addr := if cap = lo then a else a.map (·.add (lo * n))
theorem o_slice_lh {t e n m : Nat} {z : Value} [i : SliceT P t e n m z] {a : Option Addr} {l c : Nat} {k k' : IntKind} {x y : Int} (h0 : 0 ≤ x) (h1 : x ≤ y) (h2 : y ≤ c) :
    pvv P (Instr.sliceAt t (.slice a l c) (some (.int k x)) (some (.int k' y)) none) w K = K (.slice (cutA a c x.toNat n) (y.toNat - x.toNat) (c - x.toNat)) w := by
  obtain ⟨x, rfl⟩ := Int.eq_ofNat_of_zero_le h0
  obtain ⟨y, rfl⟩ := Int.eq_ofNat_of_zero_le (show 0 ≤ y by omega)
  have h1' : x ≤ y := by omega
  have h2' : y ≤ c := by omega
  exact pvv_eq fun w => by
    simp [Instr.sliceAt, Instr.slice, Instr.sliceBounds, Instr.sliceBound, asIntOf, run_underlying' i.ul, run_sizeOf' i.size, h1', h2', cutA]
theorem o_slice_l {t e n m : Nat} {z : Value} [i : SliceT P t e n m z] {a : Option Addr} {l c : Nat} {k : IntKind} {x : Int} (h0 : 0 ≤ x) (h1 : x ≤ l) :
    pvv P (Instr.sliceAt t (.slice a l c) (some (.int k x)) none none) w K = K (.slice (cutA a c x.toNat n) (l - x.toNat) (c - x.toNat)) w := pvv_eq fun w => by
  simp [Instr.sliceAt, Instr.slice, Instr.sliceBounds, Instr.sliceBound, asIntOf, run_underlying' i.ul, run_sizeOf' i.size, h0, h1, cutA]
theorem o_slice_h {t e n m : Nat} {z : Value} [i : SliceT P t e n m z] {a : Option Addr} {l c : Nat} {k : IntKind} {y : Int} (h0 : 0 ≤ y) (h1 : y ≤ c) :
    pvv P (Instr.sliceAt t (.slice a l c) none (some (.int k y)) none) w K = K (.slice (cutA a c 0 n) y.toNat c) w := pvv_eq fun w => by
  simp [Instr.sliceAt, Instr.slice, Instr.sliceBounds, Instr.sliceBound, asIntOf, run_underlying' i.ul, run_sizeOf' i.size, h0, h1, cutA]

/-! ### Reads -/
theorem add_addr (b o m : Nat) : (⟨b, o, none⟩ : Addr).add m = ⟨b, o + m, none⟩ := by unfold Addr.add; split <;> simp_all
theorem cell_of {b o : Nat} {xs : Array Value} {e : TypeId} {fr : Nat × Nat} {v : Value} (hb : w.heap[b]? = some (.cells xs e fr)) (hv : xs[o]? = some v) : w.cell? ⟨b, o, none⟩ = some v := by
  simp [World.cell?, hb, hv]
theorem run_load1 {t : TypeId} {a : Addr} {v : Value} {w : World} [i : OneC P t] (h : w.cell? a = some v) : (Instr.loadAt t (.pointer (some a))).run P w = .ok v w := by
  simp [Instr.loadAt, Instr.sureAddr, loadVar, i.agg w, run_load, h]
theorem run_loadN {t n b o : Nat} {w : World} {cs : List Value} [i : AggC P t n] (hn : cs.length = n) (h : ∀ j v, cs[j]? = some v → w.cell? ⟨b, o + j, none⟩ = some v) :
    (Instr.loadAt t (.pointer (some ⟨b, o, none⟩))).run P w = .ok (.agg cs.toArray) w := by
  have := run_loadCells_list (P := P) w ⟨b, o, none⟩ cs (fun j v hj => by rw [add_addr]; exact h j v hj)
  simp [Instr.loadAt, Instr.sureAddr, loadVar, i.agg w, run_sizeOf' i.size, ← hn, this]
theorem ld_cell {t : TypeId} {a : Addr} {v : Value} [i : OneC P t] (h : w.cell? a = some v) (k : K v w) : ldv P (Instr.loadAt t (.pointer (some a))) w K := ldv_of (run_load1 h) k
theorem st_cell {g : Gd} {t : TypeId} {a : Addr} {v : Value} {A : Prop} [i : OneC P t] (h : w.cell? a = some v) (k : A) : stv P g (Instr.loadAt t (.pointer (some a))) v w A := stv_of (run_load1 h) k
theorem ld_at (h : sat E w H) {t b o e : Nat} {xs : List Value} {fr : Nat × Nat} {v : Value} [i : OneC P t] [hb : Has H b (.cells xs.toArray e fr)] [hv : At xs o v] (k : K v w) :
    ldv P (Instr.loadAt t (.pointer (some ⟨b, o, none⟩))) w K := ld_cell (cell_of (hb.get h) (by simpa using hv.get)) k
theorem st_at (h : sat E w H) {g : Gd} {t b o e : Nat} {xs : List Value} {fr : Nat × Nat} {v : Value} {A : Prop} [i : OneC P t] [hb : Has H b (.cells xs.toArray e fr)] [hv : At xs o v] (k : A) :
    stv P g (Instr.loadAt t (.pointer (some ⟨b, o, none⟩))) v w A := st_cell (cell_of (hb.get h) (by simpa using hv.get)) k
theorem ld_in (h : sat E w H) {t b o e : Nat} {xs : List Value} {fr : Nat × Nat} {v : Value} [i : OneC P t] [hb : Has H b (.cells xs.toArray e fr)] (hv : xs[o]? = some v) (k : K v w) :
    ldv P (Instr.loadAt t (.pointer (some ⟨b, o, none⟩))) w K := ld_cell (cell_of (hb.get h) (by simpa using hv)) k
theorem ld_agg (h : sat E w H) {t n b e : Nat} {xs : List Value} {fr : Nat × Nat} [i : AggC P t n] [hb : Has H b (.cells xs.toArray e fr)] (hn : xs.length = n) (k : K (.agg xs.toArray) w) :
    ldv P (Instr.loadAt t (.pointer (some ⟨b, 0, none⟩))) w K :=
  ldv_of (run_loadN hn fun j v hj => cell_of (hb.get h) (by simpa using hj)) k

/-! ### Writes -/
theorem setRow_putObj {g : Nat} {xs ys : Array Value} {e : TypeId} {fr : Nat × Nat} (h : w.heap[g]? = some (.cells xs e fr)) : w.setRow g ys = w.putObj g (.cells ys e fr) := by
  have hlt := (Array.getElem?_eq_some_iff.1 h).1
  unfold World.setRow World.putObj
  congr 1
  refine Array.ext_getElem? fun i => ?_
  rw [Array.getElem?_modify, Array.getElem?_setIfInBounds]
  by_cases hi : g = i
  · subst hi
    have hx : w.heap[g] = .cells xs e fr := (Array.getElem?_eq_some_iff.1 h).2
    simp [hlt, hx]
  · simp [hi]
theorem run_storeN {t n b o e : Nat} {w : World} {xs vs : List Value} {v : Value} (hsz : (P.info? t).map (·.size) = some n) (hv : v.cells.toList = vs) (hn : vs.length = n) (h1 : ∀ x ∈ vs, x.oneCell' = true)
    (hb : w.heap[b]? = some (.cells xs.toArray e (0, 0))) (hl : o + n ≤ xs.length) :
    (Instr.storeAt t (.pointer (some ⟨b, o, none⟩)) v).run P w = .ok () (w.putObj b (.cells (xs.take o ++ vs ++ xs.drop (o + n)).toArray e (0, 0))) := by
  have hc : v.cells.size = n := by rw [← Array.length_toList, hv, hn]
  have := run_storeCells_at P b o e vs 0 xs.toArray w hb (by simp; omega) h1
  rw [setRow_putObj hb] at this
  simp [Instr.storeAt, Instr.sureAddr, storeVar, hc, run_sizeOf' hsz, hv, this, hn]
theorem storeN_sl (h : sat E w H) {t n b o e : Nat} {xs vs : List Value} {v : Value} [hb : Own H b (.cells xs.toArray e (0, 0)) R] (hsz : (P.info? t).map (·.size) = some n) (hv : v.cells.toList = vs) (hn : vs.length = n)
    (h1 : ∀ x ∈ vs, x.oneCell' = true) (hl : o + n ≤ xs.length) (k : ∀ w', sat E w' (pts b (.cells (xs.take o ++ vs ++ xs.drop (o + n)).toArray e (0, 0)) * R) → K undef w') :
    efu P (Instr.storeAt t (.pointer (some ⟨b, o, none⟩)) v) w K := by
  have h2 := h.own b
  exact efu_of (run_storeN hsz hv hn h1 h2.pts_get hl) (k _ (h2.set _))
theorem take_set_drop {α : Type} : ∀ (xs : List α) (o : Nat) (v : α), o < xs.length → xs.take o ++ [v] ++ xs.drop (o + 1) = xs.set o v
  | [], o, v, h => by simp at h
  | x :: xs, 0, v, h => by simp
  | x :: xs, o + 1, v, h => by simpa using take_set_drop xs o v (by simpa using h)
theorem cells_one {v : Value} (h : v.oneCell' = true) : v.cells.toList = [v] := by cases v <;> first | rfl | cases h
/-- A store of one cell. -/
theorem store_sl (h : sat E w H) {t b o e : Nat} {xs : List Value} {v : Value} [i : OneC P t] [hb : Own H b (.cells xs.toArray e (0, 0)) R] (hv : v.oneCell' = true) (hl : o < xs.length)
    (k : ∀ w', sat E w' (pts b (.cells (xs.set o v).toArray e (0, 0)) * R) → K undef w') :
    efu P (Instr.storeAt t (.pointer (some ⟨b, o, none⟩)) v) w K := by
  refine storeN_sl h i.size (cells_one hv) rfl (by simp [hv]) (by omega) fun w' h' => k w' ?_
  rwa [take_set_drop xs o v hl] at h'
theorem store_at (h : sat E w H) {t b o e : Nat} {xs xs' : List Value} {v : Value} [i : OneC P t] [hb : Own H b (.cells xs.toArray e (0, 0)) R] (hv : v.oneCell' = true) [hp : Put xs o v xs'] (hl : o < xs.length)
    (k : ∀ w', sat E w' (pts b (.cells xs'.toArray e (0, 0)) * R) → K undef w') :
    efu P (Instr.storeAt t (.pointer (some ⟨b, o, none⟩)) v) w K := store_sl h hv hl fun w' h' => k w' (by rwa [hp.eq] at h')

/-! ### New blocks -/
class ZeroC (P : Program) (t : TypeId) (z : outParam Value) : Prop where
  zero : (P.info? t).map (·.zero) = some (some z)
theorem run_zero {t : TypeId} {z : Value} {w : World} (i : ZeroC P t z) : (zeroValue t).run P w = .ok z w := by
  have := i.zero
  unfold zeroValue typeInfo
  cases hi : P.info? t with
  | none => rw [hi] at this; cases this
  | some y => rw [hi] at this; simp at this; simp [hi, this]
theorem alloc_sl (h : sat E w H) {t : TypeId} {z : Value} [i : ZeroC P t z] (k : ∀ b w', sat E w' (pts b (.cells z.cells t (0, 0)) * H) → K (.pointer (some ⟨b, 0, none⟩)) w') :
    efv P (Instr.alloc t true (.tuple #[])) w K := by
  refine efv_of (v := .pointer (some ⟨w.heap.size, 0, none⟩)) (w' := w.alloc (.cells z.cells t (0, 0))) ?_ (k _ _ (h.alloc _))
  simp [Instr.alloc, run_zero i, newVar, newRow]
theorem box_sl (h : sat E w H) {t : TypeId} {v : Value} (k : ∀ b w', sat E w' (pts b (.cells v.cells t (0, 0)) * H) → K (.pointer (some ⟨b, 0, none⟩)) w') :
    efv P (Instr.box t v) w K := by
  refine efv_of (v := .pointer (some ⟨w.heap.size, 0, none⟩)) (w' := w.alloc (.cells v.cells t (0, 0))) ?_ (k _ _ (h.alloc _))
  simp [Instr.box, newVar, newRow]
theorem SliceT.parts {t e n m : Nat} {z : Value} (i : SliceT P t e n m z) : ∃ y, P.info? e = some y ∧ y.zero = some z ∧ y.size = n ∧ y.bytes = m := by
  have := i.info
  cases hi : P.info? e with
  | none => rw [hi] at this; cases this
  | some y => rw [hi] at this; simp at this; exact ⟨y, rfl, this.1, this.2.1, this.2.2⟩
theorem make_sl (h : sat E w H) {t e m : Nat} {z : Value} [i : SliceT P t e 1 m z] (hz : z.oneCell' = true) {kl kc : IntKind} {l c : Int} (h0 : 0 ≤ l) (h1 : l ≤ c) (h2 : (m : Int) * c ≤ 281474976710656) (h3 : c ≤ 9223372036854775807)
    (k : ∀ b w', sat E w' (pts b (.cells (List.replicate c.toNat z).toArray e (0, 0)) * H) → K (.slice (some ⟨b, 0, none⟩) l.toNat c.toNat) w') :
    efv P (Instr.makeSlice t (.int kl l) (.int kc c)) w K := by
  obtain ⟨y, hy, hy1, hy2, hy3⟩ := i.parts
  have hr := run_make (P := P) w t e y z i.ul hy hy1 kl kc l c h0 h1 (by rw [hy3]; exact h2) h3
  have hc : z.cells = #[z] := by cases z <;> first | rfl | cases hz
  have e1 : madeCells z.cells (c.toNat * y.size) = (List.replicate c.toNat z).toArray := by
    apply Array.ext'
    rw [hc, toList_madeCells_one, hy2, Nat.mul_one]
  rw [e1] at hr
  exact efv_of hr (k _ _ (h.alloc _))
theorem buildSlice_sl (h : sat E w H) {t e : Nat} {n : Nat} {parts : Array (Nat × Value)} {cs : Array Value} (hr : ∀ w, (Instr.buildSlice t n parts).run P w = .ok (.slice (some ⟨w.heap.size, 0, none⟩) n n) (w.alloc (.cells cs e (0, 0))))
    (k : ∀ b w', sat E w' (pts b (.cells cs e (0, 0)) * H) → K (.slice (some ⟨b, 0, none⟩) n n) w') : efv P (Instr.buildSlice t n parts) w K :=
  efv_of (hr w) (k _ _ (h.alloc _))

/-! ### A slice that is owned -/
/-- v is a slice of n elements, sz cells each, that owns its block from its head on; its cells are xs. -/
def osl (e : TypeId) (sz : Nat) (v : Value) (n : Nat) (xs : List Value) : HP :=
  ex fun q : Option (Nat × Nat × List Value) => match q with
    | none => pur (v = .slice none 0 0 ∧ n = 0 ∧ xs = [])
    | some (b, cap, sp) => pur (v = .slice (some ⟨b, 0, none⟩) n cap ∧ xs.length = n * sz ∧ (xs ++ sp).length = cap * sz ∧ n ≤ cap ∧ cap ≤ 9223372036854775807) * pts b (.cells (xs ++ sp).toArray e (0, 0))
theorem sat_osl {e sz n : Nat} {v : Value} {xs : List Value} : sat E w (osl e sz v n xs * R) ↔
    (v = .slice none 0 0 ∧ n = 0 ∧ xs = [] ∧ sat E w R) ∨ ∃ b cap sp, v = .slice (some ⟨b, 0, none⟩) n cap ∧ xs.length = n * sz ∧ (xs ++ sp).length = cap * sz ∧ n ≤ cap ∧ cap ≤ 9223372036854775807 ∧ sat E w (pts b (.cells (xs ++ sp).toArray e (0, 0)) * R) := by
  unfold osl
  rw [sat_ex_star]
  constructor
  · rintro ⟨q, h⟩
    match q with
    | none => rw [sat_pur_star] at h; exact .inl ⟨h.1.1, h.1.2.1, h.1.2.2, h.2⟩
    | some (b, cap, sp) =>
      simp only [star_assoc] at h
      rw [sat_pur_star] at h
      obtain ⟨⟨a1, a2, a3, a4, a5⟩, a6⟩ := h
      exact .inr ⟨b, cap, sp, a1, a2, a3, a4, a5, a6⟩
  · rintro (⟨a1, a2, a3, h⟩ | ⟨b, cap, sp, a1, a2, a3, a4, a5, h⟩)
    · exact ⟨none, by simp only; rw [sat_pur_star]; exact ⟨⟨a1, a2, a3⟩, h⟩⟩
    · refine ⟨some (b, cap, sp), ?_⟩
      simp only [star_assoc]
      rw [sat_pur_star]
      exact ⟨⟨a1, a2, a3, a4, a5⟩, h⟩
theorem osl_nil (h : sat E w R) (e sz : Nat) : sat E w (osl e sz (.slice none 0 0) 0 [] * R) := sat_osl.2 (.inl ⟨rfl, rfl, rfl, h⟩)
theorem osl_of {b e sz n : Nat} {xs : List Value} (h : sat E w (pts b (.cells xs.toArray e (0, 0)) * R)) (hl : xs.length = n * sz) (hn : n ≤ 9223372036854775807) : sat E w (osl e sz (.slice (some ⟨b, 0, none⟩) n n) n xs * R) :=
  sat_osl.2 (.inr ⟨b, n, [], rfl, hl, by simpa using hl, Nat.le_refl _, hn, by simpa using h⟩)

/-- The slice v is owned. -/
class OwnS (H : HP) (v : Value) (e sz n : outParam Nat) (xs : outParam (List Value)) (R : outParam HP) : Prop where eq : H = osl e sz v n xs * R
instance (priority := 1100) OwnS.here (v : Value) (e sz n : Nat) (xs : List Value) (R : HP) : OwnS (osl e sz v n xs * R) v e sz n xs R := ⟨rfl⟩
instance (priority := 1050) OwnS.there (v : Value) (e sz n : Nat) (xs : List Value) (R : HP) : OwnS (R * osl e sz v n xs) v e sz n xs R := ⟨star_comm _ _⟩
instance (priority := 900) OwnS.right (P1 P2 : HP) (v : Value) (e sz n : Nat) (xs : List Value) (R : HP) [h : OwnS P2 v e sz n xs R] : OwnS (P1 * P2) v e sz n xs (P1 * R) := ⟨by rw [h.eq, star_left_comm]⟩
instance (priority := 800) OwnS.left (P1 P2 : HP) (v : Value) (e sz n : Nat) (xs : List Value) (R : HP) [h : OwnS P1 v e sz n xs R] : OwnS (P1 * P2) v e sz n xs (R * P2) := ⟨by rw [h.eq, star_assoc]⟩
instance (priority := 100) OwnS.all (v : Value) (e sz n : Nat) (xs : List Value) : OwnS (osl e sz v n xs) v e sz n xs emp := ⟨(star_emp _).symm⟩
theorem sat.owns (h : sat E w H) (v : Value) {e sz n : Nat} {xs : List Value} [s : OwnS H v e sz n xs R] : sat E w (osl e sz v n xs * R) := h.perm s.eq

/-- A window of cells that can be read: the values at an address. -/
def win (J : Hp) (a : Option Addr) (xs : List Value) : Prop := xs = [] ∨ ∃ b o cs e fr, a = some ⟨b, o, none⟩ ∧ J b = some (.cells cs e fr) ∧ ∀ (j : Nat) (v : Value), xs[j]? = some v → cs[o + j]? = some v
theorem win.cell {a : Option Addr} {xs : List Value} (h : win (hp w) a xs) : ∀ b o, a = some ⟨b, o, none⟩ → ∀ j v, xs[j]? = some v → w.cell? ⟨b, o + j, none⟩ = some v := by
  intro b o ha j v hj
  rcases h with rfl | ⟨b', o', cs, e, fr, ha', hb, hv⟩
  · simp at hj
  · rw [ha] at ha'; cases ha'
    exact cell_of hb (hv j v hj)

/-- append: what is appended can be read; the slice owns what it has, and then the longer row. -/
theorem append_sl (h : sat E w H) {t ty e sz m : Nat} {z : Value} [i : SliceT P t e sz m z] {cs : Array Bool} {v : Value} {n : Nat} {xs : List Value} [hs : OwnS H v e sz n xs R]
    {a : Option Addr} {k' c : Nat} (news : List Value) (hl : news.length = k' * sz) (hw : win (hp w) a news) (h1 : ∀ x ∈ news, x.oneCell' = true) (hb : (n + k') * m ≤ 140737488355328) (hm : n + k' ≤ 9223372036854775807)
    (k : ∀ v' w', sat E w' (osl e sz v' (n + k') (xs ++ news) * R) → K v' w') : ef P (oBi .append #[t, t] ty cs #[v, .slice a k' c]) w K := by
  obtain ⟨y, hy, hy1, hy2, hy3⟩ := i.parts
  have hs' := h.perm hs.eq
  have hz := i.zs
  have hsz := i.pos
  have ef_bi : ∀ {v' w'}, (Builtin.append_ #[t, t] ty #[v, .slice a k' c]).run P w = .ok v' w' → K v' w' → ef P (oBi .append #[t, t] ty cs #[v, .slice a k' c]) w K := fun hr hk =>
    ef_of (by simp [oBi, builtin, hr]) hk
  have grow : ∀ (sCap : Nat) (zs : List Value) (X : HP), sat E w X → zs = xs → n * sz = xs.length → sCap < n + k' → sat E (w.drew.alloc (.cells (xs.toArray ++ news.toArray ++ Builtin.zeroCells z.cells (grownCap w (n + k') sCap e - (n + k'))) e)) (osl e sz (.slice (some ⟨w.heap.size, 0, none⟩) (n + k') (grownCap w (n + k') sCap e)) (n + k') (xs ++ news) * X) := by
    intro sCap zs X hX _ hxl hlt
    have hge := grownCap_ge w (n + k') sCap e
    have hle := grownCap_le_maxLen w (n + k') sCap e (by simp only [maxLen]; omega)
    refine sat_osl.2 (.inr ⟨w.heap.size, _, (Builtin.zeroCells z.cells (grownCap w (n + k') sCap e - (n + k'))).toList, rfl, by rw [List.length_append, ← hxl, hl, Nat.add_mul], ?_, hge, by simp only [maxLen] at hle; omega, ?_⟩)
    · rw [List.length_append, List.length_append, ← hxl, hl, Array.length_toList, size_zeroCells, hz, ← Nat.add_mul, ← Nat.add_mul]
      congr 1
      omega
    · have := hX.drew.alloc (.cells (xs.toArray ++ news.toArray ++ Builtin.zeroCells z.cells (grownCap w (n + k') sCap e - (n + k'))) e (0, 0))
      have e1 : ((xs ++ news) ++ (Builtin.zeroCells z.cells (grownCap w (n + k') sCap e - (n + k'))).toList).toArray = xs.toArray ++ news.toArray ++ Builtin.zeroCells z.cells (grownCap w (n + k') sCap e - (n + k')) := by
        apply Array.ext'; simp
      rw [e1]; exact this
  rcases sat_osl.1 hs' with ⟨rfl, rfl, rfl, hR⟩ | ⟨b, cap, sp, rfl, hxl, hcl, hnc, hcm, hP⟩
  · by_cases hk0 : k' = 0
    · subst hk0
      have hn : news = [] := List.eq_nil_of_length_eq_zero (by simpa using hl)
      subst hn
      refine ef_bi (v' := .slice none 0 0) (w' := w) ?_ (k _ _ (by simpa using osl_nil hR e sz))
      cases a <;> simp [Builtin.append_, run_underlying' i.ul, Go.sizeOf, typeInfo, hy, Builtin.lenOf, Builtin.firstCells, loadCells, loadCellsFrom]
    · rcases hw with rfl | ⟨b, o, cs', e', fr, rfl, hb', hv⟩
      · exfalso; have h0 : k' * sz = 0 := by simpa using hl.symm
        rcases Nat.mul_eq_zero.1 h0 with h' | h' <;> omega
      · have hr := run_append_nil (P := P) w t ty e y z i.ul hy hy1 ⟨b, o, none⟩ k' c news (by rw [hy2]; exact hl) (fun j v hj => by rw [add_addr]; exact cell_of hb' (hv j v hj)) (by omega) (by omega) (by rw [hy3]; simp only [Nat.zero_add] at hb; omega)
        refine ef_bi hr (k _ _ ?_)
        have := grow 0 [] R hR rfl (by simp) (by omega)
        simpa using this
  · have hsame : ∀ {w'}, sat E w' (osl e sz (.slice (some ⟨b, 0, none⟩) (n + k') cap) (n + k') (xs ++ news) * R) → sat E w' (osl e sz (.slice (some ⟨b, 0, none⟩) (n + k') cap) (n + k') (xs ++ news) * R) := fun h => h
    by_cases hk0 : k' = 0
    · subst hk0
      have hn : news = [] := List.eq_nil_of_length_eq_zero (by simpa using hl)
      subst hn
      refine ef_bi (v' := .slice (some ⟨b, 0, none⟩) (n + 0) cap) (w' := w) ?_ (k _ _ ?_)
      · have hst : ∀ (ad : Addr), (storeCells ad ([] : List Value) 0).run P w = .ok () w := fun ad => rfl
        cases a <;> simp [Builtin.append_, run_underlying' i.ul, Go.sizeOf, typeInfo, hy, Builtin.lenOf, Builtin.firstCells, loadCells, loadCellsFrom, hnc, hst]
      · simpa using hs'
    · rcases hw with rfl | ⟨b2, o2, cs2, e2, fr2, rfl, hb2, hv2⟩
      · exfalso; have h0 : k' * sz = 0 := by simpa using hl.symm
        rcases Nat.mul_eq_zero.1 h0 with h' | h' <;> omega
      · have hbl := hP.pts_get
        by_cases hroom : n + k' ≤ cap
        · have hfit : n * y.size + news.length ≤ (xs ++ sp).toArray.size := by
            rw [hy2, hl, ← Nat.add_mul]; simp only [List.size_toArray]; rw [hcl]; exact Nat.mul_le_mul_right _ hroom
          have hr := run_append_room (P := P) w t ty e y i.ul hy b n cap (xs ++ sp).toArray hbl ⟨b2, o2, none⟩ k' c news (by rw [hy2]; exact hl) (fun j v hj => by rw [add_addr]; exact cell_of hb2 (hv2 j v hj)) h1 hroom hfit
          rw [setRow_putObj hbl] at hr
          refine ef_bi hr (k _ _ (sat_osl.2 (.inr ⟨b, cap, sp.drop news.length, rfl, by rw [List.length_append, hxl, hl, Nat.add_mul], ?_, hroom, hcm, ?_⟩)))
          · rw [List.length_append] at hcl
            simp only [List.length_append, List.length_drop]
            have : (n + k') * sz ≤ cap * sz := Nat.mul_le_mul_right _ hroom
            rw [Nat.add_mul] at this
            omega
          · have e1 : ((xs ++ sp).toArray.toList.take (n * y.size) ++ news ++ (xs ++ sp).toArray.toList.drop (n * y.size + news.length)) = xs ++ news ++ sp.drop news.length := by
              rw [hy2, ← hxl]
              simp [List.take_left', List.drop_append]
            rw [e1]
            exact hP.set _
        · have holds : ∀ j u, xs[j]? = some u → w.cell? ((⟨b, 0, none⟩ : Addr).add j) = some u := fun j u hj => by
            rw [add_addr]; exact cell_of hbl (by
              have hlt := (List.getElem?_eq_some_iff.1 hj).1
              simpa [List.getElem?_append_left hlt] using hj)
          have hr := run_append_grow (P := P) w t ty e y z i.ul hy hy1 ⟨b, 0, none⟩ n cap xs (by rw [hy2]; exact hxl) holds ⟨b2, o2, none⟩ k' c news (by rw [hy2]; exact hl) (fun j v hj => by rw [add_addr]; exact cell_of hb2 (hv2 j v hj)) (by omega) (by omega) (growslice_fits (by omega) (by rw [hy3]; exact hb))
          exact ef_bi hr (k _ _ (grow cap xs R hP.drop rfl hxl.symm (by omega)))
end
end Hold
namespace Hold
open Go
def opsA := And.intro @o_nil (And.intro @o_field (And.intro @o_add (And.intro @o_sub (And.intro @o_mul (And.intro @o_lss (And.intro @o_leq (And.intro @o_gtr (And.intro @o_geq (And.intro @o_not (And.intro @o_pick (And.intro @o_eqInt (And.intro @o_neInt (And.intro @o_eqBool (And.intro @o_neBool (And.intro @o_eqPtr (And.intro @o_nePtr (And.intro @o_eqPtr' (And.intro @o_eqSl (And.intro @o_neSl (And.intro @o_eqStr (And.intro @o_neStr (And.intro @o_len (And.intro @o_lenS (And.intro @o_min (And.intro @o_max (And.intro @o_extract (And.intro @o_convInt (And.intro @cd_true (And.intro @cd_false (And.intro @gate_tt (And.intro @gate_ff (And.intro @gate_tf (And.intro @gate_ft (And.intro @gate_undef (And.intro @o_bind (And.intro @stay_v (And.intro @pop_cons @fin_nil)))))))))))))))))))))))))))))))))))))
def opsB := And.intro @Option.isNone_none.{0} (And.intro @Option.isNone_some.{0} (And.intro Bool.not_true (And.intro Bool.not_false (And.intro @Nat.zero_add (And.intro @decide_true (And.intro @decide_false (And.intro Bool.false_eq_true trivial)))))))
end Hold


/-
  Slices of bytes and of numbers, as they are read and owned.
-/
set_option linter.all false
namespace Hold
open Go

/-- A byte as the model has it. -/
def bv (b : UInt8) : Value := .int .u8 b.toNat
/-- A slice whose elements read so. -/
def RdS (J : Hp) (v : Value) (n : Nat) (xs : List Value) : Prop := ∃ a c, v = .slice a n c ∧ n ≤ c ∧ win J a xs
theorem win.mono {J J' : Hp} (hJ : ∀ b o, J b = some o → J' b = some o) {a : Option Addr} {xs : List Value} (h : win J a xs) : win J' a xs := by
  rcases h with h | ⟨b, o, cs, e, fr, h1, h2, h3⟩
  · exact .inl h
  · exact .inr ⟨b, o, cs, e, fr, h1, hJ _ _ h2, h3⟩
theorem RdS.mono {J J' : Hp} (hJ : ∀ b o, J b = some o → J' b = some o) {v : Value} {n : Nat} {xs : List Value} (h : RdS J v n xs) : RdS J' v n xs :=
  let ⟨a, c, h1, h2, h3⟩ := h; ⟨a, c, h1, h2, h3.mono hJ⟩
/-- It stays so for ever. -/
def immS (v : Value) (n : Nat) (xs : List Value) : PP := ⟨fun I => RdS I v n xs, fun hI h => h.mono hI⟩

/-- Wherever H holds, the slice reads so. -/
def Rds (H : HP) (v : Value) (n : Nat) (xs : List Value) : Prop := ∀ (E : World0) (w : World), sat E w H → RdS (hp w) v n xs
theorem Rds.right {H X : HP} {v : Value} {n : Nat} {xs : List Value} (h : Rds H v n xs) : Rds (X * H) v n xs := fun E w hs => h E w hs.drop
theorem Rds.left {H X : HP} {v : Value} {n : Nat} {xs : List Value} (h : Rds H v n xs) : Rds (H * X) v n xs := fun E w hs => h E w hs.drop'
theorem Rds.shape {H : HP} {v : Value} {n : Nat} {xs : List Value} (h : Rds H v n xs) {E : World0} {w : World} (hs : sat E w H) : ∃ a c, v = .slice a n c ∧ n ≤ c ∧ Rds H (.slice a n c) n xs ∧ (a = none → xs = []) := by
  obtain ⟨a, c, rfl, hc, hw⟩ := h E w hs
  refine ⟨a, c, rfl, hc, h, ?_⟩
  rintro rfl
  rcases hw with hw | ⟨_, _, _, _, _, ha, _⟩
  · exact hw
  · cases ha
theorem Rds.win {H : HP} {a : Option Addr} {n c : Nat} {xs : List Value} (h : Rds H (.slice a n c) n xs) {E : World0} {w : World} (hs : sat E w H) : win (hp w) a xs := by
  obtain ⟨a', c', e, _, hw⟩ := h E w hs
  cases e
  exact hw
theorem Rds.pers {v : Value} {n : Nat} {xs : List Value} : Rds (pers (immS v n xs)) v n xs := fun E w hs => (hs.whole).pers_get

section
variable {P : Program} {E : World0} {w : World} {H R : HP} {K : Value → World → Prop}

theorem osl_rd {e n : Nat} {v : Value} {xs : List Value} {sz : Nat} (h : sat E w (osl e sz v n xs * R)) : RdS (hp w) v n xs := by
  rcases sat_osl.1 h with ⟨rfl, rfl, rfl, hR⟩ | ⟨b, cap, sp, rfl, h1, h2, h3, h4, hP⟩
  · exact ⟨none, 0, rfl, Nat.le_refl _, .inl rfl⟩
  · refine ⟨_, cap, rfl, h3, .inr ⟨b, 0, _, e, (0, 0), rfl, hP.pts_get, fun j v hj => ?_⟩⟩
    have hlt := (List.getElem?_eq_some_iff.1 hj).1
    simpa [List.getElem?_append_left hlt] using hj
theorem Rds.osl {e n : Nat} {v : Value} {xs : List Value} {sz : Nat} : Rds (osl e sz v n xs) v n xs := fun E w hs => osl_rd hs.whole
/-- What is owned may be let stay. -/
theorem osl_freeze {e n : Nat} {v : Value} {xs : List Value} {sz : Nat} (h : sat E w (osl e sz v n xs * R)) : sat E w (pers (immS v n xs) * R) := by
  rcases sat_osl.1 h with ⟨rfl, rfl, rfl, hR⟩ | ⟨b, cap, sp, rfl, h1, h2, h3, h4, hP⟩
  · exact hR.mono fun I h' hp' => (pers_star_p _ _ _ _).2 ⟨⟨none, 0, rfl, Nat.le_refl _, .inl rfl⟩, hp'⟩
  · refine (hP.freeze).pers_mono (ψ := immS _ n xs) fun I hI => ⟨_, cap, rfl, h3, .inr ⟨b, 0, _, e, (0, 0), rfl, hI, fun j v hj => ?_⟩⟩
    have hlt := (List.getElem?_eq_some_iff.1 hj).1
    simpa [List.getElem?_append_left hlt] using hj
theorem bv_one (l : List UInt8) : ∀ x ∈ l.map bv, x.oneCell' = true := by
  intro x hx
  obtain ⟨b, _, rfl⟩ := List.mem_map.1 hx
  rfl
theorem win_cell {xs : List Value} {a : Option Addr} (h : win (hp w) a xs) {j : Nat} (hj : j < xs.length) : ∃ b o, a = some ⟨b, o, none⟩ ∧ w.cell? ⟨b, o + j, none⟩ = some xs[j] := by
  rcases h with rfl | ⟨b, o, cs, e, fr, h1, h2, h3⟩
  · simp at hj
  · exact ⟨b, o, h1, cell_of h2 (h3 j _ (List.getElem?_eq_getElem hj))⟩
theorem i64_of {n : Int} (h0 : -9223372036854775808 ≤ n) (h1 : n ≤ 9223372036854775807) : IntKind.i64.wrap n = n := by
  rw [IntKind.wrap_i64]; omega
/-- An owned slice, opened: its block; what closes it again. -/
theorem osl_open {e n sz : Nat} {v : Value} {xs : List Value} (h : sat E w (osl e sz v n xs * R)) (hn : 0 < n) :
    ∃ b c sp, v = .slice (some ⟨b, 0, none⟩) n c ∧ xs.length = n * sz ∧ n ≤ c ∧ sat E w (pts b (.cells (xs ++ sp).toArray e (0, 0)) * R) ∧
      ∀ {w' : World} {R' : HP} {xs' : List Value}, xs'.length = xs.length → sat E w' (pts b (.cells (xs' ++ sp).toArray e (0, 0)) * R') → sat E w' (osl e sz v n xs' * R') := by
  rcases sat_osl.1 h with ⟨rfl, rfl, rfl, hR⟩ | ⟨b, cap, sp, rfl, h1, h2, h3, h4, hP⟩
  · omega
  · refine ⟨b, cap, sp, rfl, h1, h3, hP, fun {w' R' xs'} hl h' => sat_osl.2 (.inr ⟨b, cap, sp, rfl, by omega, ?_, h3, h4, h'⟩)⟩
    rw [List.length_append] at h2 ⊢; omega
/-- The shape of an owned slice. -/
theorem osl_shape {e n sz : Nat} {v : Value} {xs : List Value} (h : sat E w (osl e sz v n xs * R)) : ∃ a c, v = .slice a n c ∧ n ≤ c ∧ xs.length = n * sz ∧ (0 < n → ∃ b, a = some ⟨b, 0, none⟩) := by
  rcases sat_osl.1 h with ⟨rfl, rfl, rfl, hR⟩ | ⟨b, cap, sp, rfl, h1, h2, h3, h4, hP⟩
  · exact ⟨none, 0, rfl, Nat.le_refl _, by simp, fun h => by omega⟩
  · exact ⟨_, cap, rfl, h3, h1, fun _ => ⟨b, rfl⟩⟩
theorem st_in (h : sat E w H) {g : Gd} {t b o e : Nat} {xs : List Value} {fr : Nat × Nat} {v : Value} {A : Prop} [i : OneC P t] [hb : Has H b (.cells xs.toArray e fr)] (hv : xs[o]? = some v) (k : A) :
    stv P g (Instr.loadAt t (.pointer (some ⟨b, o, none⟩))) v w A := st_cell (cell_of (hb.get h) (by simpa using hv)) k
theorem Rds.under {H0 H1 R1 : HP} {v : Value} {n : Nat} {xs : List Value} (h : Rds H1 v n xs) [s : Split H0 H1 R1] : Rds H0 v n xs := fun E w hs => h E w (hs.split H1).drop'
/-- A range over a function with a body: its record, its rounds, its call. -/
theorem rng_body (h : sat E w H) {n : Nat} {f : FuncId} {cap : Array Value} {fn : Func} {rd : List Value → World → (World → (World → Prop) → Prop) → (Exit → World → Prop) → Prop} {Q : Option Code → Nat → World → Prop}
    (hf : P.funcs[f]? = some fn) (hn : (fn.name == "runtime.NumGoroutine") = false) (hb : fn.body.isNone = false)
    (k : ∀ (rec : LoopState → Option Code → Obj) (D D1 : Nat) (w1 : World), sat E w1 (pts D1 (rec .ready none) * (pts D (.deferred (some [])) * H)) →
      (∀ (σ : List Value) (W : World) (K : Value → World → Prop), σ.length = n → W.heap[D1]? = some (rec .ready none) →
        rd σ W (fun W' k => W'.heap[D1]? = some (rec .ready none) ∧ k (W'.putObj D1 (rec .busy none)))
          (fun e W' => W'.heap[D1]? = some (rec .busy none) ∧
            match e with
            | .normal => K (.bool true) (W'.putObj D1 (rec .ready none))
            | .ret => K (.bool false) (W'.putObj D1 (rec .done (some .ret)))
            | .exit id => K (.bool false) (W'.putObj D1 (rec .done (some (.exit id))))
            | _ => False) →
        ef P (oCall (.func (.yield D1) #[] #[]) σ.toArray) W K) →
      Calls P f (#[.func (.yield D1) #[] #[]] ++ cap) w1 (Ret fun _ W => ∃ st p, W.heap[D1]? = some (rec st p) ∧ st ≠ .busy ∧ Q p D (W.putObj D1 (rec .exhausted p)))) :
    rng P n (.func (.func f) #[] cap) rd w Q := by
  intro rec hrec hround
  have hd := (h.alloc (.deferred (some []))).alloc (rec .ready none)
  have es : (w.alloc (.deferred (some []))).heap.size = w.heap.size + 1 := by show (w.heap.push _).size = _; simp
  rw [es] at hd
  have h1 : fn.name ≠ "runtime.NumGoroutine" := by simpa using hn
  have h2 : fn.body ≠ none := by intro e; simp [e] at hb
  exact ⟨f, _, by simp [oCall, Deferred.ofValue, invoke, callFunc, hf, h1, h2], k rec w.heap.size (w.heap.size + 1) _ hd hround⟩
theorem win_cut {J : Hp} {a : Option Addr} {xs : List Value} (h : win J a xs) {c n sz : Nat} (hc : c = n → xs.length ≤ n * sz) : win J (cutA a c n sz) (xs.drop (n * sz)) := by
  unfold cutA
  by_cases he : c = n
  · left; exact List.drop_eq_nil_of_le (hc he)
  · rw [if_neg he]
    rcases h with rfl | ⟨b, o, cs, e, fr, rfl, hb, hv⟩
    · left; simp
    · right
      refine ⟨b, o + n * sz, cs, e, fr, by simp [add_addr], hb, fun j v hj => ?_⟩
      rw [List.getElem?_drop] at hj
      have := hv _ _ hj
      rwa [← Nat.add_assoc] at this
/-- Of two that stay, a third. -/
theorem sat_imp2 (h : sat E w H) (φ ψ : PP) {χ : PP} {R1 R2 : HP} [s1 : Split H (pers φ) R1] [s2 : Split R1 (pers ψ) R2] (k : ∀ I, φ.p I → ψ.p I → χ.p I) : sat E w (pers χ * R2) := by
  have h := h.split (pers φ)
  rw [s2.eq, ← star_assoc, pers_and] at h
  exact h.pers_mono fun I hI => k I hI.1 hI.2
/-- A block is left alone. -/
theorem sat.lose (h : sat E w H) (b : Nat) {o : Obj} [Own H b o R] : sat E w R := (h.own b).drop
theorem st_agg (h : sat E w H) {g : Gd} {t n b e : Nat} {xs : List Value} {fr : Nat × Nat} {A : Prop} [i : AggC P t n] [hb : Has H b (.cells xs.toArray e fr)] (hn : xs.length = n) (k : A) :
    stv P g (Instr.loadAt t (.pointer (some ⟨b, 0, none⟩))) (.agg xs.toArray) w A :=
  stv_of (run_loadN hn fun j v hj => cell_of (hb.get h) (by simpa using hj)) k
theorem o_rem {t : TypeId} {k : IntKind} {a b : Int} (hb : b ≠ 0) : pvv P (binOp .rem t (.int k a) (.int k b)) w K = K (.int k (a.tmod b)) w := pvv_eq fun _ => by simp [binOp, Op.intDiv, hb]
end
end Hold

/-
  From a walk that ends in true, with nothing old turned, to the statement's row.
-/
set_option linter.all false
namespace Hold
open Go Go.ChangeShapes Go.WideShapes Go.RowKit

theorem trodAll_below {H : Type} {enc : TypeId × Value → H} {P : Program} (hl : laidOutB P = true) {W W' : World} (hb : Below W.heap.size W W') {sp : Nat → Bool} :
    ∀ {ts : List TypeId} {vs : List Value} {ds : List (DataW H)} {ps : List MemPlace}, (∀ t ∈ ts, P.readableRec t = true ∧ t < P.types.size) → (∀ x ∈ ps, x.block < W.heap.size) → (∀ x ∈ ps, sp x.block = true) →
      DataW.TrodAll enc P W 0 (fun _ => true) true ts vs ds ps → DataW.TrodAll enc P W' 0 sp true ts vs ds ps
  | [], _, _, _, _, _, _, h => by
    obtain ⟨rfl, rfl, rfl⟩ := trodAll_nil h
    exact trodAll_mk0
  | t :: ts, _, _, _, ht, hlt, hs, h => by
    obtain ⟨v, vs, d, ds, p, q, rfl, rfl, rfl, h1, h2⟩ := trodAll_cons h
    have h1' := WideElems.Trod_stays hl (ht t (by simp)).1 (ht t (by simp)).2 h1 (fun x hx => hb.same (hlt x (List.mem_append_left _ hx))) (fun x hx => hs x (List.mem_append_left _ hx))
    have h2' := trodAll_below hl hb (fun t h => ht t (List.mem_cons_of_mem _ h)) (fun x hx => hlt x (List.mem_append_right _ hx)) (fun x hx => hs x (List.mem_append_right _ hx)) h2
    exact ⟨p, q, h1', h2', rfl⟩

theorem law_post {H : Type} {enc : TypeId × Value → H} {P : Program} {f : Func} {s : ChangeSpec} {apart fresh handsOn again : Bool} {W W' : World} {args : Array Value} {ds gs : List (DataW H)} {before : List MemPlace} {tb : TypeId}
    (hl : laidOutB P = true) (hp : ∀ t ∈ f.params.toList, P.readableRec t = true ∧ t < P.types.size) (hrt : f.resultTypes = #[tb]) (htb : P.underlying tb = some .bool)
    (hv : s.vars = []) (hs : s.fn H ds = { results := [.lit (.bool true)], args := ds }) (hW : DataW.Whole enc P f.params.toList s.vars apart W args.toList ds gs before) (hb : Below W.heap.size W W') :
    s.post enc P f apart fresh handsOn again W args (.bool true) W' := by
  have hW0 := hW
  have hlt : ∀ x ∈ before, x.block < W.heap.size := fun x hx => by simpa using hW.lt x hx
  obtain ⟨p, q, hA, hV, rfl, hz, hn⟩ := hW
  rw [hv] at hV
  obtain ⟨rfl, rfl⟩ := trodVars_none hV
  simp only [List.append_nil] at hlt hz hn
  have hold : ∀ x ∈ p, (fun b => decide (b < W.heap.size)) x.block = true := fun x hx => by simpa using hlt x hx
  have hres : ∀ (b : Nat) (sp : Nat → Bool) (hd : Bool), DataW.TrodAll enc P W' b sp hd f.resultTypes.toList ((Value.bool true).resultList f.resultTypes.size) (s.fn H (ds ++ [])).results [] := fun b sp hd => by
    rw [List.append_nil, hs, hrt]
    exact trodAll_mk1 (shut_bool htb _)
  have hargs : ∀ sp : Nat → Bool, (∀ x ∈ p, sp x.block = true) → DataW.TrodAll enc P W' 0 sp true f.params.toList args.toList (s.fn H (ds ++ [])).args p := fun sp hsp => by
    rw [List.append_nil, hs]
    exact trodAll_below hl hb hp hlt hsp hA
  have hvars : ∀ sp : Nat → Bool, DataW.TrodVars enc P W' sp s.vars (s.fn H (ds ++ [])).vars [] := fun sp => by
    rw [List.append_nil, hs, hv]
    rfl
  have hz' : ∀ b off, MemPlace.cell b off ∈ p → W'.frozen? ⟨b, off, none⟩ = W.frozen? ⟨b, off, none⟩ := fun b off hx => hb.frozen (hlt _ hx)
  refine ⟨ds, [], p ++ [], [], p, [], hW0, hres _ _ _, hargs _ hold, hvars _, hb.frame _, fun _ => ?_⟩
  refine ⟨?_, _, _, ([] ++ p) ++ [], ⟨[] ++ p, [], trodAll_append (hargs _ (fun _ _ => rfl)) (hres _ _ _), hvars _, rfl, ?_, ?_⟩, ?_⟩
  · exact ok_one hrt rfl (okWide_bool_mk htb _)
  · intro b off hx
    rw [hz' b off (by simpa using hx)]
    exact hz b off (by simpa using hx)
  · intro ha
    simpa using hn ha
  · intro x hx _
    simpa using hx

/-- Cells that are read one by one, as a window. -/
theorem win_of_cells {w : World} {a : Addr} {xs : List Value} (h : ∀ (j : Nat) (v : Value), xs[j]? = some v → w.cell? (a.add j) = some v) : win (hp w) (some a) xs := by
  cases xs with
  | nil => exact .inl rfl
  | cons x r =>
    right
    have h0 := h 0 x rfl
    obtain ⟨b, o, sp⟩ := a
    cases sp with
    | some s => simp [Addr.add, World.cell?] at h0; split at h0 <;> simp_all
    | none =>
      unfold World.cell? at h0
      split at h0
      · rename_i c e fr hb
        refine ⟨b, o, c, e, fr, rfl, by simpa [Addr.add, hp] using hb, fun j v hj => ?_⟩
        have := h j v hj
        rw [add_addr] at this
        simpa [World.cell?, show w.heap[b]? = some (.cells c e fr) by simpa [Addr.add] using hb] using this
      · cases h0
/-- Of the old world: what could be read there. -/
theorem rds_old {w : World} {v : Value} {n : Nat} {xs : List Value} (h : RdS (hp w) v n xs) : Rds (old w) v n xs := fun E w' hs =>
  h.mono fun b o hb => sat.old_get (hs.whole) hb
end Hold

/-
  Strings: their bytes appended, copied, compared.
-/
set_option linter.all false
namespace Hold
open Go
section
variable {P : Program} {E : World0} {w : World} {H R : HP} {K : Value → World → Prop}

theorem win_take {J : Hp} {a : Option Addr} {xs : List Value} (h : win J a xs) (m : Nat) : win J a (xs.take m) := by
  rcases h with rfl | ⟨b, o, cs, e, fr, rfl, hb, hv⟩
  · left; simp
  · right
    refine ⟨b, o, cs, e, fr, rfl, hb, fun j v hj => hv j v ?_⟩
    rw [List.getElem?_take] at hj
    split at hj
    · exact hj
    · cases hj
theorem RdS.cut {J : Hp} {a : Option Addr} {n c lo hi : Nat} {xs : List Value} (h : RdS J (.slice a n c) n xs) (hx : xs.length = n) (h1 : lo ≤ hi) (h2 : hi ≤ n) :
    RdS J (.slice (cutA a c lo 1) (hi - lo) (c - lo)) (hi - lo) ((xs.drop lo).take (hi - lo)) := by
  obtain ⟨a', c', e, hc, hw⟩ := h
  cases e
  refine ⟨_, _, rfl, by omega, win_take ?_ _⟩
  have := win_cut (sz := 1) hw (c := c) (n := lo) (fun hcn => by omega)
  rwa [Nat.mul_one] at this
theorem RdS.cutl {J : Hp} {a : Option Addr} {n c lo : Nat} {xs : List Value} (h : RdS J (.slice a n c) n xs) (hx : xs.length = n) (h1 : lo ≤ n) :
    RdS J (.slice (cutA a c lo 1) (n - lo) (c - lo)) (n - lo) (xs.drop lo) := by
  have := h.cut hx h1 (Nat.le_refl n)
  rwa [List.take_of_length_le (by simp; omega)] at this
end
end Hold

/-
  Arguments, opened: bytes, texts.
-/
set_option linter.all false
namespace Hold
open Go Go.ChangeShapes Go.WideShapes Go.RowKit
variable {H : Type} {enc : TypeId × Value → H} {P : Program} {W : World} {r : Reach} {b0 : Nat} {v : Value} {d : DataW H} {p : List MemPlace}

theorem u8_wf {n : Int} (h : (Lit.int .u8 n).wf = true) : ∃ b : UInt8, Value.int .u8 n = bv b := by
  have hw : 0 ≤ n ∧ n ≤ 255 := by
    have := h
    simp only [Lit.wf, Bool.and_eq_true, decide_eq_true_eq] at this
    exact this
  refine ⟨UInt8.ofNat n.toNat, ?_⟩
  unfold bv
  congr 1
  simp
  omega
theorem open_bytesG {t e : TypeId} (ht : P.underlying t = some (.slice e)) (he : P.underlying e = some (.int .u8)) (hc : P.cellsOf e = 1)
    (hv : Value.okWide P W r b0 t v) (h : DataW.Trod enc P W 0 (fun _ => true) true t v d p) : ∃ l : List UInt8, Rds (old W) v l.length (l.map bv) ∧ l.length ≤ 9223372036854775807 := by
  obtain ⟨a, len, cap, rfl⟩ := okWide_slice ht hv
  obtain ⟨fuel, hf⟩ := h
  rcases open_ints (k := .u8) ht he hc hf with ⟨e, _⟩ | ⟨a', len', cap', zs, e, _, hlc, hcm, hz, _, hx, hwf⟩
  · simp [Value.cells] at e
    obtain ⟨rfl, rfl, rfl⟩ := e
    exact ⟨[], rds_old ⟨none, 0, rfl, Nat.le_refl _, .inl rfl⟩, by simp⟩
  · simp [Value.cells] at e
    obtain ⟨rfl, rfl, rfl⟩ := e
    simp at hz
    have hz2 : ∀ z ∈ zs, Value.int .u8 z = bv (UInt8.ofNat z.toNat) := fun z hzm => by
      obtain ⟨b, hb⟩ := u8_wf (hwf z hzm)
      have : z = b.toNat := by simpa [bv] using hb
      rw [this]; simp [bv]
    have hl : ((zs.take len).map fun z : Int => UInt8.ofNat z.toNat).length = len := by simp; omega
    refine ⟨(zs.take len).map fun z : Int => UInt8.ofNat z.toNat, ?_, by rw [hl]; simp only [maxLen] at hcm; omega⟩
    rw [hl]
    refine rds_old ⟨some a', cap, rfl, hlc, win_of_cells fun j v hj => ?_⟩
    have hj2 := (List.getElem?_eq_some_iff.1 hj).1
    simp at hj2
    rw [hx j (by omega)]
    rw [List.getElem?_map, List.getElem?_map, List.getElem?_take, if_pos (by omega), List.getElem?_eq_getElem (by omega)] at hj
    simp only [Option.map_some, Option.some.injEq] at hj
    rw [← hj, List.getD_eq_getElem?_getD, List.getElem?_eq_getElem (by omega)]
    simp only [Option.getD_some]
    rw [hz2 _ (List.getElem_mem _)]
end Hold

/-
  Words of 32 bits, and bytes: their operations.
-/
set_option linter.all false
namespace Hold
open Go
/-- A word as the model has it. -/
def wv (x : UInt32) : Value := .int .u32 x.toNat
section
variable {P : Program} {w : World} {K : Value → World → Prop}
end
end Hold

/-
  Arrays: their places, their slices.
-/
set_option linter.all false
namespace Hold
open Go
section
variable {P : Program} {w : World} {K : Value → World → Prop}
theorem res_agg {E : World0} {H : HP} (h : sat E w H) {t n b e : Nat} {xs : List Value} {fr : Nat × Nat} [i : AggC P t n] [hb : Has H b (.cells xs.toArray e fr)] (hn : xs.length = n) (k : K (.agg xs.toArray) w) :
    ∃ r, (do loadVar t (← asAddr (.pointer (some ⟨b, 0, none⟩)))).run P w = .ok r w ∧ K r w := by
  refine ⟨_, ?_, k⟩
  have := run_loadN (P := P) (w := w) (t := t) (b := b) (o := 0) (cs := xs) hn fun j v hj => cell_of (hb.get h) (by simpa using hj)
  simpa [Instr.loadAt, Instr.sureAddr, asAddr] using this
end
end Hold

/-
  Rows: pieces of arrays as slices; append to a full row, and of noughts; copy within a row.
-/
set_option linter.all false
namespace Hold
open Go
section
variable {P : Program} {E : World0} {w : World} {H R : HP} {K : Value → World → Prop}
theorem o_shl {t : TypeId} {k k' : IntKind} {a : Int} {n : Nat} (hn : n ≤ k.bits) : pvv P (binOp .shl t (.int k a) (.int k' n)) w K = K (.int k (k.wrap (a * 2 ^ n))) w := pvv_eq fun _ => by
  have h0 : ¬ ((n : Int) < 0) := by omega
  have hm : min n k.bits = n := by omega
  simp [binOp, Op.shift, h0, hm]
theorem o_shr {t : TypeId} {k k' : IntKind} {a : Nat} {n : Nat} (hn : n ≤ k.bits) : pvv P (binOp .shr t (.int k a) (.int k' n)) w K = K (.int k (a / 2 ^ n : Nat)) w := pvv_eq fun _ => by
  have h0 : ¬ ((n : Int) < 0) := by omega
  have hm : min n k.bits = n := by omega
  have h2 : ((2 : Int) ^ n) = ((2 ^ n : Nat) : Int) := by simp
  simp only [binOp, Op.shift, h0, hm, if_false, Int.toNat_natCast, Sem.run_pure]
  rw [h2, Int.fdiv_eq_ediv_of_nonneg _ (Int.natCast_nonneg _)]
  simp
/-! ### Words and bytes that are read -/
theorem Rds.opened {v : Value} {n : Nat} {xs : List Value} (hb : Rds H v n xs) (h : sat E w H) (hn : 0 < xs.length) : ∃ b o c, v = .slice (some ⟨b, o, none⟩) n c ∧ n ≤ c ∧ Rds H (.slice (some ⟨b, o, none⟩) n c) n xs := by
  obtain ⟨a, c, rfl, hc, hw⟩ := hb E w h
  rcases hw with rfl | ⟨b, o, _, _, _, rfl, _, _⟩
  · simp at hn
  · exact ⟨b, o, c, rfl, hc, hb⟩
theorem Rds.cell {b o n c : Nat} {xs : List Value} (hb : Rds H (.slice (some ⟨b, o, none⟩) n c) n xs) (h : sat E w H) {q j : Nat} {v : Value} (hq : q = o + j) (hv : xs[j]? = some v) : w.cell? ⟨b, q, none⟩ = some v := by
  subst hq
  exact win.cell (hb.win h) b o rfl j v hv
theorem ld_rd (h : sat E w H) {t b o n c q : Nat} {xs : List Value} {v : Value} [i : OneC P t] (hb : Rds H (.slice (some ⟨b, o, none⟩) n c) n xs) (j : Nat) (hq : q = o + j) (hv : xs[j]? = some v) (k : K v w) :
    ldv P (Instr.loadAt t (.pointer (some ⟨b, q, none⟩))) w K := ld_cell (hb.cell h hq hv) k
/-- append(v, u). -/
theorem push_sl (h : sat E w H) {t ty e m : Nat} {z : Value} [i : SliceT P t e 1 m z] {cs : Array Bool} {v : Value} {n : Nat} {xs : List Value} [hs : OwnS H v e 1 n xs R] {u : Value} (hz : z.oneCell' = true) (hu : u.oneCell' = true)
    (hb : (n + 1) * m ≤ 140737488355328) (hm : n + 1 ≤ 9223372036854775807)
    (k : ∀ v' w', sat E w' (osl e 1 v' (n + 1) (xs ++ [u]) * R) → K v' w') : efv P (Instr.buildSlice t 1 #[(0, u)]) w fun t1 w => ef P (oBi .append #[t, t] ty cs #[v, t1]) w K := by
  obtain ⟨y, hy, hy1, hy2, hy3⟩ := i.parts
  have hcu : u.cells = #[u] := by cases u <;> first | rfl | cases hu
  have hcz : z.cells = #[z] := by cases z <;> first | rfl | cases hz
  refine buildSlice_sl h (e := e) (cs := #[u]) (fun w => ?_) fun b w h => ?_
  · have ht : (typeInfo e).run P w = .ok y w := by simp [typeInfo, hy]
    simp [Instr.buildSlice, run_underlying' i.ul, Go.sizeOf, zeroValue, ht, hy1, hy2, hcz, Instr.fill, hcu, newRow]
    have e0 : Array.range 1 = #[0] := rfl
    have e9 : ∀ f : Nat → Value, (Array.map f #[0]).setIfInBounds 0 u = #[u] := fun f => by simp
    rw [e0, e9]
  · refine append_sl h [u] rfl (.inr ⟨b, 0, #[u], e, (0, 0), rfl, h.pts_get, fun j v hj => by simpa using hj⟩) (by simpa using hu) hb hm fun v' w h => k _ _ (h.lose b)
end
end Hold

/-
  The form's own reach handed on: each argument's size is bounded; openers of arguments with it.
-/
set_option linter.all false
namespace Hold
open Go Go.ChangeShapes Go.WideShapes Go.RowKit

/-- A law's step, from its walk; the arguments' sizes are handed on. -/
theorem law_liftedS {H : Type} {enc : TypeId × Value → H} {C : Checked} {os : Os} {f : FuncId} {fn : Func} {s : ChangeSpec} {conds : List PathCond} {apart fresh handsOn again : Bool} {tb : TypeId}
    (own : ownKnob C.prog.godebug = none) (started : os.Started) (noInit : C.prog.inits.idxOf? f = none) (hfn : C.prog.funcs[f]? = some fn)
    (witness : ∃ (w : World) (tape : Tape) (i : Input), w.os = os ∧ (w.forCall tape i).Shaped C.prog ∧ i.vars = [] ∧ Input.okWide C.prog (w.forCall tape i) .any w.heap.size f i ∧
      s.pre6 enc C.prog fn conds apart (w.forCall tape i).memory i.args ∧ ({} : Assume).holds C.prog (lone (Frame.enter C.prog f i.args .normal) [] (w.forCall tape i)))
    (hl : laidOutB C.prog = true) (hp : fn.params.toList.all (fun t => C.prog.readableRec t && decide (t < C.prog.types.size)) = true) (hrt : fn.resultTypes = #[tb]) (htb : C.prog.underlying tb = some .bool) (hv : s.vars = [])
    (hs : ∀ ds : List (DataW H), ds.length = fn.params.toList.length → s.fn H ds = { results := [.lit (.bool true)], args := ds })
    (walk : ∀ (W : World) (args : Array Value) (ds : List (DataW H)) (ps : List MemPlace), (∀ (j : Nat) t v, fn.params.toList[j]? = some t → args.toList[j]? = some v → ∃ base, Value.okWide C.prog W .any base t v) →
      DataW.TrodAll enc C.prog W 0 (fun _ => true) true fn.params.toList args.toList ds ps →
      (∀ (j : Nat) t d, fn.params.toList[j]? = some t → ds[j]? = some d → ∀ n ∈ d.weights C.prog t, n ≤ 140737488351232) → Calls C.prog f args W (Ret fun v W' => v = .bool true ∧ Below W.heap.size W W')) :
    ReturnsInHanded {} C os f .any (s.pre6 enc C.prog fn conds apart) (s.post enc C.prog fn apart fresh handsOn again) := by
  refine returnsInHanded_of_change_sized own started noInit hfn witness ?_
  intro W base args ds gs before hval hW _ hsz _
  have hW' := hW
  obtain ⟨p, q, hA, hV, _⟩ := hW
  have hlen : ∀ {ts : List TypeId} {vs : List Value} {ds : List (DataW H)} {ps : List MemPlace}, DataW.TrodAll enc C.prog W 0 (fun _ => true) true ts vs ds ps → ds.length = ts.length := by
    intro ts
    induction ts with
    | nil => intro vs ds ps h; obtain ⟨_, rfl, _⟩ := trodAll_nil h; rfl
    | cons t ts ih => intro vs ds ps h; obtain ⟨v, vs, d, ds, p, q, _, rfl, _, _, h2⟩ := trodAll_cons h; simp [ih h2]
  have hw : ∀ (j : Nat) t d, fn.params.toList[j]? = some t → ds[j]? = some d → ∀ n ∈ d.weights C.prog t, n ≤ 140737488351232 := fun j t d h1 h2 n hn => by
    have l1 := (List.getElem?_eq_some_iff.1 h1).1
    have l2 := (List.getElem?_eq_some_iff.1 h2).1
    have := List.all_eq_true.1 hsz _ (DataW.weights_mem_each (j := j) (t := t) (d := d) (by rw [List.getElem?_append_left l1]; exact h1) (by rw [List.getElem?_append_left l2]; exact h2) n hn)
    have e : reachBytes = 140737488351232 := by decide
    rw [e] at this
    simpa using this
  refine (walk W args ds p (fun j t v h1 h2 => ⟨base, hval j t v (by simpa using h1) (by simpa using h2)⟩) hA hw).mono fun e W' ⟨v, he, hv2, hb⟩ => ?_
  subst hv2
  refine ⟨_, he, law_post hl (fun t ht => ?_) hrt htb hv (hs ds (hlen hA)) hW' hb⟩
  have := List.all_eq_true.1 hp t ht
  simpa using this

variable {H : Type} {enc : TypeId × Value → H} {P : Program} {W : World} {r : Reach} {b0 : Nat} {v : Value} {d : DataW H} {p : List MemPlace}
theorem open_bytesS {t e : TypeId} (ht : P.underlying t = some (.slice e)) (he : P.underlying e = some (.int .u8)) (hc : P.cellsOf e = 1) (h1 : P.bytesOf e = 1)
    (hv : Value.okWide P W r b0 t v) (h : DataW.Trod enc P W 0 (fun _ => true) true t v d p) (hw : ∀ n ∈ d.weights P t, n ≤ 140737488351232) : ∃ l : List UInt8, Rds (old W) v l.length (l.map bv) ∧ l.length ≤ 140737488351232 := by
  obtain ⟨l, hr, _⟩ := open_bytesG ht he hc hv h
  refine ⟨l, hr, ?_⟩
  obtain ⟨a, len, cap, rfl⟩ := okWide_slice ht hv
  obtain ⟨a2, c2, e2, hc2, _⟩ := hr _ W (sat.start W)
  cases e2
  obtain ⟨fuel, hf⟩ := h
  rcases open_ints (k := .u8) ht he hc hf with ⟨e, _⟩ | ⟨a', len', cap', zs, e, _, hlc, hcm, hz, hd, hx, hwf⟩
  · simp [Value.cells] at e
    omega
  · simp [Value.cells] at e
    obtain ⟨rfl, rfl, rfl⟩ := e
    simp at hd
    obtain ⟨rfl, _⟩ := hd
    simp at hz
    have := hw ((lits (H := H) .u8 (zs.take l.length)).length + (lits (H := H) .u8 (zs.drop l.length)).length) (by simp [DataW.weights, ht, h1])
    simp [lits] at this
    omega
theorem open_u8G {t : TypeId} (ht : P.underlying t = some (.int .u8)) (hv : Value.okWide P W r b0 t v) (h : DataW.Trod enc P W 0 (fun _ => true) true t v d p) : ∃ b : UInt8, v = bv b := by
  obtain ⟨n, rfl, _, _, hw⟩ := open_int ht hv h
  exact u8_wf hw
end Hold

/-
  Strings: joined, cut, indexed; made bytes and back; a builder's string.
-/
set_option linter.all false
namespace Hold
open Go
section
variable {P : Program} {E : World0} {w : World} {H R : HP} {K : Value → World → Prop}
/-- A block's mark. -/
theorem sat.setO {b : Nat} {o : Obj} (h : sat E w (pts b o * R)) (o' : Obj) {w' : World} (hw : w' = w.putObj b o') : sat E w' (pts b o' * R) := by subst hw; exact h.set o'
/-- The order of texts. -/
def lexB : List UInt8 → List UInt8 → Bool
  | [], [] => false
  | [], _ :: _ => true
  | _ :: _, [] => false
  | a :: as, b :: bs => if a = b then lexB as bs else decide (a < b)
end
end Hold
