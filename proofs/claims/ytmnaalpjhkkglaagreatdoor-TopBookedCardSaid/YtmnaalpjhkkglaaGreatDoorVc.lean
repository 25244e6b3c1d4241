/-
  Short names for the operations, as the printed bodies use them.
-/
import Derived.Test.YtmnaalpjhkkglaaGreatDoorDen
import Derived.Test.YtmnaalpjhkkglaaGreatDoorHp
import Derived.Lib.Small
set_option linter.all false
namespace Hold
open Go

def vN (s : Sem Value) : Sem Next := do pure (.value (← s))
def uN (s : Sem Unit) : Sem Next := do s; pure .skip
def pvv (P : Program) (s : Sem Value) (w : World) (K : Value → World → Prop) : Prop := pv P (vN s) w K
def ldv (P : Program) (s : Sem Value) (w : World) (K : Value → World → Prop) : Prop := ld P (vN s) w K
def efv (P : Program) (s : Sem Value) (w : World) (K : Value → World → Prop) : Prop := ef P (vN s) w K
def efu (P : Program) (s : Sem Unit) (w : World) (K : Value → World → Prop) : Prop := ef P (uN s) w K
def stv (P : Program) (g : Gd) (s : Sem Value) (v : Value) (w : World) (A : Prop) : Prop := stay P g (vN s) v w A
def oPick (c a b : Value) : Sem Next := do pure (.value (if ← asBool c then a else b))
def oNil (x : Value) : Sem Next :=
  match x with
  | .pointer none | .nilIface | .nilFunc => runtimePanic .nilDeref
  | .func (.method name) first captured =>
    match (first[0]? : Option Value) with
    | some .nilIface => runtimePanic .nilDeref
    | some (.iface t w) => do
      if (← nilAhead ((← program).types.size + Made.depth) t w name) != some false then
        unsupported (.noEntry "op/nilCheck.the method's receiver behind this interface value is a nil pointer, or cannot be seen to be none, and the arguments act or may panic (ledger 612)")
      pure (.value (.func (.method name) first captured))
    | _ => pure (.value (.func (.method name) first captured))
  | x => pure (.value x)
def oEq (op : BinOp) (t : TypeId) (x y : Operand) (a b : Value) : Sem Value := do eqGuard op t x y a b; binOp op t a b
def oBi (b : Builtin) (argTypes : Array TypeId) (type : TypeId) (consts : Array Bool) (args : Array Value) : Sem Next := builtin b argTypes type consts args

end Hold

/-
  The operations, as rules: what each comes to, over a heap of owned and staying blocks.
-/
set_option linter.all false
namespace Hold
open Go

/-! ### What the tables say of types -/
class OneC (P : Program) (t : TypeId) : Prop where
  agg : ∀ w, (isAgg t).run P w = .ok false w
  size : (P.info? t).map (·.size) = some 1
class AggC (P : Program) (t : TypeId) (n : outParam Nat) : Prop where
  agg : ∀ w, (isAgg t).run P w = .ok true w
  size : (P.info? t).map (·.size) = some n
class FldOff (P : Program) (s : TypeId) (f : Nat) (off : outParam Nat) : Prop where
  run : ∀ (b o : Nat) w, (Instr.fieldAt s (.pointer (some ⟨b, o, none⟩)) f).run P w = .ok (.pointer (some ⟨b, o + off, none⟩)) w
class SliceT (P : Program) (t : TypeId) (e : outParam TypeId) (n by_ : outParam Nat) (z : outParam Value) : Prop where
  ul : P.underlying t = some (.slice e)
  info : (P.info? e).map (fun i => (i.zero, i.size, i.bytes)) = some (some z, n, by_)
  zs : z.cells.size = n
  pos : 0 < n
class Ul (P : Program) (t : TypeId) (d : outParam TypeDesc) : Prop where
  ul : P.underlying t = some d

theorem run_sizeOf' {P : Program} {t : TypeId} {n : Nat} {w : World} (h : (P.info? t).map (·.size) = some n) : (Go.sizeOf t).run P w = .ok n w := by
  unfold Go.sizeOf typeInfo
  cases hi : P.info? t with
  | none => rw [hi] at h; cases h
  | some i => rw [hi] at h; simp at h; simp [hi, h]
theorem run_underlying' {P : Program} {t : TypeId} {d : TypeDesc} {w : World} (h : P.underlying t = some d) : (underlying t).run P w = .ok d w := by
  unfold underlying; simp [h]

section
variable {P : Program} {E : World0} {w : World} {H R : HP} {K : Value → World → Prop}

theorem vN_run {s : Sem Value} {v : Value} {w w' : World} (h : s.run P w = .ok v w') : (vN s).run P w = .ok (.value v) w' := by
  unfold vN; simp [h]
theorem uN_run {s : Sem Unit} {w w' : World} (h : s.run P w = .ok () w') : (uN s).run P w = .ok .skip w' := by
  unfold uN; simp [h]

theorem pvv_of {s : Sem Value} {v : Value} (hr : ∀ w, s.run P w = .ok v w) (k : K v w) : pvv P s w K := ⟨v, fun w => vN_run (hr w), k⟩
theorem pvv_eq {s : Sem Value} {v : Value} (hr : ∀ w, s.run P w = .ok v w) : pvv P s w K = K v w :=
  propext ⟨fun ⟨u, hu, k⟩ => by have := (hu w).symm.trans (vN_run (hr w)); cases this; exact k, pvv_of hr⟩
theorem pv_eq {s : Sem Next} {v : Value} (hr : ∀ w, s.run P w = .ok (.value v) w) : pv P s w K = K v w :=
  propext ⟨fun ⟨u, hu, k⟩ => by have := (hu w).symm.trans (hr w); cases this; exact k, fun k => ⟨v, hr, k⟩⟩
theorem ldv_of {s : Sem Value} {v : Value} (hr : s.run P w = .ok v w) (k : K v w) : ldv P s w K := ⟨v, vN_run hr, k⟩
theorem efv_of {s : Sem Value} {v : Value} {w' : World} (hr : s.run P w = .ok v w') (k : K v w') : efv P s w K := by
  show upon P K _; rw [vN_run hr]; exact k
theorem efu_of {s : Sem Unit} {w' : World} (hr : s.run P w = .ok () w') (k : K undef w') : efu P s w K := by
  show upon P K _; rw [uN_run hr]; exact k
theorem ef_of {s : Sem Next} {v : Value} {w' : World} (hr : s.run P w = .ok (.value v) w') (k : K v w') : ef P s w K := by
  show upon P K _; rw [hr]; exact k
theorem stv_of {g : Gd} {s : Sem Value} {v : Value} {A : Prop} (hr : s.run P w = .ok v w) (k : A) : stv P g s v w A := ⟨fun _ => vN_run hr, k⟩

theorem oCall_run {f : FuncId} {args : Array Value} {w : World} : (oCall (.func (.func f) #[] #[]) args).run P w = (callFunc f args).run P w := by
  simp [oCall, Deferred.ofValue, invoke]
/-- A call of a function value: of a function with a body. -/
theorem oCall_body {f : FuncId} {args cap : Array Value} {fn : Func} (hf : P.funcs[f]? = some fn) (hn : (fn.name == "runtime.NumGoroutine") = false) (hb : fn.body.isNone = false) (h : Calls P f (args ++ cap) w (Ret K)) :
    ef P (oCall (.func (.func f) #[] cap) args) w K := by
  have h1 : fn.name ≠ "runtime.NumGoroutine" := by simpa using hn
  show upon P K _
  have e : (oCall (.func (.func f) #[] cap) args).run P w = .ok (.enter f (args ++ cap)) w := by
    have h2 : fn.body ≠ none := by intro e; simp [e] at hb
    simp [oCall, Deferred.ofValue, invoke, callFunc, hf, h1, h2]
  rw [e]; exact h
/-! ### Tests, gates, meetings -/
theorem cd_true {A B : Prop} : cd (.bool true) A B = A := by simp [cd]
theorem cd_false {A B : Prop} : cd (.bool false) A B = B := by simp [cd]
theorem cd_split {b : Bool} {A B : Prop} (h1 : b = true → A) (h2 : b = false → B) : cd (.bool b) A B := ⟨h1, h2⟩
theorem cd_dec {p : Prop} [Decidable p] {A B : Prop} (h1 : p → A) (h2 : ¬ p → B) : cd (.bool (decide p)) A B := ⟨fun h => h1 (by simpa using h), fun h => h2 (by simpa using h)⟩
theorem cd_dec' {p : Prop} [Decidable p] {A B : Prop} (h1 : p → B) (h2 : ¬ p → A) : cd (.bool !(decide p)) A B := ⟨fun h => h2 (by simpa using h), fun h => h1 (by simpa using h)⟩
theorem gate_tt {yes : (Value → World → Prop) → Prop} : gate (some (.bool true, true)) yes w K = yes K := propext ⟨fun h => h.out, fun h => ⟨h⟩⟩
theorem gate_ff {yes : (Value → World → Prop) → Prop} : gate (some (.bool false, false)) yes w K = yes K := propext ⟨fun h => h.out, fun h => ⟨h⟩⟩
theorem gate_tf {yes : (Value → World → Prop) → Prop} : gate (some (.bool true, false)) yes w K = K undef w := propext ⟨fun h => h.out, fun h => ⟨h⟩⟩
theorem gate_ft {yes : (Value → World → Prop) → Prop} : gate (some (.bool false, true)) yes w K = K undef w := propext ⟨fun h => h.out, fun h => ⟨h⟩⟩
theorem gate_undef {yes : (Value → World → Prop) → Prop} {b : Bool} : gate (some (undef, b)) yes w K = K undef w := propext ⟨fun h => h.out, fun h => ⟨h⟩⟩
theorem gate_dec {p : Prop} [Decidable p] {yes : (Value → World → Prop) → Prop} (h1 : p → yes K) (h2 : ¬ p → K undef w) : gate (some (.bool (decide p), true)) yes w K := ⟨by
  by_cases h : p
  · simpa [h] using h1 h
  · simpa [h] using h2 h⟩
theorem o_bind {s : Sem Next} {k : Sem Next → Prop} : bindS s k = k s := rfl
theorem stay_v {g : Gd} {s : Sem Value} {v : Value} {w : World} {A : Prop} : stay P g (vN s) v w A = stv P g s v w A := rfl
theorem pop_cons {v : Value} {σ : List Value} {f : Value → List Value → Prop} : pop (v :: σ) f = f v σ := rfl
theorem fin_nil {A : Prop} : fin [] A = A := rfl
theorem dr_sl {K : World → Prop} (h : sat E w H) (k : ∀ w', sat E w' H → hp w' = hp w → K w') : dr w K := k w.drew h.drew rfl
theorem jn_cut {rest : List Value → World → Prop} {body : (List Value → World → Prop) → Prop} (Φ : List Value → World → Prop) (h1 : ∀ k : List Value → World → Prop, (∀ σ w, Φ σ w → k σ w) → body k) (h2 : ∀ σ w, Φ σ w → rest σ w) : jn rest body := h1 rest h2
theorem lp_inv {body : List Value → World → (List Value → World → Prop) → Prop} {σ : List Value} (I : List Value → World → Prop) (μ : List Value → World → Nat) (h0 : I σ w)
    (h : ∀ σ w (again : List Value → World → Prop), I σ w → (∀ σ' w', I σ' w' → μ σ' w' < μ σ w → again σ' w') → body σ w again) : lp body σ w :=
  ⟨I, μ, h0, fun σ w hI => h σ w _ hI fun σ' w' h1 h2 => ⟨h1, h2⟩⟩
/-- A loop that counts what is left. -/
theorem lp_nat {body : List Value → World → (List Value → World → Prop) → Prop} {σ : List Value} (I : Nat → List Value → World → Prop) (n : Nat) (h0 : I n σ w)
    (h : ∀ n σ w (again : List Value → World → Prop), I n σ w → (∀ m σ' w', m < n → I m σ' w' → again σ' w') → body σ w again) : lp body σ w := by
  classical
  have key : ∀ σ w, (∃ m, I m σ w) → ∃ m, I m σ w ∧ ∀ k, I k σ w → m ≤ k := by
    intro σ w ⟨m, hm⟩
    induction m using Nat.strongRecOn with
    | _ m ih =>
      by_cases hx : ∃ k, k < m ∧ I k σ w
      · obtain ⟨k, hk, hI⟩ := hx; exact ih k hk hI
      · exact ⟨m, hm, fun k hk => Nat.le_of_not_lt fun hlt => hx ⟨k, hlt, hk⟩⟩
  refine lp_inv (fun σ w => ∃ m, I m σ w) (fun σ w => if h : ∃ m, I m σ w then Classical.choose (key σ w h) else 0) ⟨n, h0⟩ ?_
  intro σ w again hI hag
  obtain ⟨m1, m2⟩ := Classical.choose_spec (key σ w hI)
  refine h (Classical.choose (key σ w hI)) σ w again m1 fun m σ' w' hlt hI' => hag σ' w' ⟨m, hI'⟩ ?_
  obtain ⟨_, m4⟩ := Classical.choose_spec (key σ' w' ⟨m, hI'⟩)
  rw [dif_pos ⟨m, hI'⟩, dif_pos hI]
  exact Nat.lt_of_le_of_lt (m4 m hI') hlt

/-! ### Operations that yield -/
theorem o_nil {a : Addr} : pv P (oNil (.pointer (some a))) w K = K (.pointer (some a)) w := pv_eq fun _ => rfl
theorem o_field {s f b o off : Nat} [i : FldOff P s f off] : pvv P (Instr.fieldAt s (.pointer (some ⟨b, o, none⟩)) f) w K = K (.pointer (some ⟨b, o + off, none⟩)) w := pvv_eq fun _ => i.run b o _
theorem o_add {t : TypeId} {k : IntKind} {a b : Int} : pvv P (binOp .add t (.int k a) (.int k b)) w K = K (.int k (k.wrap (a + b))) w := pvv_eq fun _ => by simp [binOp, Op.intArith]
theorem o_sub {t : TypeId} {k : IntKind} {a b : Int} : pvv P (binOp .sub t (.int k a) (.int k b)) w K = K (.int k (k.wrap (a - b))) w := pvv_eq fun _ => by simp [binOp, Op.intArith]
theorem o_mul {t : TypeId} {k : IntKind} {a b : Int} : pvv P (binOp .mul t (.int k a) (.int k b)) w K = K (.int k (k.wrap (a * b))) w := pvv_eq fun _ => by simp [binOp, Op.intArith]
theorem o_lss {t : TypeId} {k : IntKind} {a b : Int} : pvv P (binOp .lss t (.int k a) (.int k b)) w K = K (.bool (decide (a < b))) w := pvv_eq fun _ => by simp [binOp, Op.intCmp]
theorem o_leq {t : TypeId} {k : IntKind} {a b : Int} : pvv P (binOp .leq t (.int k a) (.int k b)) w K = K (.bool (decide (a ≤ b))) w := pvv_eq fun _ => by simp [binOp, Op.intCmp]
theorem o_gtr {t : TypeId} {k : IntKind} {a b : Int} : pvv P (binOp .gtr t (.int k a) (.int k b)) w K = K (.bool (decide (b < a))) w := pvv_eq fun _ => by simp [binOp, Op.intCmp]
theorem o_geq {t : TypeId} {k : IntKind} {a b : Int} : pvv P (binOp .geq t (.int k a) (.int k b)) w K = K (.bool (decide (b ≤ a))) w := pvv_eq fun _ => by simp [binOp, Op.intCmp]
theorem o_not {b : Bool} : pvv P (Op.unary .not (.bool b)) w K = K (.bool !b) w := pvv_eq fun _ => by simp [Op.unary]
theorem o_pick {b : Bool} {x y : Value} : pv P (oPick (.bool b) x y) w K = K (if b then x else y) w := pv_eq fun _ => by simp [oPick, asBool]
theorem beq_dec (a b : Int) : (a == b) = decide (a = b) := rfl
theorem o_eqInt {t : TypeId} {xo yo : Operand} {k : IntKind} {a b : Int} : pvv P (oEq .eql t xo yo (.int k a) (.int k b)) w K = K (.bool (decide (a = b))) w := pvv_eq fun _ => by
  simp [oEq, eqGuard, binOp, Op.intCmp, beq_dec]
theorem o_neInt {t : TypeId} {xo yo : Operand} {k : IntKind} {a b : Int} : pvv P (oEq .neq t xo yo (.int k a) (.int k b)) w K = K (.bool !(decide (a = b))) w := pvv_eq fun _ => by
  simp [oEq, eqGuard, binOp, Op.intCmp, bne, beq_dec]
theorem o_eqBool {t : TypeId} {xo yo : Operand} {a b : Bool} [i : Ul P t .bool] : pvv P (oEq .eql t xo yo (.bool a) (.bool b)) w K = K (.bool (a == b)) w := pvv_eq fun w => by
  have := run_eql_bool (P := P) w t a b i.ul
  simp [oEq, eqGuard, this]
theorem o_neBool {t : TypeId} {xo yo : Operand} {a b : Bool} [i : Ul P t .bool] : pvv P (oEq .neq t xo yo (.bool a) (.bool b)) w K = K (.bool !(a == b)) w := pvv_eq fun w => by
  have := run_neq_bool (P := P) w t a b i.ul
  simp [oEq, eqGuard, this]
theorem run_eqPtrIn (d : Nat) {t e : TypeId} {p : Option Addr} {w : World} (h : P.underlying t = some (.pointer e)) : (Op.equalIn (d + 1) t (.pointer p) (.pointer none)).run P w = .ok p.isNone w := by
  cases p <;> simp [Op.equalIn, run_underlying' h]
theorem run_eqPtr {t e : TypeId} {p : Option Addr} {w : World} (h : P.underlying t = some (.pointer e)) : (Op.equal t (.pointer p) (.pointer none)).run P w = .ok p.isNone w := run_eqPtrIn 9999 h
theorem run_eqPtrIn' (d : Nat) {t e : TypeId} {p : Option Addr} {w : World} (h : P.underlying t = some (.pointer e)) : (Op.equalIn (d + 1) t (.pointer none) (.pointer p)).run P w = .ok p.isNone w := by
  simp [Op.equalIn, run_underlying' h]
theorem run_eqPtr' {t e : TypeId} {p : Option Addr} {w : World} (h : P.underlying t = some (.pointer e)) : (Op.equal t (.pointer none) (.pointer p)).run P w = .ok p.isNone w := run_eqPtrIn' 9999 h
theorem o_eqPtr {t e : TypeId} {xo yo : Operand} {p : Option Addr} [i : Ul P t (.pointer e)] : pvv P (oEq .eql t xo yo (.pointer p) (.pointer none)) w K = K (.bool p.isNone) w := pvv_eq fun w => by
  have := run_eqPtr (P := P) (p := p) (w := w) i.ul
  simp [oEq, eqGuard, binOp, this]
theorem o_nePtr {t e : TypeId} {xo yo : Operand} {p : Option Addr} [i : Ul P t (.pointer e)] : pvv P (oEq .neq t xo yo (.pointer p) (.pointer none)) w K = K (.bool !p.isNone) w := pvv_eq fun w => by
  have := run_eqPtr (P := P) (p := p) (w := w) i.ul
  simp [oEq, eqGuard, binOp, this]
theorem o_eqPtr' {t e : TypeId} {xo yo : Operand} {p : Option Addr} [i : Ul P t (.pointer e)] : pvv P (oEq .eql t xo yo (.pointer none) (.pointer p)) w K = K (.bool p.isNone) w := pvv_eq fun w => by
  have := run_eqPtr' (P := P) (p := p) (w := w) i.ul
  simp [oEq, eqGuard, binOp, this]
theorem run_eqSlIn (d : Nat) {t e : TypeId} {p : Option Addr} {l c : Nat} {w : World} (h : P.underlying t = some (.slice e)) : (Op.equalIn (d + 1) t (.slice p l c) (.slice none 0 0)).run P w = .ok p.isNone w := by
  cases p <;> simp [Op.equalIn, run_underlying' h]
theorem run_eqSl {t e : TypeId} {p : Option Addr} {l c : Nat} {w : World} (h : P.underlying t = some (.slice e)) : (Op.equal t (.slice p l c) (.slice none 0 0)).run P w = .ok p.isNone w := run_eqSlIn 9999 h
theorem o_eqSl {t e : TypeId} {xo yo : Operand} {p : Option Addr} {l c : Nat} [i : Ul P t (.slice e)] : pvv P (oEq .eql t xo yo (.slice p l c) (.slice none 0 0)) w K = K (.bool p.isNone) w := pvv_eq fun w => by
  have := run_eqSl (P := P) (p := p) (w := w) (l := l) (c := c) i.ul
  simp [oEq, eqGuard, binOp, this]
theorem o_neSl {t e : TypeId} {xo yo : Operand} {p : Option Addr} {l c : Nat} [i : Ul P t (.slice e)] : pvv P (oEq .neq t xo yo (.slice p l c) (.slice none 0 0)) w K = K (.bool !p.isNone) w := pvv_eq fun w => by
  have := run_eqSl (P := P) (p := p) (w := w) (l := l) (c := c) i.ul
  simp [oEq, eqGuard, binOp, this]
theorem o_eqStr {t : TypeId} {xo yo : Operand} {a b : ByteArray} : pvv P (oEq .eql t xo yo (.string a) (.string b)) w K = K (.bool (a.toList == b.toList)) w := pvv_eq fun w => by
  simp [oEq, eqGuard, binOp, Op.stringOp]
theorem o_neStr {t : TypeId} {xo yo : Operand} {a b : ByteArray} : pvv P (oEq .neq t xo yo (.string a) (.string b)) w K = K (.bool !(a.toList == b.toList)) w := pvv_eq fun w => by
  simp [oEq, eqGuard, binOp, Op.stringOp]
theorem o_len {t ty e : TypeId} {cs : Array Bool} {a : Option Addr} {l c : Nat} [i : Ul P t (.slice e)] : pv P (oBi .len #[t] ty cs #[.slice a l c]) w K = K (.int .i64 l) w := pv_eq fun w => by
  simp [oBi, builtin, Builtin.len_, run_underlying' i.ul, goInt]
theorem o_lenS {t ty : TypeId} {cs : Array Bool} {s : ByteArray} [i : Ul P t .string] : pv P (oBi .len #[t] ty cs #[.string s]) w K = K (.int .i64 s.size) w := pv_eq fun w => by
  simp [oBi, builtin, Builtin.len_, run_underlying' i.ul, goInt]
theorem o_min {t t' ty : TypeId} {cs : Array Bool} {k : IntKind} {a b : Int} : pv P (oBi .min #[t, t'] ty cs #[.int k a, .int k b]) w K = K (.int k (min a b)) w := pv_eq fun w => by
  have := run_min_int2 (P := P) w #[t, t'] ty k k a b
  simp only [oBi, builtin, Sem.run_bind, this, Result.andThen_ok, Sem.run_pure]
  congr 3
  omega
theorem o_max {t t' ty : TypeId} {cs : Array Bool} {k : IntKind} {a b : Int} : pv P (oBi .max #[t, t'] ty cs #[.int k a, .int k b]) w K = K (.int k (max a b)) w := pv_eq fun w => by
  have := run_max_int2 (P := P) w #[t, t'] ty k k a b
  simp only [oBi, builtin, Sem.run_bind, this, Result.andThen_ok, Sem.run_pure]
  congr 3
  omega
/-- The element of a written list. -/
class At (l : List Value) (i : Nat) (v : outParam Value) : Prop where get : l[i]? = some v
instance At.zero (v : Value) (l : List Value) : At (v :: l) 0 v := ⟨rfl⟩
instance At.succ (v u : Value) (l : List Value) (i : Nat) [h : At l i u] : At (v :: l) (i + 1) u := ⟨by simpa using h.get⟩
/-- A written list, one element turned. -/
class Put (l : List Value) (i : Nat) (v : Value) (l' : outParam (List Value)) : Prop where eq : l.set i v = l'
instance Put.zero (u v : Value) (l : List Value) : Put (u :: l) 0 v (v :: l) := ⟨rfl⟩
instance Put.succ (u v : Value) (l l' : List Value) (i : Nat) [h : Put l i v l'] : Put (u :: l) (i + 1) v (u :: l') := ⟨by simpa using h.eq⟩
theorem o_extract {l : List Value} {i : Nat} {v : Value} [h : At l i v] : pvv P (Instr.extract (.tuple l.toArray) i) w K = K v w := pvv_eq fun w => by
  simp [Instr.extract, h.get]
theorem o_convInt {s d : TypeId} {k k' : IntKind} {n : Int} [i : Ul P s (.int k)] [j : Ul P d (.int k')] : pvv P (convert s d (.int k n)) w K = K (.int k' (k'.wrap n)) w := pvv_eq fun w => by
  simp [convert, run_underlying' i.ul, run_underlying' j.ul, Conv.intToInt]
theorem o_index {t e n m : TypeId} {z : Value} [i : SliceT P t e n m z] {b o l c : Nat} {k : IntKind} {x : Int} (h0 : 0 ≤ x) (h1 : x < l) :
    pvv P (Instr.indexAt t (.slice (some ⟨b, o, none⟩) l c) (.int k x)) w K = K (.pointer (some ⟨b, o + x.toNat * n, none⟩)) w := pvv_eq fun w => by
  have hi : (P.info? e).map (·.size) = some n := by
    have := i.info
    cases hi : P.info? e with
    | none => rw [hi] at this; cases this
    | some y => rw [hi] at this; simp at this; simp [this.2.1]
  have ha : ∀ m : Nat, (⟨b, o, none⟩ : Addr).add m = ⟨b, o + m, none⟩ := fun m => by unfold Addr.add; split <;> simp_all
  simp [Instr.indexAt, asIntOf, run_underlying' i.ul, run_sizeOf' hi, h0, h1, ha]
theorem o_unary {op : UnOp} {v u : Value} (h : (Op.unary op v) = pure u) : pvv P (Op.unary op v) w K = K u w := pvv_eq fun w => by rw [h]; rfl

/-- A string's byte. -/
theorem o_indexS {t : TypeId} [i : Ul P t .string] {s : ByteArray} {k : IntKind} {x : Int} (h0 : 0 ≤ x) (h1 : x.toNat < s.size) :
    pvv P (Instr.index t (.string s) (.int k x)) w K = K (.int .u8 (s[x.toNat]'h1).toNat) w := pvv_eq fun w => by
  have : s[x.toNat]? = some (s[x.toNat]'h1) := by simp [h1]
  simp [Instr.index, asIntOf, run_underlying' i.ul, h0, this]

/-! ### Slicing a slice -/
theorem SliceT.size {t e n m : Nat} {z : Value} (i : SliceT P t e n m z) : (P.info? e).map (·.size) = some n := by
  have := i.info
  cases hi : P.info? e with
  | none => rw [hi] at this; cases this
  | some y => rw [hi] at this; simp at this; simp [this.2.1]
/-- The address behind a cut: at the capacity's end it stays. -/
def cutA (a : Option Addr) (cap lo n : Nat) : Option Addr := if cap = lo then a else a.map (·.add (lo * n))
theorem o_slice_lh {t e n m : Nat} {z : Value} [i : SliceT P t e n m z] {a : Option Addr} {l c : Nat} {k k' : IntKind} {x y : Int} (h0 : 0 ≤ x) (h1 : x ≤ y) (h2 : y ≤ c) :
    pvv P (Instr.sliceAt t (.slice a l c) (some (.int k x)) (some (.int k' y)) none) w K = K (.slice (cutA a c x.toNat n) (y.toNat - x.toNat) (c - x.toNat)) w := by
  obtain ⟨x, rfl⟩ := Int.eq_ofNat_of_zero_le h0
  obtain ⟨y, rfl⟩ := Int.eq_ofNat_of_zero_le (show 0 ≤ y by omega)
  have h1' : x ≤ y := by omega
  have h2' : y ≤ c := by omega
  exact pvv_eq fun w => by
    simp [Instr.sliceAt, Instr.slice, Instr.sliceBounds, Instr.sliceBound, asIntOf, run_underlying' i.ul, run_sizeOf' i.size, h1', h2', cutA]
theorem o_slice_l {t e n m : Nat} {z : Value} [i : SliceT P t e n m z] {a : Option Addr} {l c : Nat} {k : IntKind} {x : Int} (h0 : 0 ≤ x) (h1 : x ≤ l) :
    pvv P (Instr.sliceAt t (.slice a l c) (some (.int k x)) none none) w K = K (.slice (cutA a c x.toNat n) (l - x.toNat) (c - x.toNat)) w := pvv_eq fun w => by
  simp [Instr.sliceAt, Instr.slice, Instr.sliceBounds, Instr.sliceBound, asIntOf, run_underlying' i.ul, run_sizeOf' i.size, h0, h1, cutA]
theorem o_slice_h {t e n m : Nat} {z : Value} [i : SliceT P t e n m z] {a : Option Addr} {l c : Nat} {k : IntKind} {y : Int} (h0 : 0 ≤ y) (h1 : y ≤ c) :
    pvv P (Instr.sliceAt t (.slice a l c) none (some (.int k y)) none) w K = K (.slice (cutA a c 0 n) y.toNat c) w := pvv_eq fun w => by
  simp [Instr.sliceAt, Instr.slice, Instr.sliceBounds, Instr.sliceBound, asIntOf, run_underlying' i.ul, run_sizeOf' i.size, h0, h1, cutA]

/-! ### Reads -/
theorem add_addr (b o m : Nat) : (⟨b, o, none⟩ : Addr).add m = ⟨b, o + m, none⟩ := by unfold Addr.add; split <;> simp_all
theorem cell_of {b o : Nat} {xs : Array Value} {e : TypeId} {fr : Nat × Nat} {v : Value} (hb : w.heap[b]? = some (.cells xs e fr)) (hv : xs[o]? = some v) : w.cell? ⟨b, o, none⟩ = some v := by
  simp [World.cell?, hb, hv]
theorem run_load1 {t : TypeId} {a : Addr} {v : Value} {w : World} [i : OneC P t] (h : w.cell? a = some v) : (Instr.loadAt t (.pointer (some a))).run P w = .ok v w := by
  simp [Instr.loadAt, Instr.sureAddr, loadVar, i.agg w, run_load, h]
theorem run_loadN {t n b o : Nat} {w : World} {cs : List Value} [i : AggC P t n] (hn : cs.length = n) (h : ∀ j v, cs[j]? = some v → w.cell? ⟨b, o + j, none⟩ = some v) :
    (Instr.loadAt t (.pointer (some ⟨b, o, none⟩))).run P w = .ok (.agg cs.toArray) w := by
  have := run_loadCells_list (P := P) w ⟨b, o, none⟩ cs (fun j v hj => by rw [add_addr]; exact h j v hj)
  simp [Instr.loadAt, Instr.sureAddr, loadVar, i.agg w, run_sizeOf' i.size, ← hn, this]
theorem ld_cell {t : TypeId} {a : Addr} {v : Value} [i : OneC P t] (h : w.cell? a = some v) (k : K v w) : ldv P (Instr.loadAt t (.pointer (some a))) w K := ldv_of (run_load1 h) k
theorem st_cell {g : Gd} {t : TypeId} {a : Addr} {v : Value} {A : Prop} [i : OneC P t] (h : w.cell? a = some v) (k : A) : stv P g (Instr.loadAt t (.pointer (some a))) v w A := stv_of (run_load1 h) k
theorem ld_at (h : sat E w H) {t b o e : Nat} {xs : List Value} {fr : Nat × Nat} {v : Value} [i : OneC P t] [hb : Has H b (.cells xs.toArray e fr)] [hv : At xs o v] (k : K v w) :
    ldv P (Instr.loadAt t (.pointer (some ⟨b, o, none⟩))) w K := ld_cell (cell_of (hb.get h) (by simpa using hv.get)) k
theorem st_at (h : sat E w H) {g : Gd} {t b o e : Nat} {xs : List Value} {fr : Nat × Nat} {v : Value} {A : Prop} [i : OneC P t] [hb : Has H b (.cells xs.toArray e fr)] [hv : At xs o v] (k : A) :
    stv P g (Instr.loadAt t (.pointer (some ⟨b, o, none⟩))) v w A := st_cell (cell_of (hb.get h) (by simpa using hv.get)) k
theorem ld_in (h : sat E w H) {t b o e : Nat} {xs : List Value} {fr : Nat × Nat} {v : Value} [i : OneC P t] [hb : Has H b (.cells xs.toArray e fr)] (hv : xs[o]? = some v) (k : K v w) :
    ldv P (Instr.loadAt t (.pointer (some ⟨b, o, none⟩))) w K := ld_cell (cell_of (hb.get h) (by simpa using hv)) k
theorem ld_agg (h : sat E w H) {t n b e : Nat} {xs : List Value} {fr : Nat × Nat} [i : AggC P t n] [hb : Has H b (.cells xs.toArray e fr)] (hn : xs.length = n) (k : K (.agg xs.toArray) w) :
    ldv P (Instr.loadAt t (.pointer (some ⟨b, 0, none⟩))) w K :=
  ldv_of (run_loadN hn fun j v hj => cell_of (hb.get h) (by simpa using hj)) k

/-! ### Writes -/
theorem setRow_putObj {g : Nat} {xs ys : Array Value} {e : TypeId} {fr : Nat × Nat} (h : w.heap[g]? = some (.cells xs e fr)) : w.setRow g ys = w.putObj g (.cells ys e fr) := by
  have hlt := (Array.getElem?_eq_some_iff.1 h).1
  unfold World.setRow World.putObj
  congr 1
  refine Array.ext_getElem? fun i => ?_
  rw [Array.getElem?_modify, Array.getElem?_setIfInBounds]
  by_cases hi : g = i
  · subst hi
    have hx : w.heap[g] = .cells xs e fr := (Array.getElem?_eq_some_iff.1 h).2
    simp [hlt, hx]
  · simp [hi]
theorem run_storeN {t n b o e : Nat} {w : World} {xs vs : List Value} {v : Value} (hsz : (P.info? t).map (·.size) = some n) (hv : v.cells.toList = vs) (hn : vs.length = n) (h1 : ∀ x ∈ vs, x.oneCell' = true)
    (hb : w.heap[b]? = some (.cells xs.toArray e (0, 0))) (hl : o + n ≤ xs.length) :
    (Instr.storeAt t (.pointer (some ⟨b, o, none⟩)) v).run P w = .ok () (w.putObj b (.cells (xs.take o ++ vs ++ xs.drop (o + n)).toArray e (0, 0))) := by
  have hc : v.cells.size = n := by rw [← Array.length_toList, hv, hn]
  have := run_storeCells_at P b o e vs 0 xs.toArray w hb (by simp; omega) h1
  rw [setRow_putObj hb] at this
  simp [Instr.storeAt, Instr.sureAddr, storeVar, hc, run_sizeOf' hsz, hv, this, hn]
theorem storeN_sl (h : sat E w H) {t n b o e : Nat} {xs vs : List Value} {v : Value} [hb : Own H b (.cells xs.toArray e (0, 0)) R] (hsz : (P.info? t).map (·.size) = some n) (hv : v.cells.toList = vs) (hn : vs.length = n)
    (h1 : ∀ x ∈ vs, x.oneCell' = true) (hl : o + n ≤ xs.length) (k : ∀ w', sat E w' (pts b (.cells (xs.take o ++ vs ++ xs.drop (o + n)).toArray e (0, 0)) * R) → K undef w') :
    efu P (Instr.storeAt t (.pointer (some ⟨b, o, none⟩)) v) w K := by
  have h2 := h.own b
  exact efu_of (run_storeN hsz hv hn h1 h2.pts_get hl) (k _ (h2.set _))
theorem take_set_drop {α : Type} : ∀ (xs : List α) (o : Nat) (v : α), o < xs.length → xs.take o ++ [v] ++ xs.drop (o + 1) = xs.set o v
  | [], o, v, h => by simp at h
  | x :: xs, 0, v, h => by simp
  | x :: xs, o + 1, v, h => by simpa using take_set_drop xs o v (by simpa using h)
theorem cells_one {v : Value} (h : v.oneCell' = true) : v.cells.toList = [v] := by cases v <;> first | rfl | cases h
/-- A store of one cell. -/
theorem store_sl (h : sat E w H) {t b o e : Nat} {xs : List Value} {v : Value} [i : OneC P t] [hb : Own H b (.cells xs.toArray e (0, 0)) R] (hv : v.oneCell' = true) (hl : o < xs.length)
    (k : ∀ w', sat E w' (pts b (.cells (xs.set o v).toArray e (0, 0)) * R) → K undef w') :
    efu P (Instr.storeAt t (.pointer (some ⟨b, o, none⟩)) v) w K := by
  refine storeN_sl h i.size (cells_one hv) rfl (by simp [hv]) (by omega) fun w' h' => k w' ?_
  rwa [take_set_drop xs o v hl] at h'
theorem store_at (h : sat E w H) {t b o e : Nat} {xs xs' : List Value} {v : Value} [i : OneC P t] [hb : Own H b (.cells xs.toArray e (0, 0)) R] (hv : v.oneCell' = true) [hp : Put xs o v xs'] (hl : o < xs.length)
    (k : ∀ w', sat E w' (pts b (.cells xs'.toArray e (0, 0)) * R) → K undef w') :
    efu P (Instr.storeAt t (.pointer (some ⟨b, o, none⟩)) v) w K := store_sl h hv hl fun w' h' => k w' (by rwa [hp.eq] at h')

/-! ### New blocks -/
class ZeroC (P : Program) (t : TypeId) (z : outParam Value) : Prop where
  zero : (P.info? t).map (·.zero) = some (some z)
theorem run_zero {t : TypeId} {z : Value} {w : World} (i : ZeroC P t z) : (zeroValue t).run P w = .ok z w := by
  have := i.zero
  unfold zeroValue typeInfo
  cases hi : P.info? t with
  | none => rw [hi] at this; cases this
  | some y => rw [hi] at this; simp at this; simp [hi, this]
theorem alloc_sl (h : sat E w H) {t : TypeId} {z : Value} [i : ZeroC P t z] (k : ∀ b w', sat E w' (pts b (.cells z.cells t (0, 0)) * H) → K (.pointer (some ⟨b, 0, none⟩)) w') :
    efv P (Instr.alloc t true (.tuple #[])) w K := by
  refine efv_of (v := .pointer (some ⟨w.heap.size, 0, none⟩)) (w' := w.alloc (.cells z.cells t (0, 0))) ?_ (k _ _ (h.alloc _))
  simp [Instr.alloc, run_zero i, newVar, newRow]
theorem box_sl (h : sat E w H) {t : TypeId} {v : Value} (k : ∀ b w', sat E w' (pts b (.cells v.cells t (0, 0)) * H) → K (.pointer (some ⟨b, 0, none⟩)) w') :
    efv P (Instr.box t v) w K := by
  refine efv_of (v := .pointer (some ⟨w.heap.size, 0, none⟩)) (w' := w.alloc (.cells v.cells t (0, 0))) ?_ (k _ _ (h.alloc _))
  simp [Instr.box, newVar, newRow]
theorem SliceT.parts {t e n m : Nat} {z : Value} (i : SliceT P t e n m z) : ∃ y, P.info? e = some y ∧ y.zero = some z ∧ y.size = n ∧ y.bytes = m := by
  have := i.info
  cases hi : P.info? e with
  | none => rw [hi] at this; cases this
  | some y => rw [hi] at this; simp at this; exact ⟨y, rfl, this.1, this.2.1, this.2.2⟩
theorem make_sl (h : sat E w H) {t e m : Nat} {z : Value} [i : SliceT P t e 1 m z] (hz : z.oneCell' = true) {kl kc : IntKind} {l c : Int} (h0 : 0 ≤ l) (h1 : l ≤ c) (h2 : (m : Int) * c ≤ 281474976710656) (h3 : c ≤ 9223372036854775807)
    (k : ∀ b w', sat E w' (pts b (.cells (List.replicate c.toNat z).toArray e (0, 0)) * H) → K (.slice (some ⟨b, 0, none⟩) l.toNat c.toNat) w') :
    efv P (Instr.makeSlice t (.int kl l) (.int kc c)) w K := by
  obtain ⟨y, hy, hy1, hy2, hy3⟩ := i.parts
  have hr := run_make (P := P) w t e y z i.ul hy hy1 kl kc l c h0 h1 (by rw [hy3]; exact h2) h3
  have hc : z.cells = #[z] := by cases z <;> first | rfl | cases hz
  have e1 : madeCells z.cells (c.toNat * y.size) = (List.replicate c.toNat z).toArray := by
    apply Array.ext'
    rw [hc, toList_madeCells_one, hy2, Nat.mul_one]
  rw [e1] at hr
  exact efv_of hr (k _ _ (h.alloc _))
theorem buildSlice_sl (h : sat E w H) {t e : Nat} {n : Nat} {parts : Array (Nat × Value)} {cs : Array Value} (hr : ∀ w, (Instr.buildSlice t n parts).run P w = .ok (.slice (some ⟨w.heap.size, 0, none⟩) n n) (w.alloc (.cells cs e (0, 0))))
    (k : ∀ b w', sat E w' (pts b (.cells cs e (0, 0)) * H) → K (.slice (some ⟨b, 0, none⟩) n n) w') : efv P (Instr.buildSlice t n parts) w K :=
  efv_of (hr w) (k _ _ (h.alloc _))

/-! ### A slice that is owned -/
/-- v is a slice of n elements, sz cells each, that owns its block from its head on; its cells are xs. -/
def osl (e : TypeId) (sz : Nat) (v : Value) (n : Nat) (xs : List Value) : HP :=
  ex fun q : Option (Nat × Nat × List Value) => match q with
    | none => pur (v = .slice none 0 0 ∧ n = 0 ∧ xs = [])
    | some (b, cap, sp) => pur (v = .slice (some ⟨b, 0, none⟩) n cap ∧ xs.length = n * sz ∧ (xs ++ sp).length = cap * sz ∧ n ≤ cap ∧ cap ≤ 9223372036854775807) * pts b (.cells (xs ++ sp).toArray e (0, 0))
theorem sat_osl {e sz n : Nat} {v : Value} {xs : List Value} : sat E w (osl e sz v n xs * R) ↔
    (v = .slice none 0 0 ∧ n = 0 ∧ xs = [] ∧ sat E w R) ∨ ∃ b cap sp, v = .slice (some ⟨b, 0, none⟩) n cap ∧ xs.length = n * sz ∧ (xs ++ sp).length = cap * sz ∧ n ≤ cap ∧ cap ≤ 9223372036854775807 ∧ sat E w (pts b (.cells (xs ++ sp).toArray e (0, 0)) * R) := by
  unfold osl
  rw [sat_ex_star]
  constructor
  · rintro ⟨q, h⟩
    match q with
    | none => rw [sat_pur_star] at h; exact .inl ⟨h.1.1, h.1.2.1, h.1.2.2, h.2⟩
    | some (b, cap, sp) =>
      simp only [star_assoc] at h
      rw [sat_pur_star] at h
      obtain ⟨⟨a1, a2, a3, a4, a5⟩, a6⟩ := h
      exact .inr ⟨b, cap, sp, a1, a2, a3, a4, a5, a6⟩
  · rintro (⟨a1, a2, a3, h⟩ | ⟨b, cap, sp, a1, a2, a3, a4, a5, h⟩)
    · exact ⟨none, by simp only; rw [sat_pur_star]; exact ⟨⟨a1, a2, a3⟩, h⟩⟩
    · refine ⟨some (b, cap, sp), ?_⟩
      simp only [star_assoc]
      rw [sat_pur_star]
      exact ⟨⟨a1, a2, a3, a4, a5⟩, h⟩
theorem osl_nil (h : sat E w R) (e sz : Nat) : sat E w (osl e sz (.slice none 0 0) 0 [] * R) := sat_osl.2 (.inl ⟨rfl, rfl, rfl, h⟩)
theorem osl_of {b e sz n : Nat} {xs : List Value} (h : sat E w (pts b (.cells xs.toArray e (0, 0)) * R)) (hl : xs.length = n * sz) (hn : n ≤ 9223372036854775807) : sat E w (osl e sz (.slice (some ⟨b, 0, none⟩) n n) n xs * R) :=
  sat_osl.2 (.inr ⟨b, n, [], rfl, hl, by simpa using hl, Nat.le_refl _, hn, by simpa using h⟩)

/-- The slice v is owned. -/
class OwnS (H : HP) (v : Value) (e sz n : outParam Nat) (xs : outParam (List Value)) (R : outParam HP) : Prop where eq : H = osl e sz v n xs * R
instance (priority := 1100) OwnS.here (v : Value) (e sz n : Nat) (xs : List Value) (R : HP) : OwnS (osl e sz v n xs * R) v e sz n xs R := ⟨rfl⟩
instance (priority := 1050) OwnS.there (v : Value) (e sz n : Nat) (xs : List Value) (R : HP) : OwnS (R * osl e sz v n xs) v e sz n xs R := ⟨star_comm _ _⟩
instance (priority := 900) OwnS.right (P1 P2 : HP) (v : Value) (e sz n : Nat) (xs : List Value) (R : HP) [h : OwnS P2 v e sz n xs R] : OwnS (P1 * P2) v e sz n xs (P1 * R) := ⟨by rw [h.eq, star_left_comm]⟩
instance (priority := 800) OwnS.left (P1 P2 : HP) (v : Value) (e sz n : Nat) (xs : List Value) (R : HP) [h : OwnS P1 v e sz n xs R] : OwnS (P1 * P2) v e sz n xs (R * P2) := ⟨by rw [h.eq, star_assoc]⟩
instance (priority := 100) OwnS.all (v : Value) (e sz n : Nat) (xs : List Value) : OwnS (osl e sz v n xs) v e sz n xs emp := ⟨(star_emp _).symm⟩
theorem sat.owns (h : sat E w H) (v : Value) {e sz n : Nat} {xs : List Value} [s : OwnS H v e sz n xs R] : sat E w (osl e sz v n xs * R) := h.perm s.eq

/-- A window of cells that can be read: the values at an address. -/
def win (J : Hp) (a : Option Addr) (xs : List Value) : Prop := xs = [] ∨ ∃ b o cs e fr, a = some ⟨b, o, none⟩ ∧ J b = some (.cells cs e fr) ∧ ∀ (j : Nat) (v : Value), xs[j]? = some v → cs[o + j]? = some v
theorem win.cell {a : Option Addr} {xs : List Value} (h : win (hp w) a xs) : ∀ b o, a = some ⟨b, o, none⟩ → ∀ j v, xs[j]? = some v → w.cell? ⟨b, o + j, none⟩ = some v := by
  intro b o ha j v hj
  rcases h with rfl | ⟨b', o', cs, e, fr, ha', hb, hv⟩
  · simp at hj
  · rw [ha] at ha'; cases ha'
    exact cell_of hb (hv j v hj)

/-- append: what is appended can be read; the slice owns what it has, and then the longer row. -/
theorem append_sl (h : sat E w H) {t ty e sz m : Nat} {z : Value} [i : SliceT P t e sz m z] {cs : Array Bool} {v : Value} {n : Nat} {xs : List Value} [hs : OwnS H v e sz n xs R]
    {a : Option Addr} {k' c : Nat} (news : List Value) (hl : news.length = k' * sz) (hw : win (hp w) a news) (h1 : ∀ x ∈ news, x.oneCell' = true) (hb : (n + k') * m ≤ 140737488355328) (hm : n + k' ≤ 9223372036854775807)
    (k : ∀ v' w', sat E w' (osl e sz v' (n + k') (xs ++ news) * R) → K v' w') : ef P (oBi .append #[t, t] ty cs #[v, .slice a k' c]) w K := by
  obtain ⟨y, hy, hy1, hy2, hy3⟩ := i.parts
  have hs' := h.perm hs.eq
  have hz := i.zs
  have hsz := i.pos
  have ef_bi : ∀ {v' w'}, (Builtin.append_ #[t, t] ty #[v, .slice a k' c]).run P w = .ok v' w' → K v' w' → ef P (oBi .append #[t, t] ty cs #[v, .slice a k' c]) w K := fun hr hk =>
    ef_of (by simp [oBi, builtin, hr]) hk
  have grow : ∀ (sCap : Nat) (zs : List Value) (X : HP), sat E w X → zs = xs → n * sz = xs.length → sCap < n + k' → sat E (w.drew.alloc (.cells (xs.toArray ++ news.toArray ++ Builtin.zeroCells z.cells (grownCap w (n + k') sCap e - (n + k'))) e)) (osl e sz (.slice (some ⟨w.heap.size, 0, none⟩) (n + k') (grownCap w (n + k') sCap e)) (n + k') (xs ++ news) * X) := by
    intro sCap zs X hX _ hxl hlt
    have hge := grownCap_ge w (n + k') sCap e
    have hle := grownCap_le_maxLen w (n + k') sCap e (by simp only [maxLen]; omega)
    refine sat_osl.2 (.inr ⟨w.heap.size, _, (Builtin.zeroCells z.cells (grownCap w (n + k') sCap e - (n + k'))).toList, rfl, by rw [List.length_append, ← hxl, hl, Nat.add_mul], ?_, hge, by simp only [maxLen] at hle; omega, ?_⟩)
    · rw [List.length_append, List.length_append, ← hxl, hl, Array.length_toList, size_zeroCells, hz, ← Nat.add_mul, ← Nat.add_mul]
      congr 1
      omega
    · have := hX.drew.alloc (.cells (xs.toArray ++ news.toArray ++ Builtin.zeroCells z.cells (grownCap w (n + k') sCap e - (n + k'))) e (0, 0))
      have e1 : ((xs ++ news) ++ (Builtin.zeroCells z.cells (grownCap w (n + k') sCap e - (n + k'))).toList).toArray = xs.toArray ++ news.toArray ++ Builtin.zeroCells z.cells (grownCap w (n + k') sCap e - (n + k')) := by
        apply Array.ext'; simp
      rw [e1]; exact this
  rcases sat_osl.1 hs' with ⟨rfl, rfl, rfl, hR⟩ | ⟨b, cap, sp, rfl, hxl, hcl, hnc, hcm, hP⟩
  · by_cases hk0 : k' = 0
    · subst hk0
      have hn : news = [] := List.eq_nil_of_length_eq_zero (by simpa using hl)
      subst hn
      refine ef_bi (v' := .slice none 0 0) (w' := w) ?_ (k _ _ (by simpa using osl_nil hR e sz))
      cases a <;> simp [Builtin.append_, run_underlying' i.ul, Go.sizeOf, typeInfo, hy, Builtin.lenOf, Builtin.firstCells, loadCells, loadCellsFrom]
    · rcases hw with rfl | ⟨b, o, cs', e', fr, rfl, hb', hv⟩
      · exfalso; have h0 : k' * sz = 0 := by simpa using hl.symm
        rcases Nat.mul_eq_zero.1 h0 with h' | h' <;> omega
      · have hr := run_append_nil (P := P) w t ty e y z i.ul hy hy1 ⟨b, o, none⟩ k' c news (by rw [hy2]; exact hl) (fun j v hj => by rw [add_addr]; exact cell_of hb' (hv j v hj)) (by omega) (by omega) (by rw [hy3]; simp only [Nat.zero_add] at hb; omega)
        refine ef_bi hr (k _ _ ?_)
        have := grow 0 [] R hR rfl (by simp) (by omega)
        simpa using this
  · have hsame : ∀ {w'}, sat E w' (osl e sz (.slice (some ⟨b, 0, none⟩) (n + k') cap) (n + k') (xs ++ news) * R) → sat E w' (osl e sz (.slice (some ⟨b, 0, none⟩) (n + k') cap) (n + k') (xs ++ news) * R) := fun h => h
    by_cases hk0 : k' = 0
    · subst hk0
      have hn : news = [] := List.eq_nil_of_length_eq_zero (by simpa using hl)
      subst hn
      refine ef_bi (v' := .slice (some ⟨b, 0, none⟩) (n + 0) cap) (w' := w) ?_ (k _ _ ?_)
      · have hst : ∀ (ad : Addr), (storeCells ad ([] : List Value) 0).run P w = .ok () w := fun ad => rfl
        cases a <;> simp [Builtin.append_, run_underlying' i.ul, Go.sizeOf, typeInfo, hy, Builtin.lenOf, Builtin.firstCells, loadCells, loadCellsFrom, hnc, hst]
      · simpa using hs'
    · rcases hw with rfl | ⟨b2, o2, cs2, e2, fr2, rfl, hb2, hv2⟩
      · exfalso; have h0 : k' * sz = 0 := by simpa using hl.symm
        rcases Nat.mul_eq_zero.1 h0 with h' | h' <;> omega
      · have hbl := hP.pts_get
        by_cases hroom : n + k' ≤ cap
        · have hfit : n * y.size + news.length ≤ (xs ++ sp).toArray.size := by
            rw [hy2, hl, ← Nat.add_mul]; simp only [List.size_toArray]; rw [hcl]; exact Nat.mul_le_mul_right _ hroom
          have hr := run_append_room (P := P) w t ty e y i.ul hy b n cap (xs ++ sp).toArray hbl ⟨b2, o2, none⟩ k' c news (by rw [hy2]; exact hl) (fun j v hj => by rw [add_addr]; exact cell_of hb2 (hv2 j v hj)) h1 hroom hfit
          rw [setRow_putObj hbl] at hr
          refine ef_bi hr (k _ _ (sat_osl.2 (.inr ⟨b, cap, sp.drop news.length, rfl, by rw [List.length_append, hxl, hl, Nat.add_mul], ?_, hroom, hcm, ?_⟩)))
          · rw [List.length_append] at hcl
            simp only [List.length_append, List.length_drop]
            have : (n + k') * sz ≤ cap * sz := Nat.mul_le_mul_right _ hroom
            rw [Nat.add_mul] at this
            omega
          · have e1 : ((xs ++ sp).toArray.toList.take (n * y.size) ++ news ++ (xs ++ sp).toArray.toList.drop (n * y.size + news.length)) = xs ++ news ++ sp.drop news.length := by
              rw [hy2, ← hxl]
              simp [List.take_left', List.drop_append]
            rw [e1]
            exact hP.set _
        · have holds : ∀ j u, xs[j]? = some u → w.cell? ((⟨b, 0, none⟩ : Addr).add j) = some u := fun j u hj => by
            rw [add_addr]; exact cell_of hbl (by
              have hlt := (List.getElem?_eq_some_iff.1 hj).1
              simpa [List.getElem?_append_left hlt] using hj)
          have hr := run_append_grow (P := P) w t ty e y z i.ul hy hy1 ⟨b, 0, none⟩ n cap xs (by rw [hy2]; exact hxl) holds ⟨b2, o2, none⟩ k' c news (by rw [hy2]; exact hl) (fun j v hj => by rw [add_addr]; exact cell_of hb2 (hv2 j v hj)) (by omega) (by omega) (growslice_fits (by omega) (by rw [hy3]; exact hb))
          exact ef_bi hr (k _ _ (grow cap xs R hP.drop rfl hxl.symm (by omega)))
end
end Hold
