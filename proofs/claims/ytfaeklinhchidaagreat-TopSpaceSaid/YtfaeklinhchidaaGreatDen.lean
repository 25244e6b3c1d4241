/-
  What a function's code asks of the world, as a plain proposition without slots ('den'), and that it suffices ('den_calls').
-/
import Derived.Test.YtfaeklinhchidaaGreatHp
import Derived.OrdersIn
import Derived.TacticsIn
import Derived.RangeFuncRecord
set_option linter.all false
namespace Hold
open Go

/-- What is known of the slots: their number, their values. -/
structure Ev where
  n : Nat
  f : Nat → Option Value
  d : List Nat
def evOf (ev : Ev) : Operand → Option Value
  | .tmp t => ev.f t
  | .const v => some v
  | .global g => some (.pointer (some ⟨g, 0, none⟩))
  | .func f => some (.func (.func f) #[] #[])
def rho (ev : Ev) (x : Operand) : Value := (evOf ev x).getD undef
def known (ev : Ev) (o : Op) : Bool := o.operands.toList.all fun x => (evOf ev x).isSome
def setE (ev : Ev) (d : Nat) (v : Value) : Ev := ⟨ev.n, fun i => cond (Nat.beq i d) (cond (Nat.blt d ev.n) (some v) none) (ev.f i), ev.d⟩
def putE (ev : Ev) (d : Option Tmp) (v : Value) : Ev :=
  match d with
  | some d => setE ev d v
  | none => ev

/-! ### The words -/
/-- An operation that yields in whatever world. -/
def pv (P : Program) (s : Sem Next) (w : World) (K : Value → World → Prop) : Prop := ∃ v, (∀ w, s.run P w = .ok (.value v) w) ∧ K v w
/-- An operation that only reads. -/
def ld (P : Program) (s : Sem Next) (w : World) (K : Value → World → Prop) : Prop := ∃ v, s.run P w = .ok (.value v) w ∧ K v w
/-- The end of a call: what it hands back. -/
def Ret (K : Value → World → Prop) (e : Ending) (w : World) : Prop := ∃ v, e = .returned v ∧ K v w
/-- What comes of a step. -/
def upon (P : Program) (K : Value → World → Prop) : Result Next → Prop
  | .ok (.value v) w' => K v w'
  | .ok .skip w' => K undef w'
  | .ok (.enter f args) w' => Calls P f args w' (Ret K)
  | .ok (.row row args) w' => Rows P row args w' K
  | .ok (.round l f tmps assign body) w' => RoundIn Fence.wide 0 P l f tmps assign body w' (Ret K)
  | _ => False
/-- A call of a function value. -/
def oCall (f : Value) (args : Array Value) : Sem Next := do let d ← Deferred.ofValue f args; invoke d.target d.args
/-- An operation that may do anything. -/
def ef (P : Program) (s : Sem Next) (w : World) (K : Value → World → Prop) : Prop := upon P K (s.run P w)

abbrev Gd := Option (Value × Bool)
def wantedG : Gd → Prop
  | none => True
  | some (g, want) => g = .bool want
/-- A step that hangs on a test (a record, so that no look at two of them unfolds it). -/
structure Gate (x : Value × Bool) (yes : (Value → World → Prop) → Prop) (w : World) (K : Value → World → Prop) : Prop where
  out : match x with
    | (.bool b, want) => if b = want then yes K else K undef w
    | (_, _) => K undef w
/-- These only let 'gate' stand above the words in the order in which the kernel unfolds: else its look at a body takes a word apart (and what follows it, many times over) ahead of the gate that hides the same word. -/
def tall1 (P : Program) (s : Sem Next) (w : World) (K : Value → World → Prop) : Prop := ef P s w K
def tall2 (P : Program) (s : Sem Next) (w : World) (K : Value → World → Prop) : Prop := tall1 P s w K
def tall3 (P : Program) (s : Sem Next) (w : World) (K : Value → World → Prop) : Prop := tall2 P s w K
def tall4 (P : Program) (s : Sem Next) (w : World) (K : Value → World → Prop) : Prop := tall3 P s w K
def tall5 (P : Program) (s : Sem Next) (w : World) (K : Value → World → Prop) : Prop := tall4 P s w K
def tall6 (P : Program) (s : Sem Next) (w : World) (K : Value → World → Prop) : Prop := tall5 P s w K
def gate (g : Gd) (yes : (Value → World → Prop) → Prop) (w : World) (K : Value → World → Prop) : Prop :=
  match g with
  | none => (fun (_ : Program → Sem Next → World → (Value → World → Prop) → Prop) => yes K) tall6
  | some x => Gate x yes w K
def guardOf (ops : Array Oper) (ev : Ev) (o : Oper) : Option Gd :=
  match o.guard with
  | none => some none
  | some (j, want) =>
    match (ops[j]?).bind (·.dst) with
    | some t => (match ev.f t with | some v => some (some (v, want)) | none => none)
    | none => none

inductive Kind where
  | pure | load | eff | bad
  deriving DecidableEq
def isRef (P : Program) (t : TypeId) : Bool := match P.underlying t with | some (.map ..) => true | some (.chan ..) => true | _ => false
def kindOf (P : Program) : Op → Kind
  | .move _ | .assign _ | .pick .. | .build .. | .nilCheck _ | .binOp .. | .unOp .. | .makeInterface .. | .makeFunc .. | .slice .. | .fieldAddr .. | .field .. | .indexAddr .. | .index .. | .extract .. => .pure
  | .convert s d _ => (match P.underlying s, P.underlying d with | some (.int _), some _ => .pure | some .string, some .string => .pure | _, _ => .eff)
  | .call { callee := .builtin b, argTypes, .. } => (match b with
    | .len | .cap => if isRef P (argTypes.getD 0 0) then .load else .pure
    | .min | .max => .pure
    | _ => .eff)
  | .load .. | .lookup .. => .load
  | .select .. | .go .. | .defer .. | .send .. | .recv .. => .bad
  | _ => .eff

def step (P : Program) (k : Kind) (s : Sem Next) (w : World) (K : Value → World → Prop) : Prop :=
  match k with
  | .pure => pv P s w K
  | .load => ld P s w K
  | .eff => ef P s w K
  | .bad => False

/-- A test whose outcome is reckoned: an abbreviation, so that the kernel opens it ahead of every word ('ite' it would open last). -/
abbrev whenB (b : Bool) (A B : Prop) : Prop := match b with | true => A | false => B
theorem whenB_if {b : Bool} {A B : Prop} : whenB b A B = (if b then A else B) := by cases b <;> simp
/-- One operation. -/
def denOp (P : Program) (ev : Ev) (o : Oper) (w : World) (K : Value → World → Prop) : Prop :=
  match o.op with
  | .move x | .assign x => (match evOf ev x with | some v => K v w | none => False)
  | op => whenB (known ev op) (step P (kindOf P op) (execOp (rho ev) o) w K) False

/-- The operations of a region in the order of the text. -/
def denOps (P : Program) (ops : Array Oper) : List Oper → Ev → World → (Ev → World → Prop) → Prop
  | [], ev, w, K => K ev w
  | o :: rest, ev, w, K =>
    match guardOf ops ev o with
    | none => False
    | some g => gate g (fun K' => denOp P ev o w K') w fun v w' => denOps P ops rest (putE ev o.dst v) w' K

/-- A read that was made ahead of others. -/
structure Held where
  i : Nat
  g : Gd
  s : Sem Next
  v : Value

def depends (ops : Array Oper) (j i : Nat) : Bool :=
  match ops[j]? with
  | some o => o.after.any fun e => Region.binds .any e && e.on == i
  | none => true

/-- Does it depend on another one, through some others? -/
def reach (ops : Array Oper) : Nat → Nat → Nat → Bool
  | 0, _, _ => false
  | n + 1, j, i => match ops[j]? with
    | some o => o.after.any fun e => Region.binds .any e && (e.on == i || reach ops n e.on i)
    | none => false
/-- T: the way through others counts, too. -/
def dep (T : Bool) (ops : Array Oper) (j i : Nat) : Bool := depends ops j i || (T && reach ops 4 j i)
/-- The reads that were made ahead are what they were. -/
def stay (P : Program) (g : Gd) (s : Sem Next) (v : Value) (w : World) (A : Prop) : Prop := (wantedG g → s.run P w = .ok (.value v) w) ∧ A
def stays (P : Program) (ops : Array Oper) (T : Bool) (j : Nat) (w : World) : List Held → Prop → Prop
  | [], A => A
  | x :: L, A => whenB (dep T ops j x.i) (stays P ops T j w L A) (stay P x.g x.s x.v w (stays P ops T j w L A))

/-! An order of a region's operations, given; and the look whether it serves. -/
structure OpInfo where
  deps : Nat
  reads : Nat
  dst : Nat
  k : Kind
  sel : Bool

/-- A step, named once. -/
def bindS (s : Sem Next) (k : Sem Next → Prop) : Prop := k s
/-- An operation of a part of a region whose order is free: its place, its kind, its slot, what it looks at (places in the part, with their slots). -/
structure ParOp where
  i : Nat
  k : Kind
  dst : Option Nat
  needs : List (Nat × Option Nat)
inductive Item where
  | op (i : Nat) (k : Kind)
  | par (R : List ParOp)
/-- A part whose order is free: an assertion for every state of it. -/
def par (n : Nat) (w : World) (A : (List (Option Value) → World → Prop) → Prop) : Prop := ∃ J, J (List.replicate n none) w ∧ A J
def un (σ : List (Option Value)) (k : Nat) (A : Prop) : Prop := σ[k]? = some none → A
def is (σ : List (Option Value)) (p : Nat) (f : Value → Prop) : Prop := ∀ v, σ[p]? = some (some v) → f v
def setO (ev : Ev) (d : Option Nat) (v : Value) : Ev := match d with | some d => setE ev d v | none => ev
def lamP : List (Nat × Option Nat) → List (Option Value) → Ev → (Ev → Prop) → Prop
  | [], _, ev, f => f ev
  | (p, s) :: r, σ, ev, f => is σ p fun v => lamP r σ (setO ev s v) f
def finals : Nat → List ParOp → List (Nat × Option Nat)
  | _, [] => []
  | k, x :: r => (k, x.dst) :: finals (k + 1) r
def optBits (d : Option Nat) : Nat := match d with | some d => 1 <<< d | none => 0
def parDst (R : List ParOp) : Nat := R.foldr (fun x s => optBits x.dst ||| s) 0
def clear (m : Nat) (ev : Ev) : Ev := ⟨ev.n, fun i => cond (m.testBit i) none (ev.f i), ev.d⟩
/-- What one operation of the part asks, in whatever state it is ready. -/
def parOp (P : Program) (ops : Array Oper) (T : Bool) (L : List Held) (ev : Ev) (J : List (Option Value) → World → Prop) (k : Nat) (x : ParOp) : Prop :=
  ∀ (σ : List (Option Value)) (w : World), J σ w → un σ k (lamP x.needs σ ev fun ev =>
    match ops[x.i]? with
    | none => False
    | some o =>
      match guardOf ops ev o with
      | none => False
      | some g =>
        match x.k with
        | .eff => gate g (fun K' => denOp P ev o w fun v w' => stays P ops T x.i w' L (K' v w')) w fun v w' => J (σ.set k (some v)) w'
        | _ => gate g (fun K' => denOp P ev o w K') w fun v w' => J (σ.set k (some v)) w')
def parAll (P : Program) (ops : Array Oper) (T : Bool) (L : List Held) (ev : Ev) (J : List (Option Value) → World → Prop) : Nat → List ParOp → Prop → Prop
  | _, [], F => F
  | k, x :: r, F => parOp P ops T L ev J k x ∧ parAll P ops T L ev J (k + 1) r F
/-- The operations of a region whose order is open, in the order given: what makes the other orders alike. -/
def denDraw (P : Program) (ops : Array Oper) (T : Bool) : List Item → List Held → Ev → World → (Ev → World → Prop) → Prop
  | [], _, ev, w, K => K ev w
  | .op i k :: rest, L, ev, w, K =>
      match ops[i]? with
      | none => False
      | some o =>
        match guardOf ops ev o with
        | none => False
        | some g =>
          match k with
          | .pure => gate g (fun K' => denOp P ev o w K') w fun v w' => denDraw P ops T rest L (putE ev o.dst v) w' K
          | .load => bindS (execOp (rho ev) o) fun s => gate g (fun K' => denOp P ev o w K') w fun v w' =>
              denDraw P ops T rest (⟨i, g, s, v⟩ :: L) (putE ev o.dst v) w' K
          | _ => gate g (fun K' => denOp P ev o w fun v w' => stays P ops T i w' L (K' v w')) w fun v w' =>
              denDraw P ops T rest L (putE ev o.dst v) w' K
  | .par R :: rest, L, ev, w, K =>
      par R.length w fun J => parAll P ops T L (clear (parDst R) ev) J 0 R (∀ (σ : List (Option Value)) (w : World), J σ w → lamP (finals 0 R) σ (clear (parDst R) ev) fun ev => denDraw P ops T rest L ev w K)

/-! ### Which slots are written -/
def bit (n : Nat) : Nat := 1 <<< n
def opndBits (x : Operand) : Nat := match x with | .tmp t => bit t | _ => 0
def opBits (ops : Array Oper) (o : Oper) : Nat :=
  (o.op.operands.toList.foldl (fun s x => s ||| opndBits x) 0) |||
  (match o.guard with | some (j, _) => (match (ops[j]?).bind (·.dst) with | some t => bit t | none => 0) | none => 0)
def dstBits (o : Oper) : Nat := match o.dst with | some d => bit d | none => 0
def minus (a b : Nat) : Nat := a ^^^ (a &&& b)
def modsOps (l : List Oper) : Nat := l.foldl (fun s o => s ||| dstBits o) 0

def mods : Code → Nat
  | .region _ ops _ => modsOps ops.toList
  | .seq a b => mods a ||| mods b
  | .cond _ a b => mods a ||| mods b
  | .block _ b => mods b
  | .loop b => mods b
  | .scope b => mods b
  | _ => 0
/-- Does it range over a function? -/
def ranges : Code → Bool
  | .seq a b => ranges a || ranges b
  | .cond _ a b => ranges a || ranges b
  | .block _ b => ranges b
  | .loop b => ranges b
  | .scope b => ranges b
  | .rangeFunc .. => true
  | _ => false

def eraseE (m : Nat) (ev : Ev) : Ev := ⟨ev.n, fun i => cond (m.testBit i) none (ev.f i), ev.d⟩
def getAll (ev : Ev) : List Nat → Option (List Value)
  | [] => some []
  | m :: M => match ev.f m with
    | some v => (getAll ev M).map (v :: ·)
    | none => none
def getK (ev : Ev) (M : List Nat) (f : List Value → Prop) : Prop := match getAll ev M with | some σ => f σ | none => False
def pop (σ : List Value) (f : Value → List Value → Prop) : Prop := match σ with | v :: r => f v r | [] => False
def fin (σ : List Value) (A : Prop) : Prop := match σ with | [] => A | _ => False
def lam : List Nat → List Value → Ev → (Ev → Prop) → Prop
  | [], σ, ev, f => fin σ (f ev)
  | m :: M, σ, ev, f => pop σ fun v σ => lam M σ (setE ev m v) f

/-- Ways that meet again: what stands behind them, once. -/
def jn (rest : List Value → World → Prop) (body : (List Value → World → Prop) → Prop) : Prop := body rest
/-- A loop: what holds at every round's head, and a measure that falls. -/
def lp (body : List Value → World → (List Value → World → Prop) → Prop) (σ : List Value) (w : World) : Prop :=
  ∃ (I : List Value → World → Prop) (μ : List Value → World → Nat), I σ w ∧ ∀ σ w, I σ w → body σ w fun σ' w' => I σ' w' ∧ μ σ' w' < μ σ w
/-- A test. -/
def cd (c : Value) (A B : Prop) : Prop := match c with | .bool b => (b = true → A) ∧ (b = false → B) | _ => False
/-- A draw of an order. -/
def dr (w : World) (K : World → Prop) : Prop := K w.drew

/-- What a program has reckoned of a piece of code: the order of a drawn region; where ways meet again, the slots that are written and the slots that live. -/
inductive Ann where
  | none
  | draw (order : List Item)
  | drawT (order : List Item)
  | seq (a b : Ann)
  | meet (m : Nat) (M : List Nat) (a b : Ann)
  | loop (m : Nat) (M : List Nat) (b : Ann)
  | block (b : Ann)
  | range (a b : Ann)

/-- A range over a function: its record (ready, busy, done, exhausted; what jump a round has left by); its rounds; the one call. -/
def rng (P : Program) (n : Nat) (g : Value) (rd : List Value → World → (World → (World → Prop) → Prop) → (Exit → World → Prop) → Prop) (w : World) (Q : Option Code → Nat → World → Prop) : Prop :=
  ∀ rec : LoopState → Option Code → Obj, (∀ st p, ∃ r, rec st p = .loop r) →
    (∀ (σ : List Value) (W : World) (K : Value → World → Prop), σ.length = n → W.heap[w.heap.size + 1]? = some (rec .ready none) →
      rd σ W (fun W' k => W'.heap[w.heap.size + 1]? = some (rec .ready none) ∧ k (W'.putObj (w.heap.size + 1) (rec .busy none)))
        (fun e W' => W'.heap[w.heap.size + 1]? = some (rec .busy none) ∧
          match e with
          | .normal => K (.bool true) (W'.putObj (w.heap.size + 1) (rec .ready none))
          | .ret => K (.bool false) (W'.putObj (w.heap.size + 1) (rec .done (some .ret)))
          | .exit id => K (.bool false) (W'.putObj (w.heap.size + 1) (rec .done (some (.exit id))))
          | _ => False) →
      ef P (oCall (.func (.yield (w.heap.size + 1)) #[] #[]) σ.toArray) W K) →
    ∃ f args, (oCall g #[.func (.yield (w.heap.size + 1)) #[] #[]]).run P ((w.alloc (.deferred (some []))).alloc (rec .ready none)) = .ok (.enter f args) ((w.alloc (.deferred (some []))).alloc (rec .ready none)) ∧
      Calls P f args ((w.alloc (.deferred (some []))).alloc (rec .ready none)) (Ret fun _ W =>
        ∃ st p, W.heap[w.heap.size + 1]? = some (rec st p) ∧ st ≠ .busy ∧ Q p w.heap.size (W.putObj (w.heap.size + 1) (rec .exhausted p)))
/-- What follows the call: on, or the jump that a round has left by. -/
def jump (n rt : Prop) (xs : List (Nat × Prop)) : Option Code → Prop
  | none => n
  | some .ret => rt
  | some (.exit id) => jumpX id xs
  | _ => False
  where
  jumpX (id : Nat) : List (Nat × Prop) → Prop
    | [] => False
    | (k, A) :: r => match Nat.beq k id with | true => A | false => jumpX id r
/-- The exits that leave a piece of code. -/
def freeX : List Nat → Code → List Nat
  | bs, .seq a b => freeX bs a ++ freeX bs b
  | bs, .cond _ a b => freeX bs a ++ freeX bs b
  | bs, .block id b => freeX (id :: bs) b
  | bs, .loop b => freeX bs b
  | bs, .scope b => freeX bs b
  | bs, .rangeFunc _ _ a b => freeX bs a ++ freeX bs b
  | bs, .exit k => if bs.any (Nat.beq k) then [] else [k]
  | _, _ => []

def den (P : Program) : Bool → Code → Ann → Ev → World → (Exit → Ev → World → Prop) → Prop
  | _, .skip, _, ev, w, Q => Q .normal ev w
  | _, .label _, _, ev, w, Q => Q .normal ev w
  | _, .ret, _, ev, w, Q => Q .ret ev w
  | _, .exit id, _, ev, w, Q => Q (.exit id) ev w
  | _, .region _ ops false, _, ev, w, Q => denOps P ops ops.toList ev w fun ev w => Q .normal ev w
  | _, .region _ ops true, .draw order, ev, w, Q => dr w fun w => denDraw P ops false order [] ev w fun ev w => Q .normal ev w
  | _, .region _ ops true, .drawT order, ev, w, Q => dr w fun w => denDraw P ops true order [] ev w fun ev w => Q .normal ev w
  | tp, .seq a b, .meet m M s t, ev, w, Q =>
      jn (fun σ w' => lam M σ (eraseE m ev) fun ev' => den P tp b t ev' w' Q)
        fun k => den P tp a s ev w fun e ev' w' => match e with | .normal => getK ev' M fun σ => k σ w' | e => Q e ev' w'
  | tp, .seq a b, .seq s t, ev, w, Q => den P tp a s ev w fun e ev' w' => match e with | .normal => den P tp b t ev' w' Q | e => Q e ev' w'
  | tp, .cond c a b, .seq s t, ev, w, Q =>
    match evOf ev c with
    | some v => cd v (den P tp a s ev w Q) (den P tp b t ev w Q)
    | none => False
  | tp, .block id b, .block t, ev, w, Q => den P tp b t ev w fun e ev' w' => match e with | .exit k => whenB (Nat.beq k id) (Q .normal ev' w') (Q (.exit k) ev' w') | e => Q e ev' w'
  | tp, .loop b, .loop m M t, ev, w, Q =>
    whenB (M.all (fun i => Nat.blt i ev.n)) (getK ev M fun σ => lp (fun σ w again => lam M σ (eraseE m ev) fun ev => den P tp b t ev w fun e ev' w' => match e with | .normal => getK ev' M fun σ' => again σ' w' | e => Q e ev' w') σ w) False
  | true, .rangeFunc g ps x y, .range s t, ev, w, Q =>
    match evOf ev g with
    | some gv => rng P ps.size gv (fun σ w bg ex => lam ps.toList σ ⟨ev.n, ev.f, []⟩ fun ev => den P false x s ev w fun e ev' w' =>
        match e with | .normal => bg w' fun w' => den P false y t ev' w' fun e _ w' => ex e w' | _ => False) w
        fun p D w' => jump (Q .normal ⟨ev.n, ev.f, D :: ev.d⟩ w') (Q .ret ⟨ev.n, ev.f, D :: ev.d⟩ w') ((freeX [] y).map fun id => (id, Q (.exit id) ⟨ev.n, ev.f, D :: ev.d⟩ w')) p
    | none => False
  | _, _, _, _, _, _ => False

/-! The look at an annotation. -/
def depsOf (o : Oper) : Nat := o.after.toList.foldl (fun s e => if Region.binds .any e then s ||| bit e.on else s) 0
def infoOf (P : Program) (ops : Array Oper) (o : Oper) : OpInfo := ⟨depsOf o, opBits ops o, dstBits o, kindOf P o.op, match o.op with | .select .. => true | .defer .. => true | _ => false⟩
def apartI (x y : OpInfo) : Bool := Nat.beq (x.dst &&& y.reads) 0 && Nat.beq (x.dst &&& y.dst) 0 && Nat.beq (y.dst &&& x.reads) 0
def apartAll : Nat → List OpInfo → Bool
  | _, [] => true
  | i, x :: r => go i x (i + 1) r && apartAll (i + 1) r
  where
  go (i : Nat) (x : OpInfo) : Nat → List OpInfo → Bool
    | _, [] => true
    | j, y :: r => (y.deps.testBit i || x.deps.testBit j || apartI x y) && go i x (j + 1) r
/-- Is none but i ready? -/
def onlyReady (i : Nat) (listed : Nat) : Nat → List OpInfo → Bool
  | _, [] => true
  | j, y :: r => (Nat.beq j i || listed.testBit j || !(Nat.beq (minus y.deps listed) 0)) && onlyReady i listed (j + 1) r
def allListed (listed : Nat) : Nat → Bool
  | 0 => true
  | n + 1 => listed.testBit n && allListed listed n
/-- The part's operations, one behind the other: each is new, hangs on what is listed alone, and has a slot of its own. -/
def chkPar (l : List OpInfo) (whole : List ParOp) : Nat → Nat → List ParOp → Bool
  | _, _, [] => true
  | listed, slots, x :: r =>
    (match l[x.i]? with
     | none => false
     | some y => !listed.testBit x.i && Nat.beq (minus y.deps listed) 0 && y.k == x.k && (match x.k with | .bad => false | _ => true) && Nat.beq (optBits x.dst) y.dst && Nat.beq (optBits x.dst &&& slots) 0 &&
        x.needs.all (fun q => match whole[q.1]? with | some z => y.deps.testBit z.i && (match q.2, z.dst with | some a, some b => Nat.beq a b | none, _ => true | _, _ => false) | none => false)) &&
      chkPar l whole (listed ||| (1 <<< x.i)) (slots ||| optBits x.dst) r
def parBits (R : List ParOp) : Nat := R.foldr (fun x s => (1 <<< x.i) ||| s) 0
/-- All of the part that is done when these are. -/
def below (l : List OpInfo) (R : List ParOp) (s : Nat) : Nat := R.foldr (fun x s => match l[x.i]? with | some y => cond (s.testBit x.i) (s ||| y.deps) s | none => s) s
/-- None but the part's is ready till all of the part is done. -/
def chkRest (l : List OpInfo) (R : List ParOp) (listed : Nat) : Nat → List OpInfo → Bool
  | _, [] => true
  | j, y :: r => (listed.testBit j || (parBits R).testBit j || !(Nat.beq (minus y.deps (listed ||| parBits R)) 0) || Nat.beq (minus (parBits R) (below l R y.deps)) 0) && chkRest l R listed (j + 1) r
def chkOrder (l : List OpInfo) (n : Nat) : Nat → List Item → Bool
  | listed, [] => allListed listed n
  | listed, .op i k :: r =>
    (match l[i]? with
     | none => false
     | some x => !listed.testBit i && Nat.beq (minus x.deps listed) 0 && x.k == k && (match k with | .bad => false | .eff => onlyReady i listed 0 l | _ => true)) && chkOrder l n (listed ||| bit i) r
  | listed, .par R :: r => chkPar l R listed 0 R && chkRest l R listed 0 l && chkOrder l n (listed ||| parBits R) r
def count : List Item → Nat
  | [] => 0
  | .op _ _ :: r => count r + 1
  | .par R :: r => count r + R.length
def chkDraw (P : Program) (ops : Array Oper) (order : List Item) : Bool :=
  let l := ops.toList.map (infoOf P ops)
  l.all (fun x => !x.sel) && apartAll 0 l && chkOrder l l.length 0 order && Nat.ble (count order) l.length
def incr : List Nat → Bool
  | a :: b :: r => Nat.blt a b && incr (b :: r)
  | _ => true
def chk (P : Program) : Code → Ann → Bool
  | .region _ ops true, .draw order => P.follows .mixedOrders && chkDraw P ops order
  | .region _ ops true, .drawT order => P.follows .mixedOrders && chkDraw P ops order
  | .seq a b, .meet m M s t => Nat.beq (mods a) m && M.all (fun i => m.testBit i) && chk P a s && chk P b t && !ranges a
  | .seq a b, .seq s t => chk P a s && chk P b t
  | .cond _ a b, .seq s t => chk P a s && chk P b t
  | .block _ b, .block t => chk P b t
  | .loop b, .loop m M t => Nat.beq (mods b) m && M.all (fun i => m.testBit i) && incr M && chk P b t && !ranges b
  | .rangeFunc _ _ x y, .range s t => chk P x s && chk P y t
  | .region _ _ false, _ => true
  | .skip, _ => true
  | .label _, _ => true
  | .ret, _ => true
  | .exit _, _ => true
  | _, .none => true
  | _, _ => false

/-! ### Results -/
def denRes (P : Program) : List ResultVar → Ev → World → (List Value → Prop) → Prop
  | [], _, _, K => K []
  | .tmp t :: r, ev, w, K => (match ev.f t with | some v => denRes P r ev w fun vs => K (v :: vs) | none => False)
  | .cell a t :: r, ev, w, K => (match ev.f a with
    | some x => ∃ v, (do loadVar t (← asAddr x)).run P w = .ok v w ∧ denRes P r ev w fun vs => K (v :: vs)
    | none => False)
def tupled (vs : List Value) : Value := match vs with | [v] => v | vs => .tuple vs.toArray
def startE : List Value → Nat → Option Value
  | [], _ => none
  | v :: _, 0 => some v
  | _ :: r, i + 1 => startE r i
/-- The blocks for the rounds' deferred calls are shut. -/
def und : List Nat → World → (World → Prop) → Prop
  | [], w, K => K w
  | D :: ds, w, K => w.heap[D]? = some (.deferred (some [])) ∧ und ds (w.putObj D (.deferred none)) K
/-- A function: its body, its results. -/
def denFn (P : Program) (fn : Func) (t : Ann) (args : List Value) (w : World) (K : Value → World → Prop) : Prop :=
  match fn.body with
  | some c => den P true c t ⟨args.length + (fn.ntmps - args.length), startE args, []⟩ w fun e ev w' =>
    match e with
    | .normal | .ret => und ev.d w' fun w' => denRes P fn.results.toList ev w' fun vs => K (tupled vs) w'
    | _ => False
  | none => False

/-! ### It suffices -/
section
variable {P : Program}

/-- The fence that lets everything in; in a round, or not. -/
def Wd (r : Option Nat) : Fence := { fn := fun _ => True, depth := none, alive := false, round := r }
theorem about_ok {r : Option Nat} {P : Program} {o : Oper} {w : World} {ρ : Operand → Value} : ∀ f, o.about P w ρ = some f → (Wd r).fn f := fun _ _ => trivial
theorem depth_ok {r : Option Nat} : (Wd r).depth.isSome = true → 1 ≤ 0 := fun h => by cases h
def marks (ds : List Nat) : List Deferred := ds.map fun D => { target := .collected D, args := #[] }
def Agree (bs : List Deferred) (ev : Ev) (a : Act) : Prop := ev.n ≤ a.tmps.size ∧ (∀ (i : Nat) (v : Value), ev.f i = some v → a.tmps[i]? = some v) ∧ a.defers = marks ev.d ++ bs
variable {bs : List Deferred}

theorem Agree.eval {ev : Ev} {a : Act} (h : Agree bs ev a) {x : Operand} {v : Value} (hv : evOf ev x = some v) : a.eval x = v := by
  cases x with
  | tmp t => have := h.2.1 t v hv; simp [Act.eval, this]
  | const c => simp [evOf] at hv; exact hv
  | global g => simp [evOf] at hv; exact hv
  | func f => simp [evOf] at hv; exact hv

theorem setE_f {ev : Ev} {d i : Nat} {v u : Value} (h : (setE ev d v).f i = some u) : (i = d ∧ d < ev.n ∧ u = v) ∨ (i ≠ d ∧ ev.f i = some u) := by
  simp only [setE] at h
  cases hb : Nat.beq i d with
  | true =>
    rw [hb] at h
    simp only [cond] at h
    cases hl : Nat.blt d ev.n with
    | true => rw [hl] at h; simp only [Option.some.injEq] at h; exact .inl ⟨Nat.eq_of_beq_eq_true hb, Nat.le_of_ble_eq_true hl, h.symm⟩
    | false => rw [hl] at h; cases h
  | false => rw [hb] at h; exact .inr ⟨Nat.ne_of_beq_eq_false hb, h⟩
theorem setE_ne {ev : Ev} {d i : Nat} {v : Value} (h : i ≠ d) : (setE ev d v).f i = ev.f i := by
  simp only [setE]
  have : Nat.beq i d = false := by cases hb : Nat.beq i d; rfl; exact absurd (Nat.eq_of_beq_eq_true hb) h
  rw [this]; rfl
theorem setE_eq {ev : Ev} {d : Nat} {v : Value} (h : d < ev.n) : (setE ev d v).f d = some v := by
  simp only [setE]
  rw [Nat.beq_refl, show Nat.blt d ev.n = true from Nat.ble_eq_true_of_le h]; rfl

theorem Agree.put {ev : Ev} {a : Act} (h : Agree bs ev a) (d : Option Tmp) (v : Value) : Agree bs (putE ev d v) (a.put d v) := by
  cases d with
  | none => exact h
  | some d =>
    refine ⟨by simp [putE, Act.put, setE]; exact h.1, fun i u hi => ?_, h.2.2⟩
    rcases setE_f hi with ⟨rfl, hlt, rfl⟩ | ⟨hne, hi⟩
    · have h1 := h.1
      simp [Act.put, show i < a.tmps.size by omega]
    · simp [Act.put, Array.getElem?_setIfInBounds_ne (Ne.symm hne), h.2.1 i u hi]

theorem Agree.le {ev ev' : Ev} {a : Act} (h : Agree bs ev a) (hl : ev'.n ≤ ev.n) (hv : ∀ (i : Nat) (v : Value), ev'.f i = some v → ev.f i = some v) (hd : ev'.d = ev.d) : Agree bs ev' a :=
  ⟨Nat.le_trans hl h.1, fun i v hi => h.2.1 i v (hv i v hi), by rw [hd]; exact h.2.2⟩

theorem Agree.rho {ev : Ev} {a : Act} (h : Agree bs ev a) {o : Oper} (hk : known ev o.op = true) (hs : ∀ cs b, o.op ≠ .select cs b) : execOp a.eval o = execOp (rho ev) o := by
  refine execOp_congr o hs fun x hx => ?_
  have := List.all_eq_true.1 hk x (by simpa using hx)
  obtain ⟨v, hv⟩ := Option.isSome_iff_exists.1 this
  rw [h.eval hv]; simp [Hold.rho, hv]

/-- Slots outside a set are as they were. -/
def Fr (b : Bool) (m : Nat) (ev ev' : Ev) : Prop := ev'.n = ev.n ∧ (∀ i : Nat, m.testBit i = false → ev'.f i = ev.f i) ∧ (b = false → ev'.d = ev.d)
theorem Fr.refl (b : Bool) (m : Nat) (ev : Ev) : Fr b m ev ev := ⟨rfl, fun _ _ => rfl, fun _ => rfl⟩
theorem Fr.trans {x : Bool} {m : Nat} {a b c : Ev} (h : Fr x m a b) (k : Fr x m b c) : Fr x m a c := ⟨k.1.trans h.1, fun i hi => (k.2.1 i hi).trans (h.2.1 i hi), fun hx => (k.2.2 hx).trans (h.2.2 hx)⟩
theorem Fr.mono {x : Bool} {m m' : Nat} {a b : Ev} (h : Fr x m a b) (hm : ∀ i, m'.testBit i = false → m.testBit i = false) : Fr x m' a b := ⟨h.1, fun i hi => h.2.1 i (hm i hi), h.2.2⟩
theorem testBit_bit (n i : Nat) : (bit n).testBit i = decide (n = i) := by
  unfold bit
  rw [Nat.one_shiftLeft, Nat.testBit_two_pow]
theorem Fr.put {x : Bool} {m : Nat} {ev : Ev} (o : Oper) (v : Value) (hm : ∀ i, m.testBit i = false → (dstBits o).testBit i = false) : Fr x m ev (putE ev o.dst v) := by
  cases hd : o.dst with
  | none => exact Fr.refl _ _ _
  | some d =>
    refine ⟨rfl, fun i hi => ?_, fun _ => rfl⟩
    have := hm i hi
    simp [dstBits, hd, testBit_bit] at this
    exact setE_ne (Ne.symm this)

theorem Fr.or_left {x y : Bool} {m m' : Nat} {a b : Ev} (h : Fr x m a b) : Fr (x || y) (m ||| m') a b :=
  ⟨h.1, fun i hi => h.2.1 i (by simp [Nat.testBit_or] at hi; exact hi.1), fun hx => h.2.2 (by simp at hx; exact hx.1)⟩
theorem Fr.or_right {x y : Bool} {m m' : Nat} {a b : Ev} (h : Fr y m' a b) : Fr (x || y) (m ||| m') a b :=
  ⟨h.1, fun i hi => h.2.1 i (by simp [Nat.testBit_or] at hi; exact hi.2), fun hx => h.2.2 (by simp at hx; exact hx.2)⟩

theorem foldl_or_testBit {α : Type} (f : α → Nat) (l : List α) : ∀ s i, (l.foldl (fun s o => s ||| f o) s).testBit i = false ↔ s.testBit i = false ∧ ∀ o ∈ l, (f o).testBit i = false := by
  induction l with
  | nil => intro s i; simp
  | cons x l ih =>
    intro s i
    rw [List.foldl_cons, ih]
    simp [Nat.testBit_or, and_assoc]
theorem modsOps_mem {l : List Oper} {o : Oper} (ho : o ∈ l) {i : Nat} (h : (modsOps l).testBit i = false) : (dstBits o).testBit i = false :=
  ((foldl_or_testBit dstBits l 0 i).1 h).2 o ho

/-- What 'den' says of an exit, said of the frame. -/
def lift (bs : List Deferred) (b : Bool) (m : Nat) (ev : Ev) (Q : Exit → Ev → World → Prop) (e : Exit) (a : Act) (w : World) : Prop :=
  match e with
  | .panic _ => False
  | .outgrown => False
  | e => ∃ ev', Agree bs ev' a ∧ Fr b m ev ev' ∧ Q e ev' w

theorem upon_mono {K K' : Value → World → Prop} (h : ∀ v w, K v w → K' v w) {r : Result Next} (hr : upon P K r) : upon P K' r := by
  cases r with
  | ok n w =>
    cases n <;> simp only [upon] at hr ⊢ <;> first
      | exact h _ _ hr
      | exact Calls.mono hr fun e w' ⟨v, he, hk⟩ => ⟨v, he, h _ _ hk⟩
      | exact Rows.mono hr fun v w' hk => h _ _ hk
      | exact RoundIn.mono hr fun e w' ⟨v, he, hk⟩ => ⟨v, he, h _ _ hk⟩
  | halt x w => cases x <;> exact hr

theorem upon_oper {r : Option Nat} {o : Oper} {a : Act} {next : Act → World → Prop} {Q : Exit → Act → World → Prop} {x : Result Next}
    (h : upon P (fun v w => next (a.put o.dst v) w) x) : o.uponIn (Wd r) 0 P a next Q x := by
  cases x with
  | ok n w =>
    cases n <;> simp only [upon] at h <;> try exact h.elim
    · exact h
    · exact h
    · refine ⟨depth_ok, CallsIn.mono (callsIn_wide (n := 0) |>.2 h : CallsIn (Wd r) 0 P _ _ _ _) fun e w' he => ?_⟩
      obtain ⟨v, rfl, hk⟩ := he
      exact hk
    · refine ⟨depth_ok, RoundIn.mono (h : RoundIn (Wd r) 0 P _ _ _ _ _ _ _) fun e w' he => ?_⟩
      obtain ⟨v, rfl, hk⟩ := he
      exact hk
    · refine ⟨depth_ok, ?_⟩
      intro c cs _
      obtain ⟨v, w', hk, hs⟩ := h c cs
      exact ⟨v, w', hk, stepsIn_wide.2 hs⟩
  | halt x w => exact h.elim

theorem step_oper {r : Option Nat} {k : Kind} {o : Oper} {a : Act} {w : World} {next : Act → World → Prop} {Q : Exit → Act → World → Prop} (hd : ∀ c, o.op ≠ .defer c)
    (h : step P k (execOp a.eval o) w fun v w => next (a.put o.dst v) w) : o.wpIn (Wd r) 0 P a w next Q := by
  refine ⟨about_ok, ?_⟩
  rw [Oper.semAt_eq _ _ _ hd]
  cases k with
  | pure => obtain ⟨v, hr, hk⟩ := h; rw [hr w]; exact hk
  | load => obtain ⟨v, hr, hk⟩ := h; rw [hr]; exact hk
  | eff => exact upon_oper h
  | bad => exact h.elim

theorem denOp_oper {r : Option Nat} {ev : Ev} {o : Oper} {a : Act} {w : World} {K : Value → World → Prop} {next : Act → World → Prop} {Q : Exit → Act → World → Prop}
    (h : denOp P ev o w K) (hA : Agree bs ev a) (hK : ∀ v w, K v w → next (a.put o.dst v) w) : o.wpIn (Wd r) 0 P a w next Q := by
  have gen : ∀ op, o.op = op → whenB (known ev op) (step P (kindOf P op) (execOp (rho ev) o) w K) False → o.wpIn (Wd r) 0 P a w next Q := by
    intro op he h
    rw [whenB_if] at h
    split at h
    · rename_i hk
      have hs : ∀ cs b, o.op ≠ .select cs b := fun cs b hsel => by rw [← he, hsel] at h; exact h
      have hdf : ∀ c, o.op ≠ .defer c := fun c hdf => by rw [← he, hdf] at h; exact h
      rw [← he] at hk h
      rw [← hA.rho hk hs] at h
      refine step_oper (k := kindOf P o.op) hdf ?_
      revert h
      generalize kindOf P o.op = k
      intro h
      cases k with
      | pure => obtain ⟨v, hr, hk⟩ := h; exact ⟨v, hr, hK _ _ hk⟩
      | load => obtain ⟨v, hr, hk⟩ := h; exact ⟨v, hr, hK _ _ hk⟩
      | eff => exact upon_mono (fun v w hk => hK v w hk) h
      | bad => exact h.elim
    · exact h.elim
  obtain ⟨dst, op, type, pos, after, guard⟩ := o
  have mv : ∀ x, (match evOf ev x with | some v => K v w | none => False) → K (a.eval x) w := by
    intro x h
    cases hx : evOf ev x with
    | none => rw [hx] at h; exact h.elim
    | some v => rw [hx] at h; rw [hA.eval hx]; exact h
  cases op
  case move x => refine ⟨about_ok, ?_⟩; rw [Oper.semAt_eq _ _ _ (fun c h => by cases h)]; exact hK _ _ (mv x h)
  case assign x => refine ⟨about_ok, ?_⟩; rw [Oper.semAt_eq _ _ _ (fun c h => by cases h)]; exact hK _ _ (mv x h)
  all_goals exact gen _ rfl h

theorem guard_wanted {ops : Array Oper} {ev : Ev} {a : Act} {o : Oper} {g : Gd} (hA : Agree bs ev a) (hg : guardOf ops ev o = some g) :
    Region.wanted o (yielded ops a.tmps) = true ↔ wantedG g := by
  unfold guardOf at hg
  unfold Region.wanted
  split at hg
  · rename_i h0; rw [h0]; simp only [Option.some.injEq] at hg; subst hg; simp [wantedG]
  · rename_i j want h0
    rw [h0]
    cases ht : (ops[j]?).bind (·.dst) with
    | none => rw [ht] at hg; cases hg
    | some t =>
      rw [ht] at hg
      simp only at hg
      cases hv : ev.f t with
      | none => rw [hv] at hg; cases hg
      | some v =>
      rw [hv] at hg
      simp only [Option.some.injEq] at hg
      subst hg
      have h2 := hA.2.1 t v hv
      simp only [yielded, ht, Option.bind_some, h2, wantedG]
      cases v <;> simp

theorem gate_cases {g : Gd} {yes : (Value → World → Prop) → Prop} {w : World} {K : Value → World → Prop} (h : gate g yes w K) :
    (wantedG g ∧ yes K) ∨ (¬ wantedG g ∧ K undef w) := by
  match g with
  | none => exact .inl ⟨trivial, h⟩
  | some (v, want) =>
    have h : Gate (v, want) yes w K := h
    have h := h.out
    cases v <;> first
      | (rename_i b
         simp only at h
         split at h
         · rename_i hb; exact .inl ⟨by simp [wantedG, hb], h⟩
         · rename_i hb; exact .inr ⟨by simp [wantedG, hb], h⟩)
      | exact .inr ⟨by simp [wantedG], h⟩

theorem denOps_sound {r : Option Nat} {ops : Array Oper} {Q : Exit → Act → World → Prop} {m : Nat} :
    ∀ (l : List Oper) (ev : Ev) (a : Act) (w : World) (K : Ev → World → Prop), (∀ o ∈ l, ∀ i, m.testBit i = false → (dstBits o).testBit i = false) →
      denOps P ops l ev w K → Agree bs ev a → (∀ ev' a' w', Agree bs ev' a' → Fr false m ev ev' → K ev' w' → Q .normal a' w') → wpListIn (Wd r) 0 P ops Q l a w
  | [], ev, a, w, K, _, h, hA, hQ => hQ ev a w hA (Fr.refl _ _ _) h
  | o :: l, ev, a, w, K, hm, h, hA, hQ => by
    simp only [denOps] at h
    cases hg : guardOf ops ev o with
    | none => rw [hg] at h; exact h.elim
    | some g =>
      rw [hg] at h
      have next : ∀ v w', denOps P ops l (putE ev o.dst v) w' K → wpListIn (Wd r) 0 P ops Q l (a.put o.dst v) w' := fun v w' h' =>
        denOps_sound l _ _ w' K (fun o' ho' => hm o' (List.mem_cons_of_mem _ ho')) h' (hA.put o.dst v) fun ev' a' w'' hA' hF hK =>
          hQ ev' a' w'' hA' ((Fr.put o v (hm o (List.mem_cons_self ..))).trans hF) hK
      unfold wpListIn
      rcases gate_cases h with ⟨hw, h⟩ | ⟨hw, h⟩
      · rw [if_pos ((guard_wanted hA hg).2 hw)]
        exact denOp_oper h hA next
      · rw [if_neg (fun h' => hw ((guard_wanted hA hg).1 h'))]
        exact ⟨about_ok, next undef w h⟩

/-! The order that is open -/
variable {ops : Array Oper} {Q : Exit → Act → World → Prop}

/-- A read that was made ahead. -/
structure Ahead where
  i : Nat
  w : Prop
  s : Sem Next
  v : Value

def Ahead.ok (P : Program) (x : Ahead) (w : World) : Prop := x.w → x.s.run P w = .ok (.value x.v) w
def keeps (P : Program) (ops : Array Oper) (T : Bool) (L : List Ahead) (j : Nat) (w w' : World) : Prop := ∀ x ∈ L, dep T ops j x.i = false → x.ok P w → x.ok P w'

variable {r : Option Nat} {T : Bool}
def wpAnyL (T : Bool) (r : Option Nat) (P : Program) (ops : Array Oper) (Q : Exit → Act → World → Prop) : Nat → Array Bool → List Ahead → Act → World → Prop
  | 0, listed, _, a, w => Region.ready .any ops listed = [] ∧ Q .normal a w
  | fuel + 1, listed, L, a, w =>
    (Region.ready .any ops listed = [] → Q .normal a w) ∧
    ∀ i ∈ Region.ready .any ops listed, wpOpIn (Wd r) 0 P ops Q i (fun a' w' => keeps P ops T L i w w' ∧ wpAnyL T r P ops Q fuel (listed.setIfInBounds i true) L a' w') a w

theorem wpAnyL_any : ∀ (fuel : Nat) (listed : Array Bool) (L : List Ahead) (a : Act) (w : World), wpAnyL T r P ops Q fuel listed L a w → wpAnyIn (Wd r) 0 P .any ops Q fuel listed a w
  | 0, _, _, _, _, h => h
  | _ + 1, _, _, _, _, h => ⟨h.1, fun i hi => wpOpIn_mono (fun a w h => wpAnyL_any _ _ _ a w h.2) (h.2 i hi)⟩

theorem wpAnyL_weak {L L' : List Ahead} (hk : ∀ j w w', keeps P ops T L j w w' → keeps P ops T L' j w w') :
    ∀ (fuel : Nat) (listed : Array Bool) (a : Act) (w : World), wpAnyL T r P ops Q fuel listed L a w → wpAnyL T r P ops Q fuel listed L' a w
  | 0, _, _, _, h => h
  | _ + 1, _, _, _, h => ⟨h.1, fun i hi => wpOpIn_mono (fun a w h => ⟨hk _ _ _ h.1, wpAnyL_weak hk _ _ a w h.2⟩) (h.2 i hi)⟩

/-- An operation behind another one's, in a frame that has the other's value already. -/
theorem wpOp_behind {j : Nat} {oi oj : Oper} {v : Value} (hj : ops[j]? = some oj) (hap : oi.apart ops oj = true)
    (hsi : ∀ cs b, oi.op ≠ .select cs b) (hsj : ∀ cs b, oj.op ≠ .select cs b) (hdj : ∀ c, oj.op ≠ .defer c)
    (hQ : ∀ c a w, Q (.panic c) (a.put oi.dst v) w → Q (.panic c) a w) {K : Act → World → Prop} {a : Act} {w : World}
    (h : wpOpIn (Wd r) 0 P ops Q j K (a.put oi.dst v) w) :
    wpOpIn (Wd r) 0 P ops Q j (fun a' w' => (execOp a'.eval oi = execOp a.eval oi ∧ Region.wanted oi (yielded ops a'.tmps) = Region.wanted oi (yielded ops a.tmps)) ∧ K (a'.put oi.dst v) w') a w := by
  obtain ⟨h1, h2, h3⟩ := Oper.apart_spec hap
  have keep : ∀ u, execOp (a.put oj.dst u).eval oi = execOp a.eval oi ∧ Region.wanted oi (yielded ops (a.put oj.dst u).tmps) = Region.wanted oi (yielded ops a.tmps) := fun u =>
    ⟨execOp_put oi hsi a oj.dst u h3, wanted_put oi a oj.dst u h3⟩
  have keepD : ∀ d u, execOp (({ a with defers := d :: a.defers } : Act).put oj.dst u).eval oi = execOp a.eval oi ∧ Region.wanted oi (yielded ops (({ a with defers := d :: a.defers } : Act).put oj.dst u).tmps) = Region.wanted oi (yielded ops a.tmps) := fun d u =>
    ⟨execOp_put oi hsi { a with defers := d :: a.defers } oj.dst u h3, wanted_put oi { a with defers := d :: a.defers } oj.dst u h3⟩
  unfold wpOpIn at *
  simp only [hj] at *
  rw [wanted_put oj a oi.dst v h1] at h
  split
  · rename_i hw
    simp only [hw, if_true] at h
    unfold Oper.wpIn at *
    refine ⟨about_ok, ?_⟩
    have h := h.2
    rw [Oper.semAt_eq _ _ _ hdj, execOp_put oj hsj a oi.dst v h1] at h
    rw [Oper.semAt_eq _ _ _ hdj]
    generalize (execOp a.eval oj).run P w = r at *
    cases r with
    | ok x w' =>
      cases x <;> simp only [Oper.uponIn] at h ⊢
      case value u => exact ⟨keep u, by rw [← Act.put_comm a v u h2]; exact h⟩
      case skip => exact ⟨keep _, by rw [← Act.put_comm a v undef h2]; exact h⟩
      case defer d =>
        refine ⟨keepD d _, ?_⟩
        rw [← Act.put_comm _ v undef h2, ← Act.put_defers]
        exact h
      case enter f args =>
        refine ⟨h.1, CallsIn.mono h.2 fun e w'' he => ?_⟩
        cases e with
        | returned u => exact ⟨keep u, by rw [← Act.put_comm a v u h2]; exact he⟩
        | panicked c => exact hQ _ _ _ he
        | outgrown => exact he
      case row row args => exact ⟨h.1, RowsIn.mono h.2 fun u w'' he => ⟨keep u, by rw [← Act.put_comm a v u h2]; exact he⟩⟩
      case round l f tmps assign body =>
        refine ⟨h.1, RoundIn.mono h.2 fun e w'' he => ?_⟩
        cases e with
        | returned u => exact ⟨keep u, by rw [← Act.put_comm a v u h2]; exact he⟩
        | panicked c => exact hQ _ _ _ he
        | outgrown => exact he
    | halt x w' =>
      cases x <;> simp only [Oper.uponIn] at h ⊢
      case panic u => exact hQ _ _ _ h
  · rename_i hw
    simp only [hw] at h
    exact ⟨about_ok, keep _, by rw [← Act.put_comm a v undef h2]; exact h.2⟩

/-- What an operation that only reads hands on: its value, or none where its guard is shut. -/
def Reads (P : Program) (ops : Array Oper) (o : Oper) (v : Value) (a : Act) (w : World) : Prop :=
  (Region.wanted o (yielded ops a.tmps) = true ∧ (execOp a.eval o).run P w = .ok (.value v) w) ∨ (Region.wanted o (yielded ops a.tmps) = false ∧ v = undef)

theorem Reads.wpOp {i : Nat} {o : Oper} {v : Value} {a : Act} {w : World} (hi : ops[i]? = some o) (hd : ∀ c, o.op ≠ .defer c) (hy : Reads P ops o v a w)
    {K : Act → World → Prop} (h : K (a.put o.dst v) w) : wpOpIn (Wd r) 0 P ops Q i K a w := by
  unfold Go.wpOpIn
  simp only [hi]
  rcases hy with ⟨hw, hv⟩ | ⟨hw, rfl⟩
  · simp only [hw, if_true, Oper.wpIn, Oper.semAt_eq _ _ _ hd, hv, Oper.uponIn]; exact ⟨about_ok, h⟩
  · simp only [hw, Bool.false_eq_true, if_false]; exact ⟨about_ok, h⟩

/-- What is done has been asked for by none that is not. -/
def ClosedL (ops : Array Oper) (listed : Array Bool) : Prop := ∀ k ok, ops[k]? = some ok → listed.getD k false = true → ∀ e ∈ ok.after, Region.binds .any e = true → listed.getD e.on false = true
theorem reach_listed {listed : Array Bool} (hc : ClosedL ops listed) {i : Nat} : ∀ (n j : Nat) (oj : Oper), ops[j]? = some oj → (∀ e ∈ oj.after, Region.binds .any e = true → listed.getD e.on false = true) → reach ops n j i = true → listed.getD i false = true
  | 0, _, _, _, _, h => by simp [reach] at h
  | n + 1, j, oj, hj, hd, h => by
    unfold reach at h
    rw [hj] at h
    simp only at h
    obtain ⟨e, he, hb⟩ := Array.any_eq_true'.1 h
    simp only [Bool.and_eq_true, Bool.or_eq_true, beq_iff_eq] at hb
    have hl := hd e he hb.1
    rcases hb.2 with h1 | h1
    · rw [← h1]; exact hl
    · cases hk : ops[e.on]? with
      | none =>
        cases n with
        | zero => simp [reach] at h1
        | succ n => unfold reach at h1; rw [hk] at h1; cases h1
      | some ok => exact reach_listed hc n e.on ok hk (hc e.on ok hk hl) h1
theorem wpAnyL_first {i : Nat} {oi : Oper} {v : Value} (hi : ops[i]? = some oi) (hsel : ∀ (j : Nat) (o : Oper) cs b, ops[j]? = some o → o.op ≠ .select cs b) (hdf : ∀ (j : Nat) (o : Oper) c, ops[j]? = some o → o.op ≠ .defer c)
    (hQ : ∀ c a w, Q (.panic c) (a.put oi.dst v) w → Q (.panic c) a w) (W : Prop) (s : Sem Next) :
    ∀ (fuel : Nat) (listed : Array Bool) (L : List Ahead) (a : Act) (w : World),
      (∀ j oj, ops[j]? = some oj → j ≠ i → listed.getD j true = false → (∀ e ∈ oj.after, Region.binds .any e = true → e.on ≠ i) → oi.apart ops oj = true) → ClosedL ops listed →
      i ∈ Region.ready .any ops listed → Reads P ops oi v a w → (W ↔ Region.wanted oi (yielded ops a.tmps) = true) → s = execOp a.eval oi →
      wpAnyL T r P ops Q fuel (listed.setIfInBounds i true) (⟨i, W, s, v⟩ :: L) (a.put oi.dst v) w → wpAnyL T r P ops Q (fuel + 1) listed L a w := by
  have weak : ∀ (L : List Ahead) j w w', keeps P ops T (⟨i, W, s, v⟩ :: L) j w w' → keeps P ops T L j w w' := fun L j w w' h x hx => h x (List.mem_cons_of_mem _ hx)
  intro fuel
  induction fuel with
  | zero =>
    intro listed L a w _ _ hr hy _ _ H
    refine ⟨fun h => (by rw [h] at hr; cases hr), fun j hj => ?_⟩
    by_cases hji : j = i
    · subst hji; exact hy.wpOp hi (fun c => hdf _ _ c hi) ⟨fun x _ _ h => h, H⟩
    · have := ready_mono hj hji
      rw [H.1] at this
      cases this
  | succ fuel ih =>
    intro listed L a w hfree hcl hr hy hW hs H
    refine ⟨fun h => (by rw [h] at hr; cases hr), fun j hj => ?_⟩
    by_cases hji : j = i
    · subst hji; exact hy.wpOp hi (fun c => hdf _ _ c hi) ⟨fun x _ _ h => h, wpAnyL_weak (weak L) _ _ _ _ H⟩
    · have h1 := H.2 j (ready_mono hj hji)
      obtain ⟨hjun, oj, hoj, hall⟩ := mem_ready.1 hj
      have hnot : ∀ e ∈ oj.after, Region.binds .any e = true → e.on ≠ i := fun e he hb heq => by
        have h1 := hall e he hb
        have h0 := (mem_ready.1 hr).1
        rw [heq] at h1
        rcases Nat.lt_or_ge i listed.size with h' | h'
        · simp [h'] at h0 h1; rw [h0] at h1; cases h1
        · simp [Array.getElem?_eq_none h'] at h1
      have hdep : depends ops j i = false := by
        unfold depends
        rw [hoj]
        simp only
        rw [Bool.eq_false_iff]
        intro hd
        obtain ⟨e, he, hb⟩ := Array.any_eq_true'.1 hd
        simp only [Bool.and_eq_true, beq_iff_eq] at hb
        exact hnot e he hb.1 hb.2
      have hdone : ∀ e ∈ oj.after, Region.binds .any e = true → listed.getD e.on false = true := fun e he hb => hall e he hb
      have hdep' : dep T ops j i = false := by
        unfold dep
        rw [hdep, Bool.false_or]
        cases hT : (T && reach ops 4 j i) with
        | false => rfl
        | true =>
          exfalso
          rw [Bool.and_eq_true] at hT
          have h1 := reach_listed hcl 4 j oj hoj hdone hT.2
          have h0 := (mem_ready.1 hr).1
          rcases Nat.lt_or_ge i listed.size with h' | h'
          · simp [h'] at h0 h1; rw [h0] at h1; cases h1
          · simp [Array.getElem?_eq_none h'] at h1
      have hcl' : ClosedL ops (listed.setIfInBounds j true) := fun k ok hk hl e he hb => by
        have mono : ∀ x, listed.getD x false = true → (listed.setIfInBounds j true).getD x false = true := fun x hx => by
          by_cases hjx : j = x
          · subst hjx
            rcases Nat.lt_or_ge j listed.size with h' | h'
            · simp [h']
            · simp [Array.getElem?_eq_none h'] at hx
          · rw [getD_set_ne false hjx]; exact hx
        by_cases hjk : j = k
        · subst hjk
          rw [hoj] at hk
          obtain rfl := Option.some.inj hk
          exact mono _ (hdone e he hb)
        · rw [getD_set_ne false hjk] at hl
          exact mono _ (hcl k ok hk hl e he hb)
      have h2 := wpOp_behind hoj (hfree j oj hoj hji hjun hnot) (fun cs b => hsel i oi cs b hi) (fun cs b => hsel j oj cs b hoj) (fun c => hdf j oj c hoj) hQ h1
      have hfree' : ∀ k ok, ops[k]? = some ok → k ≠ i → (listed.setIfInBounds j true).getD k true = false →
          (∀ e ∈ ok.after, Region.binds .any e = true → e.on ≠ i) → oi.apart ops ok = true := fun k ok hk hki hun hno => by
        refine hfree k ok hk hki ?_ hno
        by_cases hjk : j = k
        · subst hjk; exact hjun
        · rw [getD_set_ne true hjk] at hun; exact hun
      refine wpOpIn_mono (fun a' w' h3 => ?_) h2
      obtain ⟨⟨he, hwant⟩, hkeep, h4⟩ := h3
      refine ⟨weak L _ _ _ hkeep, ih (listed.setIfInBounds j true) L a' w' hfree' hcl' (ready_mono hr (Ne.symm hji)) ?_ (by rw [hwant]; exact hW) (by rw [he]; exact hs) ?_⟩
      · rcases hy with ⟨y1, y2⟩ | ⟨y1, y2⟩
        · refine .inl ⟨by rw [hwant]; exact y1, ?_⟩
          have := hkeep ⟨i, W, s, v⟩ (List.mem_cons_self ..) hdep' (fun _ => by rw [hs]; exact y2) (hW.2 y1)
          rw [he, ← hs]; exact this
        · exact .inr ⟨by rw [hwant]; exact y1, y2⟩
      · rw [Array.setIfInBounds_comm _ _ hji]; exact h4

def aheadOf (x : Held) : Ahead := ⟨x.i, wantedG x.g, x.s, x.v⟩

theorem stays_spec {j : Nat} {w : World} : ∀ {L : List Held} {A : Prop}, stays P ops T j w L A → A ∧ ∀ x ∈ L.map aheadOf, dep T ops j x.i = false → x.ok P w
  | [], _, h => ⟨h, fun x hx => by cases hx⟩
  | y :: L, A, h => by
    unfold stays at h
    rw [whenB_if] at h
    split at h
    · rename_i hd
      obtain ⟨hA, h⟩ := stays_spec h
      refine ⟨hA, fun x hx hdx => ?_⟩
      rcases List.mem_cons.1 hx with rfl | hx
      · rw [show (aheadOf y).i = y.i from rfl, hd] at hdx; cases hdx
      · exact h x hx hdx
    · obtain ⟨h1, h2⟩ := h
      obtain ⟨hA, h⟩ := stays_spec h2
      refine ⟨hA, fun x hx hdx => ?_⟩
      rcases List.mem_cons.1 hx with rfl | hx
      · exact h1
      · exact h x hx hdx

theorem denOp_mono {ev : Ev} {o : Oper} {w : World} {K K' : Value → World → Prop} (h : denOp P ev o w K) (hK : ∀ v w, K v w → K' v w) : denOp P ev o w K' := by
  have st : ∀ k s, step P k s w K → step P k s w K' := fun k s h => by
    cases k with
    | pure => obtain ⟨v, a, b⟩ := h; exact ⟨v, a, hK _ _ b⟩
    | load => obtain ⟨v, a, b⟩ := h; exact ⟨v, a, hK _ _ b⟩
    | eff => exact upon_mono hK h
    | bad => exact h
  unfold denOp at *
  split
  · rename_i x hx
    rw [hx] at h; simp only at h
    split <;> simp_all
  · rename_i x hx
    rw [hx] at h; simp only at h
    split <;> simp_all
  · rename_i h1 h2
    split at h
    · rename_i x hx; exact absurd hx (h1 x)
    · rename_i x hx; exact absurd hx (h2 x)
    · rw [whenB_if] at h ⊢
      split
      · rename_i hk; rw [if_pos hk] at h; exact st _ _ h
      · rename_i hk; rw [if_neg hk] at h; exact h

/-- An operation that yields, or that reads: its value, said of the frame. -/
theorem denOp_reads {ev : Ev} {o : Oper} {a : Act} {w : World} {K : Value → World → Prop} (h : denOp P ev o w K) (hA : Agree bs ev a) (hk : kindOf P o.op = .pure ∨ kindOf P o.op = .load)
    (hs : ∀ cs b, o.op ≠ .select cs b) :
    ∃ v, (execOp a.eval o).run P w = .ok (.value v) w ∧ (kindOf P o.op = .pure → ∀ w, (execOp a.eval o).run P w = .ok (.value v) w) ∧ (kindOf P o.op = .load → execOp (rho ev) o = execOp a.eval o) ∧ K v w := by
  have gen : ∀ op, o.op = op → whenB (known ev op) (step P (kindOf P op) (execOp (rho ev) o) w K) False →
      ∃ v, (execOp a.eval o).run P w = .ok (.value v) w ∧ (kindOf P o.op = .pure → ∀ w, (execOp a.eval o).run P w = .ok (.value v) w) ∧ (kindOf P o.op = .load → execOp (rho ev) o = execOp a.eval o) ∧ K v w := by
    intro op he h
    subst he
    rw [whenB_if] at h
    split at h
    · rename_i hkn
      rw [hA.rho hkn hs]
      rcases hk with hk | hk
      · rw [hk] at h; obtain ⟨v, hr, hv⟩ := h; exact ⟨v, hr w, fun _ => hr, fun _ => rfl, hv⟩
      · rw [hk] at h; obtain ⟨v, hr, hv⟩ := h; exact ⟨v, hr, (fun h' => by rw [hk] at h'; cases h'), fun _ => rfl, hv⟩
    · exact h.elim
  obtain ⟨dst, op, type, pos, after, guard⟩ := o
  have mv : ∀ x, (match evOf ev x with | some v => K v w | none => False) → K (a.eval x) w := by
    intro x h
    cases hx : evOf ev x with
    | none => rw [hx] at h; exact h.elim
    | some v => rw [hx] at h; rw [hA.eval hx]; exact h
  cases op
  case move x => exact ⟨_, rfl, fun _ _ => rfl, (fun h' => by cases h'), mv x h⟩
  case assign x => exact ⟨_, rfl, fun _ _ => rfl, (fun h' => by cases h'), mv x h⟩
  all_goals exact gen _ rfl h

/-! The look suffices -/
theorem minus_zero {a b : Nat} (h : Nat.beq (minus a b) 0 = true) (i : Nat) (ha : a.testBit i = true) : b.testBit i = true := by
  have h0 : minus a b = 0 := Nat.eq_of_beq_eq_true h
  have := congrArg (fun x => x.testBit i) h0
  simp [minus, Nat.testBit_xor, Nat.testBit_and, ha] at this
  exact this
theorem and_zero {a b : Nat} (h : Nat.beq (a &&& b) 0 = true) (i : Nat) (ha : a.testBit i = true) (hb : b.testBit i = true) : False := by
  have h0 : a &&& b = 0 := Nat.eq_of_beq_eq_true h
  have := congrArg (fun x => x.testBit i) h0
  simp [Nat.testBit_and, ha, hb] at this

theorem foldl_if_testBit {α : Type} (p : α → Bool) (f : α → Nat) (l : List α) : ∀ s i, (l.foldl (fun s o => if p o then s ||| f o else s) s).testBit i = true ↔ s.testBit i = true ∨ ∃ o ∈ l, p o = true ∧ (f o).testBit i = true := by
  induction l with
  | nil => intro s i; simp
  | cons x l ih =>
    intro s i
    rw [List.foldl_cons, ih]
    cases hp : p x <;> simp [hp, Nat.testBit_or, or_assoc]
theorem depsOf_spec (o : Oper) (i : Nat) : (depsOf o).testBit i = true ↔ ∃ e ∈ o.after.toList, Region.binds .any e = true ∧ e.on = i := by
  unfold depsOf
  rw [foldl_if_testBit (fun e => Region.binds .any e) (fun e => bit e.on)]
  simp [testBit_bit]

theorem foldl_or_true {α : Type} (f : α → Nat) (l : List α) (i : Nat) (s : Nat) (h : s.testBit i = true ∨ ∃ o ∈ l, (f o).testBit i = true) : (l.foldl (fun s o => s ||| f o) s).testBit i = true := by
  cases hb : (l.foldl (fun s o => s ||| f o) s).testBit i with
  | true => rfl
  | false =>
    obtain ⟨h1, h2⟩ := (foldl_or_testBit f l s i).1 hb
    rcases h with h | ⟨o, ho, h⟩
    · rw [h1] at h; cases h
    · rw [h2 o ho] at h; cases h

theorem looksAt_bits {ops : Array Oper} {o : Oper} {t : Nat} (h : t ∈ o.looksAt ops) : (opBits ops o).testBit t = true := by
  unfold Oper.looksAt at h
  unfold opBits
  rw [Nat.testBit_or]
  rcases List.mem_append.1 h with h | h
  · obtain ⟨x, hx, hxt⟩ := List.mem_filterMap.1 h
    rw [Bool.or_eq_true]
    refine .inl (foldl_or_true opndBits _ _ _ (.inr ⟨x, hx, ?_⟩))
    cases x <;> simp at hxt
    subst hxt
    simp [opndBits, testBit_bit]
  · rw [Bool.or_eq_true]
    refine .inr ?_
    split at h
    · rename_i g want hg
      rw [hg]
      simp only
      simp only [Option.mem_toList] at h
      rw [h]
      simp [testBit_bit]
    · cases h

theorem apartI_spec {P : Program} {ops : Array Oper} {x y : Oper} (h : apartI (infoOf P ops x) (infoOf P ops y) = true) : x.apart ops y = true := by
  simp only [apartI, infoOf, Bool.and_eq_true] at h
  obtain ⟨⟨h1, h2⟩, h3⟩ := h
  unfold Oper.apart
  simp only [Bool.and_eq_true]
  constructor
  · cases hx : x.dst with
    | none => rfl
    | some d =>
      simp only [Bool.and_eq_true, Bool.not_eq_true', bne_iff_ne]
      have hd : (dstBits x).testBit d = true := by simp [dstBits, hx, testBit_bit]
      refine ⟨?_, fun hy => ?_⟩
      · rw [Bool.eq_false_iff]
        intro hc
        exact and_zero h1 d hd (looksAt_bits (by simpa using hc))
      · exact and_zero h2 d hd (by simp [dstBits, hy, testBit_bit])
  · cases hy : y.dst with
    | none => rfl
    | some d =>
      simp only [Bool.not_eq_true']
      rw [Bool.eq_false_iff]
      intro hc
      exact and_zero h3 d (by simp [dstBits, hy, testBit_bit]) (looksAt_bits (by simpa using hc))

theorem apartI_comm (x y : OpInfo) : apartI x y = apartI y x := by
  unfold apartI
  rw [Nat.and_comm x.dst y.dst]
  cases Nat.beq (x.dst &&& y.reads) 0 <;> cases Nat.beq (y.dst &&& x.dst) 0 <;> cases Nat.beq (y.dst &&& x.reads) 0 <;> rfl

theorem apartGo_spec {i : Nat} {x : OpInfo} : ∀ {l : List OpInfo} {j : Nat}, apartAll.go i x j l = true → ∀ (k : Nat) (y : OpInfo), l[k]? = some y → y.deps.testBit i = true ∨ x.deps.testBit (j + k) = true ∨ apartI x y = true
  | [], _, _, k, y, hy => by simp at hy
  | z :: l, j, h, k, y, hy => by
    simp only [apartAll.go, Bool.and_eq_true, Bool.or_eq_true] at h
    cases k with
    | zero => simp at hy; subst hy; simpa [or_assoc] using h.1
    | succ k =>
      have := apartGo_spec h.2 k y (by simpa using hy)
      rwa [show j + 1 + k = j + (k + 1) by omega] at this
theorem apartAll_spec : ∀ {l : List OpInfo} {n : Nat}, apartAll n l = true → ∀ (i j : Nat) (x y : OpInfo), i < j → l[i]? = some x → l[j]? = some y → y.deps.testBit (n + i) = true ∨ x.deps.testBit (n + j) = true ∨ apartI x y = true
  | [], _, _, i, j, x, y, _, hx, _ => by simp at hx
  | z :: l, n, h, i, j, x, y, hij, hx, hy => by
    simp only [apartAll, Bool.and_eq_true] at h
    obtain ⟨j, rfl⟩ : ∃ k, j = k + 1 := ⟨j - 1, by omega⟩
    cases i with
    | zero =>
      simp at hx; subst hx
      have := apartGo_spec h.1 j y (by simpa using hy)
      rw [show n + 1 + j = n + (j + 1) by omega] at this
      simpa using this
    | succ i =>
      have := apartAll_spec h.2 i j x y (by omega) (by simpa using hx) (by simpa using hy)
      rw [show n + 1 + i = n + (i + 1) by omega, show n + 1 + j = n + (j + 1) by omega] at this
      exact this

theorem onlyReady_spec {i lm : Nat} : ∀ {l : List OpInfo} {j : Nat}, onlyReady i lm j l = true → ∀ (k : Nat) (y : OpInfo), l[k]? = some y → j + k = i ∨ lm.testBit (j + k) = true ∨ ¬ Nat.beq (minus y.deps lm) 0 = true
  | [], _, _, k, y, hy => by simp at hy
  | z :: l, j, h, k, y, hy => by
    simp only [onlyReady, Bool.and_eq_true, Bool.or_eq_true, Bool.not_eq_true'] at h
    cases k with
    | zero =>
      simp at hy; subst hy
      rcases h.1 with (h1 | h1) | h1
      · exact .inl (Nat.eq_of_beq_eq_true h1)
      · exact .inr (.inl h1)
      · exact .inr (.inr (by rw [h1]; simp))
    | succ k =>
      have := onlyReady_spec h.2 k y (by simpa using hy)
      rwa [show j + 1 + k = j + (k + 1) by omega] at this

theorem allListed_spec {lm : Nat} : ∀ {n : Nat}, allListed lm n = true → ∀ j, j < n → lm.testBit j = true
  | 0, _, j, h => by omega
  | n + 1, h, j, hj => by
    simp only [allListed, Bool.and_eq_true] at h
    by_cases hjn : j = n
    · subst hjn; exact h.1
    · exact allListed_spec h.2 j (by omega)

/-- The array of what is listed, as a number. -/
def Rel (ops : Array Oper) (lm : Nat) (listed : Array Bool) : Prop := listed.size = ops.size ∧ ∀ j, listed.getD j false = lm.testBit j

theorem Rel.unlisted {lm : Nat} {listed : Array Bool} (h : Rel ops lm listed) {j : Nat} (hj : j < ops.size) : listed.getD j true = false ↔ lm.testBit j = false := by
  rw [← h.2 j]
  have : j < listed.size := by rw [h.1]; exact hj
  simp [this]
theorem Rel.set {lm : Nat} {listed : Array Bool} (h : Rel ops lm listed) {i : Nat} (hi : i < ops.size) : Rel ops (lm ||| bit i) (listed.setIfInBounds i true) := by
  refine ⟨by simp [h.1], fun j => ?_⟩
  rw [Nat.testBit_or, testBit_bit, ← h.2 j]
  by_cases hij : i = j
  · subst hij
    have : i < listed.size := by rw [h.1]; exact hi
    simp [this]
  · rw [getD_set_ne false hij]; simp [hij]

theorem Rel.ready {lm : Nat} {listed : Array Bool} (h : Rel ops lm listed) {j : Nat} : j ∈ Region.ready .any ops listed ↔ ∃ o, ops[j]? = some o ∧ lm.testBit j = false ∧ Nat.beq (minus (depsOf o) lm) 0 = true := by
  rw [mem_ready]
  constructor
  · rintro ⟨h0, o, ho, hall⟩
    have hlt := (Array.getElem?_eq_some_iff.1 ho).1
    refine ⟨o, ho, (h.unlisted hlt).1 h0, ?_⟩
    have : minus (depsOf o) lm = 0 := by
      refine Nat.eq_of_testBit_eq fun i => ?_
      simp only [minus, Nat.testBit_xor, Nat.testBit_and, Nat.zero_testBit]
      cases hd : (depsOf o).testBit i with
      | false => rfl
      | true =>
        obtain ⟨e, he, hb, rfl⟩ := (depsOf_spec o i).1 hd
        have := hall e (by simpa using he) hb
        rw [h.2] at this
        simp [this]
    rw [this]; rfl
  · rintro ⟨o, ho, h0, hd⟩
    have hlt := (Array.getElem?_eq_some_iff.1 ho).1
    refine ⟨(h.unlisted hlt).2 h0, o, ho, fun e he hb => ?_⟩
    rw [h.2]
    exact minus_zero hd e.on ((depsOf_spec o e.on).2 ⟨e, by simpa using he, hb, rfl⟩)

theorem chk_info {i : Nat} {x : OpInfo} (h : (ops.toList.map (infoOf P ops))[i]? = some x) : ∃ o, ops[i]? = some o ∧ x = infoOf P ops o := by
  simp only [List.getElem?_map, Array.getElem?_toList, Option.map_eq_some_iff] at h
  obtain ⟨o, h1, h2⟩ := h
  exact ⟨o, h1, h2.symm⟩
theorem chk_info' {i : Nat} {o : Oper} (h : ops[i]? = some o) : (ops.toList.map (infoOf P ops))[i]? = some (infoOf P ops o) := by
  simp [h]

/-! A part whose order is free. -/
theorem optBits_bit {d : Option Nat} {i : Nat} : (optBits d).testBit i = true ↔ d = some i := by
  cases d with
  | none => simp [optBits]
  | some d => simp [optBits, Nat.one_shiftLeft, Nat.testBit_two_pow]
theorem optBits_inj {a b : Option Nat} (h : optBits a = optBits b) : a = b := by
  cases a with
  | none =>
    cases b with
    | none => rfl
    | some b =>
      have : (optBits (some b)).testBit b = true := optBits_bit.2 rfl
      rw [← h] at this
      simp [optBits] at this
  | some a =>
    have : (optBits (some a)).testBit a = true := optBits_bit.2 rfl
    rw [h] at this
    exact (optBits_bit.1 this).symm
theorem dstBits_opt (o : Oper) : dstBits o = optBits o.dst := by unfold dstBits optBits; cases o.dst <;> rfl
theorem parBits_spec {j : Nat} : ∀ {R : List ParOp}, (parBits R).testBit j = true ↔ ∃ x ∈ R, x.i = j
  | [] => by simp [parBits]
  | x :: R => by
    have ih := parBits_spec (j := j) (R := R)
    have e : parBits (x :: R) = (1 <<< x.i) ||| parBits R := rfl
    rw [e, Nat.testBit_or, Bool.or_eq_true, ih, Nat.one_shiftLeft, Nat.testBit_two_pow]
    simp
theorem parDst_spec {t : Nat} : ∀ {R : List ParOp}, (parDst R).testBit t = true ↔ ∃ x ∈ R, x.dst = some t
  | [] => by simp [parDst]
  | x :: R => by
    have ih := parDst_spec (t := t) (R := R)
    have e : parDst (x :: R) = optBits x.dst ||| parDst R := rfl
    rw [e, Nat.testBit_or, Bool.or_eq_true, ih, optBits_bit]
    simp
def nones : List (Option Value) → Nat
  | [] => 0
  | none :: r => nones r + 1
  | some _ :: r => nones r
theorem nones_set : ∀ {σ : List (Option Value)} {k : Nat} {v : Value}, σ[k]? = some none → nones σ = nones (σ.set k (some v)) + 1
  | [], k, v, h => by simp at h
  | none :: r, 0, v, h => by simp [nones]
  | some u :: r, 0, v, h => by simp at h
  | none :: r, k + 1, v, h => by
    have := nones_set (σ := r) (k := k) (v := v) (by simpa using h)
    simp only [List.set_cons_succ, nones]; omega
  | some u :: r, k + 1, v, h => by
    have := nones_set (σ := r) (k := k) (v := v) (by simpa using h)
    simp only [List.set_cons_succ, nones]; omega
theorem nones_zero : ∀ {σ : List (Option Value)}, nones σ = 0 → ∀ k, k < σ.length → ∃ v, σ[k]? = some (some v)
  | [], _, k, hk => by simp at hk
  | none :: r, h, k, hk => by simp [nones] at h
  | some u :: r, h, 0, hk => ⟨u, rfl⟩
  | some u :: r, h, k + 1, hk => by
    obtain ⟨v, hv⟩ := nones_zero (σ := r) (by simpa [nones] using h) k (by simpa using hk)
    exact ⟨v, by simpa using hv⟩
theorem nones_first : ∀ {σ : List (Option Value)}, nones σ ≠ 0 → ∃ k, σ[k]? = some none ∧ ∀ j : Nat, j < k → ∃ v, σ[j]? = some (some v)
  | [], h => by simp [nones] at h
  | none :: r, h => ⟨0, rfl, fun j hj => by omega⟩
  | some u :: r, h => by
    obtain ⟨k, h1, h2⟩ := nones_first (σ := r) (by simpa [nones] using h)
    refine ⟨k + 1, by simpa using h1, fun j hj => ?_⟩
    cases j with
    | zero => exact ⟨u, rfl⟩
    | succ j =>
      obtain ⟨v, hv⟩ := h2 j (by omega)
      exact ⟨v, by simpa using hv⟩
theorem nones_rep : ∀ n, nones (List.replicate n none) = n
  | 0 => rfl
  | n + 1 => by rw [List.replicate_succ]; simp only [nones]; rw [nones_rep n]
theorem lamP_spec : ∀ {ns : List (Nat × Option Nat)} {σ : List (Option Value)} {ev : Ev} {f : Ev → Prop}, lamP ns σ ev f → (∀ q ∈ ns, ∃ v : Value, σ[q.1]? = some (some v)) →
    ∃ ev', f ev' ∧ ev'.n = ev.n ∧ ev'.d = ev.d ∧ (∀ (t : Nat) (u : Value), ev'.f t = some u → ev.f t = some u ∨ ∃ p : Nat, (p, some t) ∈ ns ∧ σ[p]? = some (some u) ∧ t < ev.n) ∧ (∀ t, (∀ q ∈ ns, q.2 ≠ some t) → ev'.f t = ev.f t)
  | [], σ, ev, f, h, _ => ⟨ev, h, rfl, rfl, fun t u ht => .inl ht, fun t _ => rfl⟩
  | (p, s) :: r, σ, ev, f, h, hn => by
    obtain ⟨v, hv⟩ := hn (p, s) (List.mem_cons_self ..)
    obtain ⟨ev', h1, h2, h3, h4, h5⟩ := lamP_spec (h v hv) fun q hq => hn q (List.mem_cons_of_mem _ hq)
    have e2 : (setO ev s v).n = ev.n := by cases s <;> rfl
    have e3 : (setO ev s v).d = ev.d := by cases s <;> rfl
    refine ⟨ev', h1, h2.trans e2, h3.trans e3, fun t u ht => ?_, fun t ht => ?_⟩
    · rcases h4 t u ht with h | ⟨q, hq, hq2, hlt⟩
      · cases s with
        | none => exact .inl h
        | some s =>
          rcases setE_f h with ⟨rfl, hlt, rfl⟩ | ⟨_, h⟩
          · exact .inr ⟨p, List.mem_cons_self .., hv, hlt⟩
          · exact .inl h
      · exact .inr ⟨q, List.mem_cons_of_mem _ hq, hq2, by rw [e2] at hlt; exact hlt⟩
    · rw [h5 t fun q hq => ht q (List.mem_cons_of_mem _ hq)]
      cases s with
      | none => rfl
      | some s =>
        have := ht (p, some s) (List.mem_cons_self ..)
        exact setE_ne fun h => this (by rw [h])
theorem finals_mem : ∀ {R : List ParOp} {k : Nat} {q : Nat × Option Nat}, q ∈ finals k R ↔ ∃ (j : Nat) (x : ParOp), R[j]? = some x ∧ q = (k + j, x.dst)
  | [], k, q => by simp [finals]
  | x :: R, k, q => by
    simp only [finals, List.mem_cons, finals_mem (R := R)]
    constructor
    · rintro (rfl | ⟨j, y, h1, rfl⟩)
      · exact ⟨0, x, rfl, rfl⟩
      · exact ⟨j + 1, y, by simpa using h1, by rw [show k + 1 + j = k + (j + 1) by omega]⟩
    · rintro ⟨j, y, h1, rfl⟩
      cases j with
      | zero => simp at h1; subst h1; exact .inl rfl
      | succ j => exact .inr ⟨j, y, by simpa using h1, by rw [show k + 1 + j = k + (j + 1) by omega]⟩
theorem parAll_get {L : List Held} {ev : Ev} {J : List (Option Value) → World → Prop} {F : Prop} : ∀ {R : List ParOp} {k : Nat}, parAll P ops T L ev J k R F → F ∧ ∀ (j : Nat) (x : ParOp), R[j]? = some x → parOp P ops T L ev J (k + j) x
  | [], k, h => ⟨h, fun j x hx => by simp at hx⟩
  | y :: R, k, h => by
    obtain ⟨h1, h2⟩ := h
    obtain ⟨h3, h4⟩ := parAll_get h2
    refine ⟨h3, fun j x hx => ?_⟩
    cases j with
    | zero => simp at hx; subst hx; exact h1
    | succ j =>
      have := h4 j x (by simpa using hx)
      rwa [show k + 1 + j = k + (j + 1) by omega] at this
theorem chkPar_spec {l : List OpInfo} {whole : List ParOp} : ∀ {r : List ParOp} {listed slots : Nat}, chkPar l whole listed slots r = true →
    (∀ (k : Nat) (x : ParOp), r[k]? = some x → ∃ y : OpInfo, l[x.i]? = some y ∧ listed.testBit x.i = false ∧ y.k = x.k ∧ x.k ≠ .bad ∧ optBits x.dst = y.dst ∧
      (∀ j, y.deps.testBit j = true → listed.testBit j = true ∨ ∃ (k' : Nat) (x' : ParOp), k' < k ∧ r[k']? = some x' ∧ x'.i = j) ∧ (∀ t, x.dst = some t → slots.testBit t = false) ∧
      ∀ q ∈ x.needs, ∃ z : ParOp, whole[q.1]? = some z ∧ y.deps.testBit z.i = true ∧ ∀ t, q.2 = some t → z.dst = some t) ∧
    ∀ (k k' : Nat) (x x' : ParOp), r[k]? = some x → r[k']? = some x' → k < k' → x.i ≠ x'.i ∧ ∀ t, x.dst = some t → x'.dst ≠ some t
  | [], _, _, _ => ⟨fun k x h => by simp at h, fun k k' x x' h => by simp at h⟩
  | z :: r, listed, slots, h => by
    simp only [chkPar, Bool.and_eq_true] at h
    obtain ⟨h0, hr⟩ := h
    obtain ⟨i1, i2⟩ := chkPar_spec hr
    cases hy : l[z.i]? with
    | none => rw [hy] at h0; cases h0
    | some y =>
      rw [hy] at h0
      simp only [Bool.and_eq_true, Bool.not_eq_true'] at h0
      obtain ⟨⟨⟨⟨⟨⟨a1, a2⟩, a3⟩, a4⟩, a5⟩, a6⟩, a7⟩ := h0
      have bz : ∀ j, (1 <<< z.i : Nat).testBit j = decide (z.i = j) := fun j => by rw [Nat.one_shiftLeft, Nat.testBit_two_pow]
      refine ⟨fun k x hx => ?_, fun k k' x x' hx hx' hlt => ?_⟩
      · cases k with
        | zero =>
          simp at hx; subst hx
          refine ⟨y, hy, a1, by simpa using a3, ?_, Nat.eq_of_beq_eq_true a5, fun j hj => .inl (minus_zero a2 j hj), fun t ht => ?_, fun q hq => ?_⟩
          · intro hb; rw [hb] at a4; cases a4
          · rw [Bool.eq_false_iff]; intro hs
            exact and_zero a6 t (optBits_bit.2 ht) hs
          · have := List.all_eq_true.1 a7 q hq
            cases hw : whole[q.1]? with
            | none => rw [hw] at this; cases this
            | some w =>
              rw [hw] at this
              simp only [Bool.and_eq_true] at this
              refine ⟨w, rfl, this.1, fun t ht => ?_⟩
              have h2 := this.2
              rw [ht] at h2
              cases hd : w.dst with
              | none => rw [hd] at h2; cases h2
              | some b => rw [hd] at h2; rw [Nat.eq_of_beq_eq_true h2]
        | succ k =>
          obtain ⟨y', b1, b2, b3, b4, b5, b6, b7, b8⟩ := i1 k x (by simpa using hx)
          rw [Nat.testBit_or, Bool.or_eq_false_iff] at b2
          refine ⟨y', b1, b2.1, b3, b4, b5, fun j hj => ?_, fun t ht => ?_, b8⟩
          · rcases b6 j hj with h | ⟨k', x', c1, c2, c3⟩
            · rw [Nat.testBit_or, Bool.or_eq_true, bz] at h
              rcases h with h | h
              · exact .inl h
              · exact .inr ⟨0, z, by omega, rfl, by simpa using h⟩
            · exact .inr ⟨k' + 1, x', by omega, by simpa using c2, c3⟩
          · have := b7 t ht
            rw [Nat.testBit_or, Bool.or_eq_false_iff] at this
            exact this.1
      · obtain ⟨k', rfl⟩ : ∃ q, k' = q + 1 := ⟨k' - 1, by omega⟩
        cases k with
        | zero =>
          simp at hx; subst hx
          obtain ⟨y', b1, b2, b3, b4, b5, b6, b7, b8⟩ := i1 k' x' (by simpa using hx')
          rw [Nat.testBit_or, Bool.or_eq_false_iff, bz] at b2
          refine ⟨by simpa using b2.2, fun t ht ht' => ?_⟩
          have := b7 t ht'
          rw [Nat.testBit_or, Bool.or_eq_false_iff] at this
          rw [optBits_bit.2 ht] at this
          cases this.2
        | succ k => exact i2 k k' x x' (by simpa using hx) (by simpa using hx') (by omega)
theorem chkRest_spec {l : List OpInfo} {R : List ParOp} {lm : Nat} : ∀ {r : List OpInfo} {j : Nat}, chkRest l R lm j r = true → ∀ (k : Nat) (y : OpInfo), r[k]? = some y → lm.testBit (j + k) = true ∨ (parBits R).testBit (j + k) = true ∨ ¬ Nat.beq (minus y.deps (lm ||| parBits R)) 0 = true ∨ Nat.beq (minus (parBits R) (below l R y.deps)) 0 = true
  | [], _, _, k, y, hy => by simp at hy
  | z :: r, j, h, k, y, hy => by
    simp only [chkRest, Bool.and_eq_true, Bool.or_eq_true] at h
    cases k with
    | zero =>
      simp at hy; subst hy
      rcases h.1 with ((h1 | h1) | h1) | h1
      · exact .inl h1
      · exact .inr (.inl h1)
      · exact .inr (.inr (.inl (by rw [Bool.not_eq_true'] at h1; rw [h1]; exact Bool.false_ne_true)))
      · exact .inr (.inr (.inr h1))
    | succ k =>
      have := chkRest_spec h.2 k y (by simpa using hy)
      rwa [show j + 1 + k = j + (k + 1) by omega] at this
theorem below_spec {l : List OpInfo} {S : Nat} : ∀ {R : List ParOp} {s : Nat}, (∀ j, s.testBit j = true → S.testBit j = true) → (∀ x ∈ R, S.testBit x.i = true → ∀ y, l[x.i]? = some y → ∀ j, y.deps.testBit j = true → S.testBit j = true) →
    ∀ j, (below l R s).testBit j = true → S.testBit j = true
  | [], s, h, _, j, hj => h j hj
  | x :: R, s, h, hc, j, hj => by
    have ih := below_spec (l := l) (S := S) (R := R) (s := s) h fun y hy => hc y (List.mem_cons_of_mem _ hy)
    have e : below l (x :: R) s = (match l[x.i]? with | some y => cond ((below l R s).testBit x.i) (below l R s ||| y.deps) (below l R s) | none => below l R s) := rfl
    rw [e] at hj
    cases hy : l[x.i]? with
    | none => rw [hy] at hj; exact ih j hj
    | some y =>
      rw [hy] at hj
      simp only at hj
      cases hb : (below l R s).testBit x.i with
      | false => rw [hb] at hj; exact ih j hj
      | true =>
        rw [hb] at hj
        simp only [cond, Nat.testBit_or, Bool.or_eq_true] at hj
        rcases hj with hj | hj
        · exact ih j hj
        · exact hc x (List.mem_cons_self ..) (ih _ hb) y hy j hj
/-- An operation that only reads leaves the world as it is. -/
theorem denOp_still {ev : Ev} {o : Oper} {w : World} {K : Value → World → Prop} (h : denOp P ev o w K) (hk : kindOf P o.op = .pure ∨ kindOf P o.op = .load) : denOp P ev o w fun v w' => w' = w ∧ K v w' := by
  have st : ∀ k s, (k = .pure ∨ k = .load) → step P k s w K → step P k s w fun v w' => w' = w ∧ K v w' := fun k s hk h => by
    rcases hk with rfl | rfl
    · obtain ⟨v, a, b⟩ := h; exact ⟨v, a, rfl, b⟩
    · obtain ⟨v, a, b⟩ := h; exact ⟨v, a, rfl, b⟩
  unfold denOp at *
  split
  · rename_i x hx
    rw [hx] at h; simp only at h
    split <;> simp_all
  · rename_i x hx
    rw [hx] at h; simp only at h
    split <;> simp_all
  · rename_i h1 h2
    split at h
    · rename_i x hx; exact absurd hx (h1 x)
    · rename_i x hx; exact absurd hx (h2 x)
    · rw [whenB_if] at h ⊢
      split
      · rename_i hk'; rw [if_pos hk'] at h; exact st _ _ hk h
      · rename_i hk'; rw [if_neg hk'] at h; exact h
theorem par_sound {m : Nat} (hsel : ∀ (j : Nat) (o : Oper) cs b, ops[j]? = some o → o.op ≠ .select cs b) (hdf : ∀ (j : Nat) (o : Oper) c, ops[j]? = some o → o.op ≠ .defer c)
    (hm : ∀ (i : Nat) (o : Oper), ops[i]? = some o → ∀ k, m.testBit k = false → (dstBits o).testBit k = false)
    {R : List ParOp} {lm : Nat} {L : List Held} {ev : Ev} {w : World} {order : List Item} {K : Ev → World → Prop}
    (hc1 : chkPar (ops.toList.map (infoOf P ops)) R lm 0 R = true) (hc2 : chkRest (ops.toList.map (infoOf P ops)) R lm 0 (ops.toList.map (infoOf P ops)) = true)
    (h : par R.length w fun J => parAll P ops T L (clear (parDst R) ev) J 0 R (∀ (σ : List (Option Value)) (w : World), J σ w → lamP (finals 0 R) σ (clear (parDst R) ev) fun ev => denDraw P ops T order L ev w K))
    {listed : Array Bool} {a : Act} {fuel c : Nat} (hR : Rel ops lm listed) (hA : Agree bs ev a) (hf : c + R.length ≤ fuel)
    (next : ∀ (fuel' : Nat) (listed' : Array Bool) (a' : Act) (w' : World) (ev' : Ev), Rel ops (lm ||| parBits R) listed' → c ≤ fuel' → denDraw P ops T order L ev' w' K → Agree bs ev' a' → Fr false m ev ev' → wpAnyL T r P ops Q fuel' listed' (L.map aheadOf) a' w') :
    wpAnyL T r P ops Q fuel listed (L.map aheadOf) a w := by
  obtain ⟨J, hJ0, hall⟩ := h
  obtain ⟨hfin, hops⟩ := parAll_get hall
  obtain ⟨f1, f2⟩ := chkPar_spec hc1
  have f4 := chkRest_spec hc2
  have info : ∀ (k : Nat) (x : ParOp), R[k]? = some x → ∃ o : Oper, ops[x.i]? = some o ∧ lm.testBit x.i = false ∧ kindOf P o.op = x.k ∧ x.k ≠ .bad ∧ x.dst = o.dst ∧
      (∀ j, (depsOf o).testBit j = true → lm.testBit j = true ∨ ∃ (k' : Nat) (x' : ParOp), k' < k ∧ R[k']? = some x' ∧ x'.i = j) ∧
      ∀ q ∈ x.needs, ∃ z : ParOp, R[q.1]? = some z ∧ (depsOf o).testBit z.i = true ∧ ∀ t, q.2 = some t → z.dst = some t := by
    intro k x hx
    obtain ⟨y, b1, b2, b3, b4, b5, b6, _, b8⟩ := f1 k x hx
    obtain ⟨o, ho, rfl⟩ := chk_info b1
    exact ⟨o, ho, b2, b3, b4, optBits_inj (by rw [b5, ← dstBits_opt]; rfl), b6, b8⟩
  have idist : ∀ (k k' : Nat) (x x' : ParOp), R[k]? = some x → R[k']? = some x' → x.i = x'.i → k = k' := by
    intro k k' x x' hx hx' he
    rcases Nat.lt_trichotomy k k' with h | h | h
    · exact absurd he (f2 k k' x x' hx hx' h).1
    · exact h
    · exact absurd he.symm (f2 k' k x' x hx' hx h).1
  have ddist : ∀ (k k' : Nat) (x x' : ParOp) (t : Nat), R[k]? = some x → R[k']? = some x' → x.dst = some t → x'.dst = some t → k = k' := by
    intro k k' x x' t hx hx' he he'
    rcases Nat.lt_trichotomy k k' with h | h | h
    · exact absurd he' ((f2 k k' x x' hx hx' h).2 t he)
    · exact h
    · exact absurd he ((f2 k' k x' x hx' hx h).2 t he')
  have hbase : Agree bs (clear (parDst R) ev) a := hA.le (Nat.le_refl _) (fun i v hi => by
    simp only [clear] at hi
    cases hb : (parDst R).testBit i with
    | true => rw [hb] at hi; cases hi
    | false => rw [hb] at hi; exact hi) rfl
  have main : ∀ (n : Nat) (σ : List (Option Value)) (lms : Nat) (listed : Array Bool) (fuel : Nat) (a : Act) (w : World), σ.length = R.length → nones σ = n → J σ w →
      (∀ j, lms.testBit j = true ↔ lm.testBit j = true ∨ ∃ (k : Nat) (x : ParOp) (v : Value), R[k]? = some x ∧ x.i = j ∧ σ[k]? = some (some v)) → Rel ops lms listed →
      (∀ (k : Nat) (x : ParOp) (v : Value) (o : Oper), R[k]? = some x → σ[k]? = some (some v) → ops[x.i]? = some o → ∀ j, (depsOf o).testBit j = true → lms.testBit j = true) → n + c ≤ fuel →
      Agree bs (clear (parDst R) ev) a → (∀ (k : Nat) (x : ParOp) (v : Value) (t : Nat), R[k]? = some x → σ[k]? = some (some v) → x.dst = some t → t < ev.n → a.tmps[t]? = some v) → wpAnyL T r P ops Q fuel listed (L.map aheadOf) a w := by
    intro n
    induction n with
    | zero =>
      intro σ lms listed fuel a w hl hn hJ hb hR hcl hfu hA hV
      have hall : ∀ (k : Nat) (x : ParOp), R[k]? = some x → ∃ v, σ[k]? = some (some v) := fun k x hx => nones_zero hn k (by rw [hl]; exact (List.getElem?_eq_some_iff.1 hx).1)
      obtain ⟨ev', e1, e2, e3, e4, e5⟩ := lamP_spec (hfin σ w hJ) fun q hq => by
        obtain ⟨j, x, hx, rfl⟩ := finals_mem.1 hq
        rw [Nat.zero_add]; exact hall j x hx
      have hlm : lms = lm ||| parBits R := by
        refine Nat.eq_of_testBit_eq fun j => ?_
        rw [Bool.eq_iff_iff, hb j, Nat.testBit_or, Bool.or_eq_true, parBits_spec]
        constructor
        · rintro (h | ⟨k, x, v, hx, hi, _⟩)
          · exact .inl h
          · exact .inr ⟨x, List.mem_of_getElem? hx, hi⟩
        · rintro (h | ⟨x, hx, hi⟩)
          · exact .inl h
          · obtain ⟨k, hk⟩ := List.getElem?_of_mem hx
            obtain ⟨v, hv⟩ := hall k x hk
            exact .inr ⟨k, x, v, hk, hi, hv⟩
      subst hlm
      refine next fuel listed a w ev' hR (by omega) e1 ⟨by rw [e2]; exact hA.1, fun t u ht => ?_, by rw [e3]; exact hA.2.2⟩ ⟨e2, fun t ht => ?_, fun _ => e3⟩
      · rcases e4 t u ht with h | ⟨p, hp, hp2, hlt⟩
        · exact hA.2.1 t u h
        · obtain ⟨j, x, hx, he⟩ := finals_mem.1 hp
          simp only [Prod.mk.injEq, Nat.zero_add] at he
          obtain ⟨rfl, he⟩ := he
          exact hV p x u t hx hp2 he.symm hlt
      · rw [e5 t fun q hq => ?_]
        · simp only [clear]
          cases hbt : (parDst R).testBit t with
          | false => rfl
          | true =>
            exfalso
            obtain ⟨x, hx, hd⟩ := parDst_spec.1 hbt
            obtain ⟨k, hk⟩ := List.getElem?_of_mem hx
            obtain ⟨o, ho, _, _, _, hdo, _⟩ := info k x hk
            have := hm x.i o ho t ht
            rw [dstBits_opt, ← hdo, optBits_bit.2 hd] at this
            cases this
        · obtain ⟨j, x, hx, rfl⟩ := finals_mem.1 hq
          intro hd
          obtain ⟨o, ho, _, _, _, hdo, _⟩ := info j x hx
          have := hm x.i o ho t ht
          simp only at hd
          rw [dstBits_opt, ← hdo, optBits_bit.2 hd] at this
          cases this
    | succ n ih =>
      intro σ lms listed fuel a w hl hn hJ hb hR hcl hfu hA hV
      obtain ⟨fuel, rfl⟩ : ∃ f, fuel = f + 1 := ⟨fuel - 1, by omega⟩
      have some0 : ∃ j, j ∈ Region.ready .any ops listed := by
        obtain ⟨k, h1, h2⟩ := nones_first (σ := σ) (by omega)
        have hk : k < R.length := by rw [← hl]; exact (List.getElem?_eq_some_iff.1 h1).1
        obtain ⟨x, hx⟩ : ∃ x, R[k]? = some x := ⟨R[k], List.getElem?_eq_getElem hk⟩
        obtain ⟨o, ho, hun, _, _, _, hd, _⟩ := info k x hx
        refine ⟨x.i, hR.ready.2 ⟨o, ho, ?_, ?_⟩⟩
        · rw [Bool.eq_false_iff]
          intro hb2
          rcases (hb x.i).1 hb2 with h | ⟨k', x', v, hx', hi, hv⟩
          · rw [hun] at h; cases h
          · have := idist k' k x' x hx' hx hi
            subst this
            rw [h1] at hv; cases hv
        · have : minus (depsOf o) lms = 0 := by
            refine Nat.eq_of_testBit_eq fun j => ?_
            simp only [minus, Nat.testBit_xor, Nat.testBit_and, Nat.zero_testBit]
            cases hdj : (depsOf o).testBit j with
            | false => rfl
            | true =>
              have : lms.testBit j = true := by
                rcases hd j hdj with h | ⟨k', x', hlt, hx', hi⟩
                · exact (hb j).2 (.inl h)
                · obtain ⟨v, hv⟩ := h2 k' hlt
                  exact (hb j).2 (.inr ⟨k', x', v, hx', hi, hv⟩)
              simp [this]
          rw [this]; rfl
      refine ⟨fun h0 => (by obtain ⟨j, hj⟩ := some0; rw [h0] at hj; cases hj), fun j hj => ?_⟩
      obtain ⟨o, ho, hju, hjd⟩ := hR.ready.1 hj
      have hlt := (Array.getElem?_eq_some_iff.1 ho).1
      have hk : ∃ (k : Nat) (x : ParOp), R[k]? = some x ∧ x.i = j ∧ σ[k]? = some none := by
        rcases f4 j _ (chk_info' ho) with h | h | h | h
        rotate_left 2
        · exfalso
          refine h ?_
          have : minus (depsOf o) (lm ||| parBits R) = 0 := by
            refine Nat.eq_of_testBit_eq fun i => ?_
            simp only [minus, Nat.testBit_xor, Nat.testBit_and, Nat.zero_testBit]
            cases hdi : (depsOf o).testBit i with
            | false => rfl
            | true =>
              have h1 := (hb i).1 (minus_zero hjd i hdi)
              have h2 : (lm ||| parBits R).testBit i = true := by
                rw [Nat.testBit_or, Bool.or_eq_true]
                rcases h1 with h1 | ⟨k, x, v, hx, hi, _⟩
                · exact .inl h1
                · exact .inr (parBits_spec.2 ⟨x, List.mem_of_getElem? hx, hi⟩)
              simp [h2]
          show Nat.beq (minus (depsOf o) (lm ||| parBits R)) 0 = true
          rw [this]; rfl
        rotate_left 1
        · rw [Nat.zero_add] at h
          rw [(hb j).2 (.inl h)] at hju; cases hju
        · rw [Nat.zero_add] at h
          obtain ⟨x, hx, hi⟩ := parBits_spec.1 h
          obtain ⟨k, hk⟩ := List.getElem?_of_mem hx
          refine ⟨k, x, hk, hi, ?_⟩
          have hkl : k < σ.length := by rw [hl]; exact (List.getElem?_eq_some_iff.1 hk).1
          cases hs : σ[k]'hkl with
          | none => rw [List.getElem?_eq_getElem hkl, hs]
          | some v =>
            rw [(hb j).2 (.inr ⟨k, x, v, hk, hi, by rw [List.getElem?_eq_getElem hkl, hs]⟩)] at hju; cases hju
        · exfalso
          have hbelow := below_spec (l := ops.toList.map (infoOf P ops)) (S := lms) (R := R) (s := (infoOf P ops o).deps) (fun i hi => minus_zero hjd i hi) (fun x hx hs y hy i hi => by
            obtain ⟨k, hk⟩ := List.getElem?_of_mem hx
            obtain ⟨o', ho', rfl⟩ := chk_info hy
            rcases (hb x.i).1 hs with h | ⟨k', x', v, hx', hi', hv⟩
            · obtain ⟨_, _, hun, _⟩ := info k x hk
              rw [hun] at h; cases h
            · have := idist k' k x' x hx' hk hi'
              subst this
              exact hcl k' x v o' hk hv ho' i hi)
          obtain ⟨k, h1, _⟩ := nones_first (σ := σ) (by omega)
          have hk : k < R.length := by rw [← hl]; exact (List.getElem?_eq_some_iff.1 h1).1
          have hx : R[k]? = some R[k] := List.getElem?_eq_getElem hk
          have hp : (parBits R).testBit R[k].i = true := parBits_spec.2 ⟨R[k], List.getElem_mem hk, rfl⟩
          have hs := hbelow _ (minus_zero h _ hp)
          rcases (hb _).1 hs with h | ⟨k', x', v, hx', hi', hv⟩
          · obtain ⟨_, _, hun, _⟩ := info k _ hx
            rw [hun] at h; cases h
          · have := idist k' k x' _ hx' hx hi'
            subst this
            rw [h1] at hv; cases hv
      obtain ⟨k, x, hx, rfl, hnone⟩ := hk
      obtain ⟨o', ho', hun, hkind, hbad, hdst, hdeps, hneeds⟩ := info k x hx
      rw [ho] at ho'
      obtain rfl := Option.some.inj ho'
      have hop := hops k x hx σ w hJ (by rw [Nat.zero_add]; exact hnone)
      obtain ⟨ev', e1, e2, e3, e4, e5⟩ := lamP_spec hop fun q hq => by
        obtain ⟨z, hz, hzd, _⟩ := hneeds q hq
        have := minus_zero hjd _ hzd
        rcases (hb _).1 this with h | ⟨k', x', v, hx', hi', hv⟩
        · obtain ⟨_, _, hunz, _⟩ := info q.1 z hz
          rw [hunz] at h; cases h
        · have := idist k' q.1 x' z hx' hz hi'
          subst this
          exact ⟨v, hv⟩
      have hA' : Agree bs ev' a := ⟨by rw [e2]; exact hA.1, fun t u ht => by
        rcases e4 t u ht with h | ⟨p, hp, hp2, hlt⟩
        · exact hA.2.1 t u h
        · obtain ⟨z, hz, _, hzt⟩ := hneeds _ hp
          exact hV p z u t hz hp2 (hzt t rfl) hlt, by rw [e3]; exact hA.2.2⟩
      rw [ho] at e1
      simp only at e1
      cases hg : guardOf ops ev' o with
      | none => rw [hg] at e1; exact e1.elim
      | some g =>
        rw [hg] at e1
        simp only at e1
        have hW := guard_wanted hA' hg
        have go : ∀ v w', J (σ.set (0 + k) (some v)) w' → wpAnyL T r P ops Q fuel (listed.setIfInBounds x.i true) (L.map aheadOf) (a.put o.dst v) w' := by
          intro v w' hJ'
          rw [Nat.zero_add] at hJ'
          have hkl : k < σ.length := (List.getElem?_eq_some_iff.1 hnone).1
          have hsz : (clear (parDst R) ev).n ≤ (a.put o.dst v).tmps.size := by
            cases o.dst with
            | none => exact hA.1
            | some d => simpa [Act.put] using hA.1
          have hset : ∀ k' u, (σ.set k (some v))[k']? = some (some u) ↔ (k' = k ∧ u = v) ∨ (k' ≠ k ∧ σ[k']? = some (some u)) := by
            intro k' u
            by_cases hkk : k' = k
            · subst hkk
              rw [List.getElem?_set_self hkl]
              simp [eq_comm]
            · rw [List.getElem?_set_ne (Ne.symm hkk)]
              simp [hkk]
          refine ih (σ.set k (some v)) (lms ||| bit x.i) _ fuel _ w' (by simpa using hl) (by have := nones_set (v := v) hnone; omega) hJ' (fun j => ?_) (hR.set hlt) (fun k' x' u o' hx' hv' ho' i hi => ?_) (by omega) ⟨hsz, fun t u ht => ?_, ?_⟩ (fun k' x' u t hx' hv' hd ht => ?_)
          · rw [Nat.testBit_or, Bool.or_eq_true, hb j, testBit_bit]
            constructor
            · rintro ((h | ⟨k', x', u, h1, h2, h3⟩) | h)
              · exact .inl h
              · exact .inr ⟨k', x', u, h1, h2, (hset k' u).2 (.inr ⟨fun hkk => (by subst hkk; rw [hnone] at h3; cases h3), h3⟩)⟩
              · exact .inr ⟨k, x, v, hx, by simpa using h, (hset k v).2 (.inl ⟨rfl, rfl⟩)⟩
            · rintro (h | ⟨k', x', u, h1, h2, h3⟩)
              · exact .inl (.inl h)
              · rcases (hset k' u).1 h3 with ⟨rfl, _⟩ | ⟨_, h3⟩
                · rw [hx] at h1; obtain rfl := Option.some.inj h1; exact .inr (by simpa using h2)
                · exact .inl (.inr ⟨k', x', u, h1, h2, h3⟩)
          · rw [Nat.testBit_or, Bool.or_eq_true]
            rcases (hset k' u).1 hv' with ⟨rfl, _⟩ | ⟨_, h3⟩
            · rw [hx] at hx'; obtain rfl := Option.some.inj hx'
              rw [ho] at ho'; obtain rfl := Option.some.inj ho'
              exact .inl (minus_zero hjd i hi)
            · exact .inl (hcl k' x' u o' hx' h3 ho' i hi)
          · have hne : o.dst ≠ some t := by
              intro hd
              simp only [clear] at ht
              have : (parDst R).testBit t = true := parDst_spec.2 ⟨x, List.mem_of_getElem? hx, by rw [hdst]; exact hd⟩
              rw [this] at ht; cases ht
            have := hA.2.1 t u ht
            cases hd : o.dst with
            | none => exact this
            | some d =>
              have hdt : d ≠ t := fun h => hne (by rw [hd, h])
              simp only [Act.put]
              rw [Array.getElem?_setIfInBounds_ne hdt]
              exact this
          · have := hA.2.2
            cases o.dst <;> exact this
          · rcases (hset k' u).1 hv' with ⟨rfl, rfl⟩ | ⟨hkk, h3⟩
            · rw [hx] at hx'; obtain rfl := Option.some.inj hx'
              rw [hdst] at hd
              rw [hd]
              have h1 : ev.n ≤ a.tmps.size := hA.1
              simp [Act.put, show t < a.tmps.size by omega]
            · have hold := hV k' x' u t hx' h3 hd ht
              cases hd2 : o.dst with
              | none => exact hold
              | some d =>
                have hdt : d ≠ t := fun h => hkk (ddist k' k x' x t hx' hx hd (by rw [hdst, hd2, h]))
                simp only [Act.put]
                rw [Array.getElem?_setIfInBounds_ne hdt]
                exact hold
        unfold wpOpIn
        simp only [ho]
        have fin : ∀ (A : (Value → World → Prop) → Prop), gate g A w (fun v w' => J (σ.set (0 + k) (some v)) w') → (A (fun v w' => J (σ.set (0 + k) (some v)) w') → denOp P ev' o w fun v w' => (∀ y ∈ L.map aheadOf, dep T ops x.i y.i = false → y.ok P w → y.ok P w') ∧ J (σ.set (0 + k) (some v)) w') →
            (if Region.wanted o (yielded ops a.tmps) = true then o.wpIn (Wd r) 0 P a w (fun a' w' => keeps P ops T (L.map aheadOf) x.i w w' ∧ wpAnyL T r P ops Q fuel (listed.setIfInBounds x.i true) (L.map aheadOf) a' w') Q else (∀ f, o.about P w a.eval = some f → (Wd r).fn f) ∧ (keeps P ops T (L.map aheadOf) x.i w w ∧ wpAnyL T r P ops Q fuel (listed.setIfInBounds x.i true) (L.map aheadOf) (a.put o.dst undef) w)) := by
          intro A hgate hA2
          rcases gate_cases hgate with ⟨hw, h⟩ | ⟨hw, h⟩
          · rw [if_pos (hW.2 hw)]
            exact denOp_oper (hA2 h) hA' fun v w' hst => ⟨hst.1, go v w' hst.2⟩
          · rw [if_neg (fun h' => hw (hW.1 h'))]
            exact ⟨about_ok, fun x _ _ h' => h', go undef w h⟩
        cases hxk : x.k with
        | bad => exact absurd hxk hbad
        | eff =>
          rw [hxk] at e1
          simp only at e1
          exact fin (fun K' => denOp P ev' o w fun v w' => stays P ops T x.i w' L (K' v w')) e1 fun h => denOp_mono h fun v w' hst => by
            obtain ⟨hst1, hst2⟩ := stays_spec hst
            exact ⟨fun y hy hyd _ => hst2 y hy hyd, hst1⟩
        | pure =>
          rw [hxk] at e1
          simp only at e1
          exact fin (fun K' => denOp P ev' o w K') e1 fun h => denOp_mono (denOp_still h (.inl (by rw [hkind, hxk]))) fun v w' hst => by
            obtain ⟨rfl, hst⟩ := hst
            exact ⟨fun y hy hyd h' => h', hst⟩
        | load =>
          rw [hxk] at e1
          simp only at e1
          exact fin (fun K' => denOp P ev' o w K') e1 fun h => denOp_mono (denOp_still h (.inr (by rw [hkind, hxk]))) fun v w' hst => by
            obtain ⟨rfl, hst⟩ := hst
            exact ⟨fun y hy hyd h' => h', hst⟩
  refine main R.length (List.replicate R.length none) lm listed fuel a w (by simp) (nones_rep _) hJ0 (fun j => ?_) hR (fun k x v o hx hv => ?_) (by omega) hbase (fun k x v t hx hv => ?_)
  · constructor
    · exact .inl
    · rintro (h | ⟨k, x, v, _, _, hv⟩)
      · exact h
      · rw [List.getElem?_replicate] at hv
        split at hv <;> cases hv
  · rw [List.getElem?_replicate] at hv
    split at hv <;> cases hv
  · rw [List.getElem?_replicate] at hv
    split at hv <;> cases hv
def ClosedB (ops : Array Oper) (lm : Nat) : Prop := ∀ k ok, ops[k]? = some ok → lm.testBit k = true → ∀ j, (depsOf ok).testBit j = true → lm.testBit j = true
theorem ClosedB.listed {lm : Nat} {listed : Array Bool} (h : ClosedB ops lm) (hR : Rel ops lm listed) : ClosedL ops listed := fun k ok hk hl e he hb => by
  rw [hR.2] at hl ⊢
  exact h k ok hk hl e.on ((depsOf_spec ok e.on).2 ⟨e, by simpa using he, hb, rfl⟩)
theorem ClosedB.set {lm i : Nat} {o : Oper} (h : ClosedB ops lm) (ho : ops[i]? = some o) (hd : ∀ j, (depsOf o).testBit j = true → lm.testBit j = true) : ClosedB ops (lm ||| bit i) := fun k ok hk hl j hj => by
  rw [Nat.testBit_or, testBit_bit, Bool.or_eq_true] at hl ⊢
  left
  rcases hl with hl | hl
  · exact h k ok hk hl j hj
  · have : i = k := by simpa using hl
    subst this
    rw [ho] at hk
    obtain rfl := Option.some.inj hk
    exact hd j hj
theorem parBits_mem {R : List ParOp} {j : Nat} : (parBits R).testBit j = true ↔ ∃ x ∈ R, x.i = j := by
  induction R with
  | nil => simp [parBits]
  | cons x R ih =>
    unfold parBits at ih ⊢
    rw [List.foldr_cons, Nat.testBit_or, Bool.or_eq_true, ih, show (1 <<< x.i).testBit j = (bit x.i).testBit j from rfl, testBit_bit]
    constructor
    · rintro (h | ⟨y, hy, e⟩)
      · exact ⟨x, by simp, by simpa using h⟩
      · exact ⟨y, by simp [hy], e⟩
    · rintro ⟨y, hy, e⟩
      rcases List.mem_cons.1 hy with rfl | hy
      · left; simpa using e
      · exact .inr ⟨y, hy, e⟩
theorem ClosedB.par {lm : Nat} {R : List ParOp} (h : ClosedB ops lm) (hc : chkPar (ops.toList.map (infoOf P ops)) R lm 0 R = true) : ClosedB ops (lm ||| parBits R) := fun k ok hk hl j hj => by
  obtain ⟨f1, _⟩ := chkPar_spec hc
  rw [Nat.testBit_or, Bool.or_eq_true] at hl ⊢
  rcases hl with hl | hl
  · exact .inl (h k ok hk hl j hj)
  · obtain ⟨x, hx, rfl⟩ := parBits_mem.1 hl
    obtain ⟨n, hn, rfl⟩ := List.mem_iff_getElem.1 hx
    obtain ⟨y, b1, b2, b3, b4, b5, b6, _, b8⟩ := f1 n _ (List.getElem?_eq_getElem hn)
    obtain ⟨o, ho, rfl⟩ := chk_info b1
    rw [hk] at ho
    obtain rfl := Option.some.inj ho
    rcases b6 j hj with h1 | ⟨k', x', _, hx', e⟩
    · exact .inl h1
    · exact .inr (parBits_mem.2 ⟨x', List.mem_of_getElem? hx', e⟩)
theorem denDraw_sound {m : Nat} (hsel : ∀ (j : Nat) (o : Oper) cs b, ops[j]? = some o → o.op ≠ .select cs b) (hdf : ∀ (j : Nat) (o : Oper) c, ops[j]? = some o → o.op ≠ .defer c)
    (hap : apartAll 0 (ops.toList.map (infoOf P ops)) = true)
    (hm : ∀ (i : Nat) (o : Oper), ops[i]? = some o → ∀ k, m.testBit k = false → (dstBits o).testBit k = false) (hQ : ∀ c a w, ¬ Q (.panic c) a w) :
    ∀ (order : List Item) (lm : Nat) (listed : Array Bool) (fuel : Nat) (L : List Held) (ev : Ev) (a : Act) (w : World) (K : Ev → World → Prop),
      chkOrder (ops.toList.map (infoOf P ops)) ops.size lm order = true → Rel ops lm listed → ClosedB ops lm → count order ≤ fuel →
      denDraw P ops T order L ev w K → Agree bs ev a → (∀ ev' a' w', Agree bs ev' a' → Fr false m ev ev' → K ev' w' → Q .normal a' w') →
      wpAnyL T r P ops Q fuel listed (L.map aheadOf) a w := by
  have hQ' : ∀ (d : Option Tmp) (v : Value) c a w, Q (.panic c) (a.put d v) w → Q (.panic c) a w := fun d v c a w h => (hQ _ _ _ h).elim
  intro order
  induction order with
  | nil =>
    intro lm listed fuel L ev a w K hc hR hcb hf h hA hK
    simp only [denDraw] at h
    have hr : Region.ready .any ops listed = [] := by
      rw [List.eq_nil_iff_forall_not_mem]
      intro j hj
      obtain ⟨o, ho, h0, _⟩ := hR.ready.1 hj
      rw [allListed_spec hc j (Array.getElem?_eq_some_iff.1 ho).1] at h0
      cases h0
    have hq := hK ev a w hA (Fr.refl _ _ _) h
    cases fuel with
    | zero => exact ⟨hr, hq⟩
    | succ f => exact ⟨fun _ => hq, by rw [hr]; intro i hi; cases hi⟩
  | cons it order ih =>
   cases it with
   | par R =>
    intro lm listed fuel L ev a w K hc hR hcb hf h hA hK
    simp only [chkOrder, Bool.and_eq_true] at hc
    simp only [denDraw] at h
    refine par_sound hsel hdf hm hc.1.1 hc.1.2 h hR hA (c := count order) (by simp only [count] at hf; omega) fun fuel' listed' a' w' ev' hR' hf' h' hA' hF => ?_
    exact ih _ listed' fuel' L ev' a' w' K hc.2 hR' (hcb.par hc.1.1) hf' h' hA' fun ev'' a'' w'' hA'' hF' hK' => hK ev'' a'' w'' hA'' (hF.trans hF') hK'
   | op i k =>
    intro lm listed fuel L ev a w K hc hR hcb hf h hA hK
    obtain ⟨fuel, rfl⟩ : ∃ f, fuel = f + 1 := ⟨fuel - 1, by simp only [count] at hf; omega⟩
    simp only [chkOrder, Bool.and_eq_true] at hc
    obtain ⟨hc1, hc2⟩ := hc
    cases hx : (ops.toList.map (infoOf P ops))[i]? with
    | none => rw [hx] at hc1; cases hc1
    | some x =>
      obtain ⟨o, ho, rfl⟩ := chk_info hx
      rw [hx] at hc1
      simp only [Bool.and_eq_true, Bool.not_eq_true'] at hc1
      obtain ⟨⟨⟨hun, hdeps⟩, hkd⟩, hcase⟩ := hc1
      have hkind : kindOf P o.op = k := by simpa [infoOf] using hkd
      have hlt := (Array.getElem?_eq_some_iff.1 ho).1
      have hir : i ∈ Region.ready .any ops listed := hR.ready.2 ⟨o, ho, hun, hdeps⟩
      have hfree : ∀ j oj, ops[j]? = some oj → j ≠ i → listed.getD j true = false → (∀ e ∈ oj.after, Region.binds .any e = true → e.on ≠ i) → o.apart ops oj = true := by
        intro j oj hj hji hju hno
        have hjlt := (Array.getElem?_eq_some_iff.1 hj).1
        have hju' := (hR.unlisted hjlt).1 hju
        have n1 : ¬ (depsOf oj).testBit i = true := fun hd => by
          obtain ⟨e, he, hb, hon⟩ := (depsOf_spec oj i).1 hd
          exact hno e (by simpa using he) hb hon
        have n2 : ¬ (depsOf o).testBit j = true := fun hd => by
          have := minus_zero hdeps j hd
          rw [this] at hju'; cases hju'
        rcases Nat.lt_or_gt_of_ne hji with hlt' | hlt'
        · rcases apartAll_spec hap j i _ _ hlt' (chk_info' hj) (chk_info' ho) with h | h | h
          · exact absurd (by simpa [infoOf] using h) n2
          · exact absurd (by simpa [infoOf] using h) n1
          · rw [apartI_comm] at h; exact apartI_spec h
        · rcases apartAll_spec hap i j _ _ hlt' (chk_info' ho) (chk_info' hj) with h | h | h
          · exact absurd (by simpa [infoOf] using h) n1
          · exact absurd (by simpa [infoOf] using h) n2
          · exact apartI_spec h
      simp only [denDraw] at h
      rw [ho] at h
      simp only at h
      cases hg : guardOf ops ev o with
      | none => rw [hg] at h; exact h.elim
      | some g =>
        rw [hg] at h
        simp only at h
        have next : ∀ (L : List Held) (a' : Act) v w', Agree bs (putE ev o.dst v) a' → denDraw P ops T order L (putE ev o.dst v) w' K →
            wpAnyL T r P ops Q fuel (listed.setIfInBounds i true) (L.map aheadOf) a' w' := fun L a' v w' hA' h' =>
          ih _ _ fuel L _ a' w' K hc2 (hR.set hlt) (hcb.set ho fun j hj => minus_zero hdeps j hj) (by simp only [count] at hf; omega) h' hA' fun ev' a'' w'' hA'' hF hK' =>
            hK ev' a'' w'' hA'' ((Fr.put o v (hm i o ho)).trans hF) hK'
        have hW := guard_wanted hA hg
        have take : ∀ (v : Value) (s : Sem Next), Reads P ops o v a w → s = execOp a.eval o →
            wpAnyL T r P ops Q fuel (listed.setIfInBounds i true) (⟨i, wantedG g, s, v⟩ :: L.map aheadOf) (a.put o.dst v) w → wpAnyL T r P ops Q (fuel + 1) listed (L.map aheadOf) a w := fun v s hy hs H =>
          wpAnyL_first ho hsel hdf (hQ' o.dst v) (wantedG g) s fuel listed (L.map aheadOf) a w hfree (hcb.listed hR) hir hy hW.symm hs H
        cases k with
        | bad => cases hcase
        | pure =>
          simp only at h
          rcases gate_cases h with ⟨hw, h⟩ | ⟨hw, h⟩
          · obtain ⟨v, r1, r2, _, r4⟩ := denOp_reads h hA (.inl hkind) (fun cs b => hsel i o cs b ho)
            refine take v (execOp a.eval o) (.inl ⟨hW.2 hw, r1⟩) rfl (wpAnyL_weak (fun j w w' hk x hx => ?_) _ _ _ _ (next L _ v w (hA.put _ _) r4))
            rcases List.mem_cons.1 hx with rfl | hx
            · exact fun _ _ _ => r2 hkind w'
            · exact hk x hx
          · refine take undef (execOp a.eval o) (.inr ⟨by rw [Bool.eq_false_iff]; exact fun h' => hw (hW.1 h'), rfl⟩) rfl (wpAnyL_weak (fun j w w' hk x hx => ?_) _ _ _ _ (next L _ undef w (hA.put _ _) h))
            rcases List.mem_cons.1 hx with rfl | hx
            · exact fun _ _ h' => (hw h').elim
            · exact hk x hx
        | load =>
          simp only at h
          rcases gate_cases h with ⟨hw, h⟩ | ⟨hw, h⟩
          · obtain ⟨v, r1, _, r3, r4⟩ := denOp_reads h hA (.inr hkind) (fun cs b => hsel i o cs b ho)
            exact take v (execOp (rho ev) o) (.inl ⟨hW.2 hw, r1⟩) (r3 hkind) (next (⟨i, g, execOp (rho ev) o, v⟩ :: L) _ v w (hA.put _ _) r4)
          · refine take undef (execOp a.eval o) (.inr ⟨by rw [Bool.eq_false_iff]; exact fun h' => hw (hW.1 h'), rfl⟩) rfl (wpAnyL_weak (fun j w w' hk x hx => ?_) _ _ _ _ (next (⟨i, g, execOp (rho ev) o, undef⟩ :: L) _ undef w (hA.put _ _) h))
            rcases List.mem_cons.1 hx with rfl | hx
            · exact fun _ _ h' => (hw h').elim
            · exact hk x (List.mem_cons_of_mem _ hx)
        | eff =>
          simp only at h
          refine ⟨fun h0 => (by rw [h0] at hir; cases hir), fun j hj => ?_⟩
          have hj' : j = i := by
            obtain ⟨oj, hoj, hju, hjd⟩ := hR.ready.1 hj
            rcases onlyReady_spec hcase j _ (chk_info' hoj) with h | h | h
            · simpa using h
            · simp at h; rw [h] at hju; cases hju
            · exact absurd hjd h
          subst hj'
          unfold wpOpIn
          simp only [ho]
          rcases gate_cases h with ⟨hw, h⟩ | ⟨hw, h⟩
          · rw [if_pos (hW.2 hw)]
            refine denOp_oper h hA fun v w' hst => ?_
            obtain ⟨hst1, hst2⟩ := stays_spec hst
            exact ⟨fun x hx hdx _ => hst2 x hx hdx, next L _ v w' (hA.put _ _) hst1⟩
          · rw [if_neg (fun h' => hw (hW.1 h'))]
            exact ⟨about_ok, fun x _ _ h' => h', next L _ undef w (hA.put _ _) h⟩

theorem chkDraw_sound {m : Nat} {order : List Item} (hc : chkDraw P ops order = true)
    (hm : ∀ (i : Nat) (o : Oper), ops[i]? = some o → ∀ k, m.testBit k = false → (dstBits o).testBit k = false) (hQ : ∀ c a w, ¬ Q (.panic c) a w)
    {ev : Ev} {a : Act} {w : World} {K : Ev → World → Prop} (h : denDraw P ops T order [] ev w K) (hA : Agree bs ev a)
    (hK : ∀ ev' a' w', Agree bs ev' a' → Fr false m ev ev' → K ev' w' → Q .normal a' w') :
    wpAnyIn (Wd r) 0 P .any ops Q ops.size (Array.replicate ops.size false) a w := by
  unfold chkDraw at hc
  simp only [Bool.and_eq_true] at hc
  obtain ⟨⟨⟨h1, h2⟩, h3⟩, h4⟩ := hc
  have hsel : ∀ (j : Nat) (o : Oper) cs b, ops[j]? = some o → o.op ≠ .select cs b := fun j o cs b ho he => by
    have := List.all_eq_true.1 h1 _ (List.mem_of_getElem? (chk_info' (P := P) ho))
    simp [infoOf, he] at this
  have hdf : ∀ (j : Nat) (o : Oper) c, ops[j]? = some o → o.op ≠ .defer c := fun j o c ho he => by
    have := List.all_eq_true.1 h1 _ (List.mem_of_getElem? (chk_info' (P := P) ho))
    simp [infoOf, he] at this
  refine wpAnyL_any _ _ _ _ _ (denDraw_sound (T := T) hsel hdf h2 hm hQ order 0 _ ops.size [] ev a w K (by simpa using h3) ⟨by simp, fun j => ?_⟩ (fun k ok _ hl => by simp at hl) (by have := Nat.le_of_ble_eq_true h4; simpa using this) h hA hK)
  rw [Nat.zero_testBit]
  by_cases hj : j < ops.size <;> simp [hj]


/-! ### Code -/
theorem getAll_spec {ev : Ev} : ∀ {M : List Nat} {σ : List Value}, getAll ev M = some σ → σ.length = M.length ∧ ∀ (k : Nat) (m : Nat) (v : Value), M[k]? = some m → σ[k]? = some v → ev.f m = some v
  | [], σ, h => by simp [getAll] at h; subst h; exact ⟨rfl, fun k m v h _ => by simp at h⟩
  | m :: M, σ, h => by
    unfold getAll at h
    cases hm : ev.f m with
    | none => rw [hm] at h; cases h
    | some v =>
      rw [hm] at h
      simp only [Option.map_eq_some_iff] at h
      obtain ⟨τ, hτ, rfl⟩ := h
      obtain ⟨h1, h2⟩ := getAll_spec hτ
      refine ⟨by simp [h1], fun k m' u hk hu => ?_⟩
      cases k with
      | zero => simp at hk hu; subst hk; subst hu; exact hm
      | succ k => simp at hk hu; exact h2 k m' u hk hu

theorem getK_spec {ev : Ev} {M : List Nat} {f : List Value → Prop} (h : getK ev M f) : ∃ σ, getAll ev M = some σ ∧ f σ := by
  unfold getK at h
  split at h
  · rename_i σ hσ; exact ⟨σ, hσ, h⟩
  · exact h.elim

/-- The frame at a meeting: what lives has its values, what is written and lives not is unknown. -/
def meet : List Nat → List Value → Ev → Ev
  | m :: M, v :: σ, ev => meet M σ (setE ev m v)
  | _, _, ev => ev

theorem lam_spec : ∀ {M : List Nat} {σ : List Value} {ev : Ev} {f : Ev → Prop}, lam M σ ev f → f (meet M σ ev)
  | [], [], ev, f, h => h
  | [], v :: σ, ev, f, h => h.elim
  | m :: M, [], ev, f, h => h.elim
  | m :: M, v :: σ, ev, f, h => lam_spec (M := M) (σ := σ) h

theorem meet_n : ∀ (M : List Nat) (σ : List Value) (ev : Ev), (meet M σ ev).n = ev.n
  | [], σ, ev => by cases σ <;> rfl
  | m :: M, [], ev => rfl
  | m :: M, v :: σ, ev => by rw [meet, meet_n]; rfl

theorem meet_get : ∀ (M : List Nat) (σ : List Value) (ev : Ev) (i : Nat) (u : Value), (meet M σ ev).f i = some u → ev.f i = some u ∨ ∃ k : Nat, M[k]? = some i ∧ σ[k]? = some u
  | [], σ, ev, i, u, h => .inl (by cases σ <;> exact h)
  | m :: M, [], ev, i, u, h => .inl h
  | m :: M, v :: σ, ev, i, u, h => by
    rcases meet_get M σ _ i u h with h1 | ⟨k, h1, h2⟩
    · rcases setE_f h1 with ⟨rfl, hlt, rfl⟩ | ⟨hne, h1⟩
      · exact .inr ⟨0, rfl, rfl⟩
      · exact .inl h1
    · exact .inr ⟨k + 1, by simpa using h1, by simpa using h2⟩

theorem eraseE_get {m : Nat} {ev : Ev} {k : Nat} {v : Value} (h : (eraseE m ev).f k = some v) : m.testBit k = false ∧ ev.f k = some v := by
  simp only [eraseE] at h
  cases hb : m.testBit k with
  | true => rw [hb] at h; cases h
  | false => rw [hb] at h; exact ⟨rfl, h⟩
theorem eraseE_keep {m : Nat} {ev : Ev} {k : Nat} (h : m.testBit k = false) : (eraseE m ev).f k = ev.f k := by simp only [eraseE]; rw [h]; rfl

theorem meet_keep : ∀ (M : List Nat) (σ : List Value) (ev : Ev) (i : Nat), i ∉ M → (meet M σ ev).f i = ev.f i
  | [], σ, ev, i, _ => by cases σ <;> rfl
  | m :: M, [], ev, i, _ => rfl
  | m :: M, v :: σ, ev, i, h => by
    rw [meet, meet_keep M σ _ i (fun h' => h (List.mem_cons_of_mem _ h')), setE_ne (fun h' => h (by rw [h']; exact List.mem_cons_self ..))]

theorem meet_d : ∀ (M : List Nat) (σ : List Value) (ev : Ev), (meet M σ ev).d = ev.d
  | [], σ, ev => by cases σ <;> rfl
  | m :: M, [], ev => rfl
  | m :: M, v :: σ, ev => by rw [meet, meet_d]; rfl

/-- Behind code that turned just the slots in m, the frame at the meeting is right. -/
theorem meet_agree {ev ev' : Ev} {a : Act} {m : Nat} {M : List Nat} {σ : List Value} (hA : Agree bs ev' a) (hF : Fr false m ev ev') (hM : M.all (fun i => m.testBit i) = true) (hσ : getAll ev' M = some σ) :
    Agree bs (meet M σ (eraseE m ev)) a ∧ Fr false m ev (meet M σ (eraseE m ev)) := by
  have hbit : ∀ i, i ∈ M → m.testBit i = true := fun i hi => List.all_eq_true.1 hM i hi
  refine ⟨hA.le (by rw [meet_n, hF.1]; exact Nat.le_refl _) (fun i v hi => ?_) (by rw [meet_d, hF.2.2 rfl]; rfl), by rw [meet_n]; rfl, fun i hi => ?_, fun _ => by rw [meet_d]; rfl⟩
  · rcases meet_get _ _ _ i v hi with h | ⟨k, h1, h2⟩
    · obtain ⟨h1, h2⟩ := eraseE_get h
      rw [hF.2.1 i h1]; exact h2
    · exact (getAll_spec hσ).2 k i v h1 h2
  · rw [meet_keep _ _ _ _ (fun h => by rw [hbit i h] at hi; cases hi), eraseE_keep hi]

theorem meet_at : ∀ (M : List Nat) (σ : List Value) (ev : Ev), M.Nodup → (∀ m ∈ M, m < ev.n) → σ.length = M.length → ∀ (k m : Nat), M[k]? = some m → ∃ v, σ[k]? = some v ∧ (meet M σ ev).f m = some v
  | [], σ, ev, _, _, _, k, m, h => by simp at h
  | x :: M, [], ev, _, _, hl, k, m, h => by simp at hl
  | x :: M, v :: σ, ev, hn, hb, hl, k, m, h => by
    have hn' := List.nodup_cons.1 hn
    cases k with
    | zero =>
      simp at h; subst h
      refine ⟨v, rfl, ?_⟩
      rw [meet, meet_keep _ _ _ _ hn'.1, setE_eq (hb x (List.mem_cons_self ..))]
    | succ k =>
      have := meet_at M σ (setE ev x v) hn'.2 (fun m hm => hb m (List.mem_cons_of_mem _ hm)) (by simpa using hl) k m (by simpa using h)
      obtain ⟨u, h1, h2⟩ := this
      exact ⟨u, by simpa using h1, h2⟩

theorem incr_lt : ∀ {l : List Nat} {a : Nat}, incr (a :: l) = true → ∀ b ∈ l, a < b
  | [], a, _, b, hb => by cases hb
  | x :: l, a, h, b, hb => by
    simp only [incr, Bool.and_eq_true] at h
    have hax : a < x := Nat.le_of_ble_eq_true h.1
    rcases List.mem_cons.1 hb with rfl | hb
    · exact hax
    · exact Nat.lt_trans hax (incr_lt h.2 b hb)
theorem incr_nodup : ∀ {l : List Nat}, incr l = true → l.Nodup
  | [], _ => List.nodup_nil
  | a :: l, h => List.nodup_cons.2 ⟨fun hm => absurd (incr_lt h a hm) (Nat.lt_irrefl _), incr_nodup (by
      cases l with
      | nil => rfl
      | cons b r => simp only [incr, Bool.and_eq_true] at h; exact h.2)⟩

theorem meet_vals {M : List Nat} {σ : List Value} {base : Ev} {a : Act} (hl : σ.length = M.length) (hn : M.Nodup) (hb : ∀ m ∈ M, m < base.n) (hA : Agree bs (meet M σ base) a) :
    (M.map fun m => a.tmps.getD m undef) = σ := by
  refine List.ext_getElem? fun k => ?_
  rw [List.getElem?_map]
  cases hk : M[k]? with
  | none =>
    have h1 := List.getElem?_eq_none_iff.1 hk
    rw [List.getElem?_eq_none (by omega)]; rfl
  | some x =>
    obtain ⟨v, h1, h2⟩ := meet_at M σ base hn hb hl k x hk
    have h3 := hA.2.1 x v h2
    simp [h1, h3]

theorem lift_of {b : Bool} {m : Nat} {ev : Ev} {Q : Exit → Ev → World → Prop} {e : Exit} {a : Act} {w : World} (h : lift bs b m ev Q e a w) : (∀ c, e ≠ .panic c) ∧ e ≠ .outgrown ∧ ∃ ev', Agree bs ev' a ∧ Fr b m ev ev' ∧ Q e ev' w := by
  cases e <;> first | exact ⟨fun _ h => (by cases h), (fun h => by cases h), h⟩ | exact h.elim
theorem lift_mk {b : Bool} {m : Nat} {ev : Ev} {Q : Exit → Ev → World → Prop} {e : Exit} {a : Act} {w : World} (he : ∀ c, e ≠ .panic c) (he' : e ≠ .outgrown) (h : ∃ ev', Agree bs ev' a ∧ Fr b m ev ev' ∧ Q e ev' w) : lift bs b m ev Q e a w := by
  cases e <;> first | exact h | exact absurd rfl he' | exact absurd rfl (he _)

variable {r : Option Nat}
theorem wp_seq_of {c d : Code} {Q Q' : Exit → Act → World → Prop} {a : Act} {w : World} (h : c.wpIn (Wd r) 0 P Q' a w)
    (hn : ∀ a w, Q' .normal a w → d.wpIn (Wd r) 0 P Q a w) (hx : ∀ e a w, e ≠ .normal → Q' e a w → Q e a w) : (Code.seq c d).wpIn (Wd r) 0 P Q a w :=
  wpIn_seq (wpIn_mono h (fun e a w he => by
    cases e <;> first | exact hn a w he | exact hx _ a w (by simp) he))

/-- The temporaries of a round: yield's arguments in the loop's parameters. -/
theorem params_agree {ev : Ev} {a : Act} : ∀ (ps : List Tmp) (σ : List Value), σ.length = ps.length → Agree bs ev a →
    Agree bs (meet ps σ ev) { a with tmps := (ps.zip σ).foldl (fun tmps (t, v) => tmps.setIfInBounds t v) a.tmps }
  | [], σ, h, hA => by cases σ <;> first | exact hA | cases h
  | p :: ps, [], h, hA => by cases h
  | p :: ps, v :: σ, h, hA => by
    have := params_agree ps σ (by simpa using h) (hA.put (some p) v)
    exact this

theorem den_sound : ∀ (c : Code) (bs : List Deferred) (t : Ann) (tp : Bool) (r : Option Nat) (ev : Ev) (w : World) (Q : Exit → Ev → World → Prop) (a : Act), (tp = true → r = none) →
    chk P c t = true → den P tp c t ev w Q → Agree bs ev a → c.wpIn (Wd r) 0 P (lift bs (ranges c) (mods c) ev Q) a w := by
  intro c
  induction c with
  | skip => intro bs t tp r ev w Q a hr hc h hA; simp only [den] at h; exact wpIn_skip ⟨ev, hA, Fr.refl _ _ _, h⟩
  | label l => intro bs t tp r ev w Q a hr hc h hA; simp only [den] at h; exact wpIn_label ⟨ev, hA, Fr.refl _ _ _, h⟩
  | ret => intro bs t tp r ev w Q a hr hc h hA; simp only [den] at h; exact wpIn_ret ⟨ev, hA, Fr.refl _ _ _, h⟩
  | exit id => intro bs t tp r ev w Q a hr hc h hA; simp only [den] at h; exact wpIn_exit ⟨ev, hA, Fr.refl _ _ _, h⟩
  | goto l => intro bs t tp r ev w Q a hr hc h hA; simp only [den] at h
  | scope b ih => intro bs t tp r ev w Q a hr hc h hA; simp only [den] at h
  | refuse y => intro bs t tp r ev w Q a hr hc h hA; simp only [den] at h
  | region id ops draw =>
    intro bs t tp r ev w Q a hr hc h hA
    have hm : ∀ o ∈ ops.toList, ∀ i, (mods (.region id ops draw)).testBit i = false → (dstBits o).testBit i = false := fun o ho i hi => modsOps_mem ho hi
    cases draw with
    | false =>
      simp only [den] at h
      exact wpIn_region_list (denOps_sound ops.toList ev a w _ hm h hA fun ev' a' w' hA' hF hK => ⟨ev', hA', hF, hK⟩)
    | true =>
      cases t <;> simp only [den] at h
      all_goals
        rename_i order
        simp only [chk, Bool.and_eq_true] at hc
        refine wpIn_region_any hc.1 (chkDraw_sound hc.2 (fun i o ho => hm o (by simpa using Array.mem_of_getElem? ho)) (fun c a w h => h) h hA fun ev' a' w' hA' hF hK => ⟨ev', hA', hF, hK⟩)
  | seq x y ihx ihy =>
    intro bs t tp r ev w Q a hr hc h hA
    cases t with
    | meet m M s t =>
      simp only [den] at h
      simp only [chk, Bool.and_eq_true, Bool.not_eq_true'] at hc
      obtain ⟨⟨⟨⟨hm, hM⟩, hcs⟩, hct⟩, hrg⟩ := hc
      refine wp_seq_of (ihx _ _ _ _ _ _ _ a hr hcs h hA) (fun a' w' hn => ?_) (fun e a' w' he hx => ?_)
      · obtain ⟨_, _, ev', hA', hF, hk⟩ := lift_of hn
        obtain ⟨σ, hσ, hk⟩ := getK_spec hk
        have h2 := lam_spec hk
        have hm := Nat.eq_of_beq_eq_true hm
        subst hm
        rw [hrg] at hF
        obtain ⟨m1, m2⟩ := meet_agree hA' hF hM hσ
        refine wpIn_mono (ihy _ _ _ _ _ _ _ a' hr hct h2 m1) fun e a'' w'' hl => ?_
        obtain ⟨hne, hno, ev'', hA'', hF'', hq⟩ := lift_of hl
        refine lift_mk hne hno ⟨ev'', hA'', ?_, hq⟩
        rw [← hrg] at m2
        exact m2.or_left.trans hF''.or_right
      · obtain ⟨hne, hno, ev', hA', hF, hk⟩ := lift_of hx
        refine lift_mk hne hno ⟨ev', hA', hF.or_left, ?_⟩
        cases e <;> first | exact hk | exact absurd rfl he
    | seq s t =>
      simp only [den] at h
      simp only [chk, Bool.and_eq_true] at hc
      refine wp_seq_of (ihx _ _ _ _ _ _ _ a hr hc.1 h hA) (fun a' w' hn => ?_) (fun e a' w' he hx => ?_)
      · obtain ⟨_, _, ev', hA', hF, hk⟩ := lift_of hn
        refine wpIn_mono (ihy _ _ _ _ _ _ _ a' hr hc.2 hk hA') fun e a'' w'' hl => ?_
        obtain ⟨hne, hno, ev'', hA'', hF'', hq⟩ := lift_of hl
        exact lift_mk hne hno ⟨ev'', hA'', hF.or_left.trans hF''.or_right, hq⟩
      · obtain ⟨hne, hno, ev', hA', hF, hk⟩ := lift_of hx
        refine lift_mk hne hno ⟨ev', hA', hF.or_left, ?_⟩
        cases e <;> first | exact hk | exact absurd rfl he
    | none => simp only [den] at h
    | draw _ => simp only [den] at h
    | drawT _ => simp only [den] at h
    | loop _ _ _ => simp only [den] at h
    | block _ => simp only [den] at h
    | range _ _ => simp only [den] at h
  | cond c x y ihx ihy =>
    intro bs t tp r ev w Q a hr hc h hA
    cases t <;> simp only [den] at h
    rename_i s t
    simp only [chk, Bool.and_eq_true] at hc
    split at h
    · rename_i v hv
      unfold cd at h
      split at h
      · rename_i b
        refine wpIn_cond_split (hA.eval hv) (fun hb => ?_) (fun hb => ?_)
        · refine wpIn_mono (ihx _ _ _ _ _ _ _ a hr hc.1 (h.1 hb) hA) fun e a' w' hl => ?_
          obtain ⟨hne, hno, ev', hA', hF, hk⟩ := lift_of hl
          exact lift_mk hne hno ⟨ev', hA', hF.or_left, hk⟩
        · refine wpIn_mono (ihy _ _ _ _ _ _ _ a hr hc.2 (h.2 hb) hA) fun e a' w' hl => ?_
          obtain ⟨hne, hno, ev', hA', hF, hk⟩ := lift_of hl
          exact lift_mk hne hno ⟨ev', hA', hF.or_right, hk⟩
      · exact h.elim
    · exact h.elim
  | block id b ih =>
    intro bs t tp r ev w Q a hr hc h hA
    cases t <;> simp only [den] at h
    rename_i t
    simp only [chk] at hc
    refine wpIn_block (wpIn_mono (ih _ _ _ _ _ _ _ a hr hc h hA) fun e a' w' hl => ?_)
    obtain ⟨hne, hno, ev', hA', hF, hk⟩ := lift_of hl
    cases e with
    | exit k =>
      simp only at hk
      simp only [Exit.inBlock]
      rw [whenB_if] at hk
      split at hk
      · rename_i hki
        have hki : k = id := Nat.eq_of_beq_eq_true hki
        subst hki
        simp only [if_true]
        exact ⟨ev', hA', hF, hk⟩
      · rename_i hki
        have hki : k ≠ id := fun h => hki (by rw [h]; exact Nat.beq_refl _)
        rw [if_neg (by first | exact hki | exact Ne.symm hki)]
        exact ⟨ev', hA', hF, hk⟩
    | normal => exact ⟨ev', hA', hF, hk⟩
    | goto l => exact ⟨ev', hA', hF, hk⟩
    | ret => exact ⟨ev', hA', hF, hk⟩
    | panic c => exact absurd rfl (hne c)
    | outgrown => exact absurd rfl hno
  | loop b ih =>
    intro bs t tp r ev w Q a hr hc h hA
    cases t <;> simp only [den] at h
    rename_i m M t
    simp only [chk, Bool.and_eq_true, Bool.not_eq_true'] at hc
    obtain ⟨⟨⟨⟨hm, hM⟩, hinc⟩, hct⟩, hrg⟩ := hc
    rw [whenB_if] at h
    split at h
    case isFalse => exact h.elim
    rename_i hbd
    obtain ⟨σ, hσ, I, μ, h0, hround⟩ := getK_spec h
    have hm := Nat.eq_of_beq_eq_true hm
    subst hm
    obtain ⟨m1, m2⟩ := meet_agree (m := mods b) hA (Fr.refl _ _ _) hM hσ
    have hlen : σ.length = M.length := (getAll_spec hσ).1
    have hlt : ∀ x ∈ M, x < (eraseE (mods b) ev).n := fun x hx => Nat.le_of_ble_eq_true (List.all_eq_true.1 hbd x hx)
    refine wpIn_loop (fun a' w' => ∃ σ : List Value, I σ w' ∧ σ.length = M.length ∧ Agree bs (meet M σ (eraseE (mods b) ev)) a' ∧ Fr false (mods b) ev (meet M σ (eraseE (mods b) ev)))
      (fun a' w' => μ (M.map fun m => a'.tmps.getD m undef) w') ⟨σ, h0, hlen, m1, m2⟩ ?_
    rintro a' w' ⟨σ, hI, hl, hA', hF⟩
    have hrd := lam_spec (hround σ w' hI)
    refine wpIn_mono (ih _ _ _ _ _ _ _ a' hr hct hrd hA') fun e a'' w'' hlf => ?_
    obtain ⟨hne, hno, ev', hA'', hF'', hk⟩ := lift_of hlf
    rw [hrg] at hF''
    have out : ∀ e, (∀ c, e ≠ .panic c) → e ≠ .outgrown → Q e ev' w'' → lift bs (ranges (.loop b)) (mods (.loop b)) ev Q e a'' w'' := fun e hne hno hq =>
      lift_mk hne hno ⟨ev', hA'', by rw [show ranges (.loop b) = false from hrg]; exact hF.trans hF'', hq⟩
    cases e with
    | normal =>
      obtain ⟨σ', hσ', hI', hlt'⟩ := getK_spec hk
      have hF2 : Fr false (mods b) ev ev' := hF.trans hF''
      obtain ⟨k1, k2⟩ := meet_agree (m := mods b) hA'' hF2 hM hσ'
      refine ⟨⟨σ', hI', (getAll_spec hσ').1, k1, k2⟩, ?_⟩
      rw [meet_vals hl (incr_nodup hinc) hlt hA', meet_vals (getAll_spec hσ').1 (incr_nodup hinc) hlt k1]
      exact hlt'
    | exit k => exact out _ hne hno hk
    | goto l => exact out _ hne hno hk
    | ret => exact out _ hne hno hk
    | panic c => exact absurd rfl (hne c)
    | outgrown => exact absurd rfl hno
  | rangeFunc g ps x y ihx ihy =>
    intro bs t tp r ev w Q a hr hc h hA
    cases tp with
    | false => simp only [den] at h
    | true =>
    cases t <;> simp only [den] at h
    rename_i s t
    obtain rfl := hr rfl
    simp only [chk, Bool.and_eq_true] at hc
    split at h
    case h_2 => exact h.elim
    rename_i gv hgv
    have hg := hA.eval hgv
    refine wpIn_rangeFunc fun fn _ => ?_
    let rcd : LoopState → Option Code → Obj := fun st p => .loop { state := st, pending := p, fn, tmps := a.tmps, params := ps, assign := x, body := y, defers := w.heap.size }
    obtain ⟨f, args, hcall, hC⟩ := h rcd (fun st p => ⟨_, rfl⟩) (by
      intro σ W K hσ hl hrd
      have hyield := run_yield (P := P) (args := σ.toArray) hl (by simpa using hσ)
      have hrun : (oCall (.func (.yield (w.heap.size + 1)) #[] #[]) σ.toArray).run P W = .ok (.round (w.heap.size + 1) fn ((ps.zip σ.toArray).foldl (fun tmps (t, v) => tmps.setIfInBounds t v) a.tmps) x y) W := by
        unfold oCall
        simp only [Deferred.ofValue, Sem.run_bind, Sem.run_pure, Result.andThen_ok, invoke]
        simpa using hyield
      show upon P K _
      rw [hrun]
      refine roundIn_of_wpIn (F := Fence.wide) (n := 0) (P := P) trivial ?_
      have hA0 : Agree [] ⟨ev.n, ev.f, []⟩ { tmps := a.tmps, defers := [] } := ⟨hA.1, hA.2.1, rfl⟩
      have hA1 := params_agree ps.toList σ (by simpa using hσ) hA0
      have e1 : (ps.zip σ.toArray).foldl (fun tmps (t, v) => tmps.setIfInBounds t v) a.tmps = (ps.toList.zip σ).foldl (fun tmps (t, v) => tmps.setIfInBounds t v) a.tmps := by
        rw [← Array.foldl_toList]; simp
      rw [e1]
      have hrd := lam_spec hrd
      refine wpIn_mono (ihx [] s false (some (w.heap.size + 1)) _ W _ _ (fun h => by cases h) hc.1 hrd hA1) fun e a₁ w₁ hl₁ => ?_
      obtain ⟨hne, hno, ev₁, hA₁, _, hk⟩ := lift_of hl₁
      cases e with
      | normal =>
        obtain ⟨hrec1, hk⟩ := hk
        refine ⟨_, run_beginRound hrec1 rfl, ?_⟩
        refine wpIn_mono (ihy [] t false (some (w.heap.size + 1)) _ _ _ a₁ (fun h => by cases h) hc.2 hk hA₁) fun e a₂ w₂ hl₂ => ?_
        obtain ⟨hne, hno, ev₂, hA₂, _, hrec2, hk⟩ := lift_of hl₂
        cases e with
        | normal => exact ⟨_, _, run_endRound none hrec2, _, rfl, hk⟩
        | ret => exact ⟨_, _, run_endRound (some .ret) hrec2, _, rfl, hk⟩
        | exit id => exact ⟨_, _, run_endRound (some (.exit id)) hrec2, _, rfl, hk⟩
        | goto l => exact hk.elim
        | panic c => exact absurd rfl (hne c)
        | outgrown => exact absurd rfl hno
      | exit k => exact hk.elim
      | goto l => exact hk.elim
      | ret => exact hk.elim
      | panic c => exact absurd rfl (hne c)
      | outgrown => exact absurd rfl hno)
    have hbind : (Deferred.ofValue gv #[.func (.yield (w.heap.size + 1)) #[] #[]] >>= fun d => invoke d.target d.args).run P ((w.alloc (.deferred (some []))).alloc (rcd .ready none)) = .ok (.enter f args) ((w.alloc (.deferred (some []))).alloc (rcd .ready none)) := hcall
    rw [Sem.run_bind] at hbind
    cases hd : (Deferred.ofValue gv #[.func (.yield (w.heap.size + 1)) #[] #[]]).run P ((w.alloc (.deferred (some []))).alloc (rcd .ready none)) with
    | halt x w' => rw [hd] at hbind; cases hbind
    | ok d w1' =>
      rw [hd, Result.andThen_ok] at hbind
      have hres : (resolve a.eval (rangeCall g (w.heap.size + 1)) 0).run P ((w.alloc (.deferred (some []))).alloc (rcd .ready none)) = .ok d w1' := by
        have em : (#[Operand.const (.func (.yield (w.heap.size + 1)) #[] #[])] : Array Operand).map a.eval = #[.func (.yield (w.heap.size + 1)) #[] #[]] := by simp [Act.eval]
        simp only [resolve, hg, em]; exact hd
      refine ⟨w.heap.size + 1, [{ target := .collected w.heap.size, args := #[] }], _, d, w1', f, args, _, run_enterLoop_outer fn a.tmps ps x y, hres, fun _ _ => trivial, hbind, depth_ok, ?_⟩
      refine CallsIn.mono (callsIn_wide (n := 0) |>.2 hC : CallsIn (Wd none) 0 P _ _ _ _) fun e w₃ he => ?_
      obtain ⟨v, rfl, st, p, hrec3, hst, hj⟩ := he
      refine ⟨p, _, run_endLoop hrec3 hst, ?_⟩
      have hA2 : Agree bs ⟨ev.n, ev.f, w.heap.size :: ev.d⟩ { a with defers := [{ target := .collected w.heap.size, args := #[] }] ++ a.defers } := ⟨hA.1, hA.2.1, by rw [hA.2.2]; rfl⟩
      have hF2 : Fr true (mods (.rangeFunc g ps x y)) ev ⟨ev.n, ev.f, w.heap.size :: ev.d⟩ := ⟨rfl, fun _ _ => rfl, fun h => by cases h⟩
      unfold jump at hj
      split at hj
      · exact ⟨_, hA2, hF2, hj⟩
      · exact wpIn_ret ⟨_, hA2, hF2, hj⟩
      · rename_i id
        have : ∀ l : List Nat, jump.jumpX id (l.map fun i => (i, Q (.exit i) ⟨ev.n, ev.f, w.heap.size :: ev.d⟩ (w₃.putObj (w.heap.size + 1) (rcd .exhausted (some (.exit id)))))) → Q (.exit id) ⟨ev.n, ev.f, w.heap.size :: ev.d⟩ (w₃.putObj (w.heap.size + 1) (rcd .exhausted (some (.exit id)))) := by
          intro l
          induction l with
          | nil => exact fun h => h.elim
          | cons k l ih =>
            intro h
            simp only [List.map_cons, jump.jumpX] at h
            split at h
            · rename_i hk; rw [Nat.eq_of_beq_eq_true hk] at h; exact h
            · exact ih h
        exact wpIn_exit ⟨_, hA2, hF2, this _ hj⟩
      · exact hj.elim

def resOne (tmps : Array Value) : ResultVar → Sem Value
  | .tmp t => pure (tmps.getD t undef)
  | .cell x t => do loadVar t (← asAddr (tmps.getD x undef))
theorem results_eq (fn : Func) (tmps : Array Value) : results fn tmps = (do
    let vs ← fn.results.mapM (resOne tmps)
    pure (if h : vs.size = 1 then vs[0] else .tuple vs)) := by
  unfold results
  congr 1

theorem denRes_sound {ev : Ev} {a : Act} {w : World} (hA : Agree bs ev a) : ∀ (l : List ResultVar) (K : List Value → Prop), denRes P l ev w K →
    ∃ vs, (l.mapM (resOne a.tmps)).run P w = .ok vs w ∧ K vs
  | [], K, h => ⟨[], rfl, h⟩
  | .tmp t :: r, K, h => by
    unfold denRes at h
    split at h
    · rename_i v hv
      obtain ⟨vs, h1, h2⟩ := denRes_sound hA r _ h
      have := hA.2.1 t v hv
      refine ⟨v :: vs, ?_, h2⟩
      rw [List.mapM_cons]
      simp only [Sem.run_bind, resOne, Sem.run_pure, Result.andThen_ok, h1]
      simp [this]
    · exact h.elim
  | .cell x t :: r, K, h => by
    unfold denRes at h
    split at h
    · rename_i v hv
      obtain ⟨u, hu, h⟩ := h
      obtain ⟨vs, h1, h2⟩ := denRes_sound hA r _ h
      have := hA.2.1 x v hv
      have hx : a.tmps.getD x undef = v := by simp [this]
      refine ⟨u :: vs, ?_, h2⟩
      have e1 : (resOne a.tmps (.cell x t)).run P w = .ok u w := by show (do loadVar t (← asAddr (a.tmps.getD x undef)) : Sem Value).run P w = _; rw [hx]; exact hu
      rw [List.mapM_cons, Sem.run_bind, e1]
      simp only [Result.andThen_ok, Sem.run_bind, Sem.run_pure, h1]
    · exact h.elim

theorem tupled_eq (vs : List Value) : tupled vs = (if h : vs.toArray.size = 1 then vs.toArray[0] else .tuple vs.toArray) := by
  match vs with
  | [] => rfl
  | [v] => rfl
  | v :: u :: r => simp [tupled]

def chkFn (P : Program) (fn : Func) (t : Ann) : Bool := match fn.body with | some c => chk P c t | none => false
theorem start_agree {fn : Func} {args : List Value} : Agree [] ⟨args.length + (fn.ntmps - args.length), startE args, []⟩ { tmps := args.toArray ++ Array.replicate (fn.ntmps - args.toArray.size) undef, defers := [] } := by
  refine ⟨by simp, fun i v hi => ?_, rfl⟩
  have st : ∀ (l : List Value) (i : Nat) (v : Value), startE l i = some v → l[i]? = some v := by
    intro l
    induction l with
    | nil => intro i v h; simp [startE] at h
    | cons x l ih => intro i v h; cases i with
      | zero => simpa [startE] using h
      | succ i => simpa using ih i v (by simpa [startE] using h)
  have h1 := st args i v hi
  have hlt := (List.getElem?_eq_some_iff.1 h1).1
  simp [Array.getElem?_append, hlt]
  simpa [hlt] using h1
theorem denFn_calls {f : FuncId} {fn : Func} {t : Ann} {args : List Value} {w : World} {K : Value → World → Prop} (hf : P.funcs[f]? = some fn)
    (hchk : chkFn P fn t = true) (h : denFn P fn t args w K) : Calls P f args.toArray w (Ret K) := by
  unfold denFn at h
  split at h
  · rename_i c hc
    refine callsIn_wide (n := 0) |>.1 (callsIn_of_wp_marks (F := Fence.wide) hf hc trivial ?_)
    have hA : Agree [] ⟨args.length + (fn.ntmps - args.length), startE args, []⟩ { tmps := args.toArray ++ Array.replicate (fn.ntmps - args.toArray.size) undef, defers := [] } := by
      refine ⟨by simp, fun i v hi => ?_, rfl⟩
      have st : ∀ (l : List Value) (i : Nat) (v : Value), startE l i = some v → l[i]? = some v := by
        intro l
        induction l with
        | nil => intro i v h; simp [startE] at h
        | cons x l ih => intro i v h; cases i with
          | zero => simpa [startE] using h
          | succ i => simpa using ih i v (by simpa [startE] using h)
      have h1 := st args i v hi
      have hlt := (List.getElem?_eq_some_iff.1 h1).1
      simp [Array.getElem?_append, hlt]
      simpa [hlt] using h1
    refine wpIn_mono (den_sound c [] _ true none _ _ _ _ (fun _ => rfl) (by unfold chkFn at hchk; rw [hc] at hchk; exact hchk) h hA) fun e a' w' hl => ?_
    have fin : ∀ ev', Agree [] ev' a' → und ev'.d w' (fun w' => denRes P fn.results.toList ev' w' (fun vs => K (tupled vs) w')) → LeavesInM Fence.wide 0 P fn a'.tmps (Ret K) a'.defers .returning w' := fun ev' hA' hu => by
      clear hl
      rw [hA'.2.2]
      revert hu
      generalize ev'.d = ds
      intro hu
      induction ds generalizing w' with
      | nil =>
        obtain ⟨vs, h1, h2⟩ := denRes_sound (P := P) (w := w') hA' _ _ hu
        refine ⟨tupled vs, ?_, _, rfl, h2⟩
        rw [results_eq, Array.mapM_eq_mapM_toList]
        simp only [Sem.run_bind, Sem.run_map, h1, Result.andThen_ok, Sem.run_pure, tupled_eq]
      | cons D ds ih =>
        obtain ⟨h1, h2⟩ := hu
        exact ⟨(by simp), .inl ⟨D, _, rfl, run_takeDeferred h1, ih _ h2⟩⟩
    obtain ⟨hne, hno, ev', hA', _, hq⟩ := lift_of hl
    cases e with
    | normal => exact fin ev' hA' hq
    | ret => exact fin ev' hA' hq
    | exit k => exact hq.elim
    | goto k => exact hq.elim
    | panic c => exact absurd rfl (hne c)
    | outgrown => exact absurd rfl hno
  · exact h.elim

end
end Hold
