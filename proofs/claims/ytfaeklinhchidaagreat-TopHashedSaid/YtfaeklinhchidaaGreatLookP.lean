/-
  A log of groups of pages, plainly: what it holds, what its calls do. No program in sight.
-/
import Derived.Test.YtfaeklinhchidaaGreatHp
import Derived.Test.YtfaeklinhchidaaGreatPar
import Derived.Lib.Bytealg
set_option linter.all false
set_option maxRecDepth 100000
namespace Go.Proofs.YtfaeklinhchidaaGreat
open Go Hold
abbrev Bs := List UInt8
/-! ### Maps from numbers to numbers -/
def putA : List (Int × Int) → Int → Int → List (Int × Int)
  | [], k, v => [(k, v)]
  | x :: r, k, v => if k = x.1 then (k, v) :: r else x :: putA r k v
def lookA : List (Int × Int) → Int → Option Int
  | [], _ => none
  | x :: r, k => if k = x.1 then some x.2 else lookA r k
theorem lookA_put (k v k' : Int) : ∀ l, lookA (putA l k v) k' = if k' = k then some v else lookA l k'
  | [] => by simp [putA, lookA]
  | x :: r => by
    have ih := lookA_put k v k' r
    unfold putA
    by_cases h : k = x.1
    · subst h
      rw [if_pos rfl]
      simp only [lookA]
      split <;> simp_all
    · rw [if_neg h]
      simp only [lookA, ih]
      by_cases h1 : k' = x.1
      · rw [if_pos h1, if_neg (by omega), if_pos h1]
      · rw [if_neg h1, if_neg h1]
theorem putA_mem {k v : Int} {y : Int × Int} : ∀ {l}, y ∈ putA l k v → y = (k, v) ∨ y ∈ l
  | [], h => by simp [putA] at h; exact .inl h
  | x :: r, h => by
    unfold putA at h
    split at h
    · rcases List.mem_cons.1 h with h | h
      · exact .inl h
      · exact .inr (List.mem_cons_of_mem _ h)
    · rcases List.mem_cons.1 h with h | h
      · exact .inr (by simp [h])
      · exact (putA_mem h).imp id (List.mem_cons_of_mem _)
theorem putA_keys {k v : Int} {y : Int × Int} {l : List (Int × Int)} (h : y ∈ putA l k v) : y.1 = k ∨ y.1 ∈ l.map (·.1) := by
  rcases putA_mem h with h | h
  · exact .inl (by rw [h])
  · exact .inr (List.mem_map_of_mem h)
theorem putA_nodup {k v : Int} : ∀ {l : List (Int × Int)}, (l.map (·.1)).Nodup → ((putA l k v).map (·.1)).Nodup
  | [], _ => by simp [putA]
  | x :: r, h => by
    rw [List.map_cons, List.nodup_cons] at h
    unfold putA
    split
    · rename_i e
      rw [List.map_cons, List.nodup_cons]
      exact ⟨by rw [e]; exact h.1, h.2⟩
    · rename_i e
      rw [List.map_cons, List.nodup_cons]
      refine ⟨fun hm => ?_, putA_nodup h.2⟩
      obtain ⟨y, hy, e2⟩ := List.mem_map.1 hm
      rcases putA_keys hy with h1 | h1
      · exact e (by rw [← h1, e2])
      · exact h.1 (by rw [← e2]; exact h1)
theorem lookA_mem {k v : Int} : ∀ {l}, lookA l k = some v → (k, v) ∈ l
  | [], h => by simp [lookA] at h
  | x :: r, h => by
    unfold lookA at h
    split at h
    · rename_i e
      have : x.2 = v := by simpa using h
      subst this; subst e
      simp
    · exact List.mem_cons_of_mem _ (lookA_mem h)
theorem lookA_of {k : Int} : ∀ {l : List (Int × Int)}, k ∈ l.map (·.1) → ∃ v, lookA l k = some v
  | [], h => by simp at h
  | x :: r, h => by
    unfold lookA
    by_cases e : k = x.1
    · exact ⟨_, by rw [if_pos e]⟩
    · rw [if_neg e]
      refine lookA_of ?_
      rcases List.mem_cons.1 h with h | h
      · exact absurd h e
      · exact h
theorem lookA_none {k : Int} {l : List (Int × Int)} (h : k ∉ l.map (·.1)) : lookA l k = none := by
  cases e : lookA l k with
  | none => rfl
  | some v => exact absurd (List.mem_map_of_mem (f := (·.1)) (lookA_mem e)) h

/-! ### Numbers in bytes, the highest first -/
def be : Nat → Nat → Bs
  | 0, _ => []
  | m + 1, n => UInt8.ofNat (n / 256 ^ m) :: be m n
theorem be_length (n : Nat) : ∀ m, (be m n).length = m
  | 0 => rfl
  | m + 1 => by simp [be, be_length n m]
/-- Bytes laid over others, from a place on. -/
def over (l : Bs) (o : Nat) (b : Bs) : Bs := l.take o ++ b ++ l.drop (o + b.length)
theorem over_length {l : Bs} {o : Nat} {b : Bs} (h : o + b.length ≤ l.length) : (over l o b).length = l.length := by
  simp [over]; omega
def noughts (n : Nat) : Bs := List.replicate n 0
/-- The index of a group. -/
def idx (ns : List Int) : Bs := be 2 ns.length ++ (ns.flatMap fun n => be 2 n.toNat) ++ noughts (254 - 2 * ns.length)
/-- The head. -/
def hdB (groups used : Nat) : Bs := [0x48, 0x46] ++ be 8 groups ++ be 2 used ++ noughts 244
theorem fm2_length (ns : List Int) : (ns.flatMap fun n => be 2 n.toNat).length = 2 * ns.length := by
  induction ns with
  | nil => rfl
  | cons n ns ih => rw [List.flatMap_cons, List.length_append, ih, be_length, List.length_cons]; omega
theorem idx_length {ns : List Int} (h : ns.length ≤ 100) : (idx ns).length = 256 := by
  simp only [idx, List.length_append, be_length, fm2_length, noughts, List.length_replicate]; omega
theorem hdB_length (g u : Nat) : (hdB g u).length = 256 := by
  simp only [hdB, List.length_append, be_length, noughts, List.length_replicate, List.length_cons, List.length_nil]
end Go.Proofs.YtfaeklinhchidaaGreat

/-
  A tree of pages, plainly: its nodes, their pages, and what a change does. No program in sight.
-/
set_option linter.all false
set_option maxRecDepth 100000
namespace Go.Proofs.YtfaeklinhchidaaGreat
open Go Hold
/-- An entry: a key with its value, or with the page below it. -/
structure En where
  k : Bs
  v : Bs
  pg : Nat
structure Nd where
  leaf : Bool
  l : List En
def Nd.one (n : Nd) (e : En) : Nat := if n.leaf then e.k.length + e.v.length + 2 else e.k.length + 3
def Nd.bytes (n : Nd) : Nat := (n.l.map n.one).sum
def Nd.poor (n : Nd) : Bool := decide (n.bytes < 56) || (!n.leaf && decide (n.l.length < 2))
def lo8 (n : Nat) : UInt8 := UInt8.ofNat n
def hi8 (n : Nat) : UInt8 := UInt8.ofNat (n / 256)
def enB (leaf : Bool) (e : En) : Bs := (lo8 e.k.length :: e.k) ++ (if leaf then lo8 e.v.length :: e.v else [hi8 e.pg, lo8 e.pg])
def Nd.raw (n : Nd) : Bs := [if n.leaf then 76 else 73, hi8 n.l.length, lo8 n.l.length] ++ n.l.flatMap (enB n.leaf)
def pad (b : Bs) : Bs := b ++ List.replicate (256 - b.length) 0
structure EnOk (leaf : Bool) (e : En) : Prop where
  k : e.k.length ≤ 255
  v : e.v.length ≤ 255
  p : e.pg < 65536
  i : leaf = false → e.v = []
  j : leaf = true → e.pg = 0
def Srt (l : List En) : Prop := l.Pairwise fun a b => lexB a.k b.k = true
structure NdOk (n : Nd) : Prop where
  e : ∀ x ∈ n.l, EnOk n.leaf x
  s : Srt n.l
  b : n.bytes ≤ 253
inductive PgC where
  | zero
  | node (n : Nd)
  | free (n : Nat)
  | head (r f s : Nat)
def PgC.bytes : PgC → Bs
  | .zero => List.replicate 256 0
  | .node n => pad n.raw
  | .free n => pad [70, hi8 n, lo8 n]
  | .head r f s => pad [72, 84, hi8 r, lo8 r, hi8 f, lo8 f, hi8 s, lo8 s]
def PgC.Ok : PgC → Prop
  | .node n => NdOk n
  | .free n => n < 65536
  | _ => True
theorem enB_len (leaf : Bool) (e : En) : (enB leaf e).length = (⟨leaf, []⟩ : Nd).one e := by
  cases leaf <;> simp [enB, Nd.one] <;> omega
theorem raw_len (n : Nd) : n.raw.length = 3 + n.bytes := by
  have : ∀ (lf : Bool) (l : List En), (l.flatMap (enB lf)).length = (l.map (⟨lf, []⟩ : Nd).one).sum := by
    intro lf l
    induction l with
    | nil => rfl
    | cons e l ih => rw [List.flatMap_cons, List.length_append, ih, enB_len, List.map_cons, List.sum_cons]
  unfold Nd.raw Nd.bytes
  rw [List.length_append, this]
  rfl
theorem pad_len {b : Bs} (h : b.length ≤ 256) : (pad b).length = 256 := by
  unfold pad; rw [List.length_append, List.length_replicate]; omega
theorem PgC.len {x : PgC} (h : x.Ok) : x.bytes.length = 256 := by
  cases x with
  | zero => simp [PgC.bytes]
  | node n => exact pad_len (by rw [raw_len]; have := h.b; omega)
  | free n => exact pad_len (by simp)
  | head r f s => exact pad_len (by simp)
/-! ### Where a key belongs -/
def findP (n : Nd) (key : Bs) : Nat × Bool :=
  let i := n.l.countP fun e => lexB e.k key
  let t := n.l.any fun e => e.k == key
  (if !n.leaf && !t then i - 1 else i, t)
/-- Where too many entries are cut. -/
def halfGo (all : Nat) (one : En → Nat) : List En → Nat → Nat → Nat → Nat → Nat
  | [], _, _, _, at_ => at_
  | e :: l, i, s, best, at_ =>
    if max (s + one e) (all - (s + one e)) < best then halfGo all one l (i + 1) (s + one e) (max (s + one e) (all - (s + one e))) (i + 1)
    else halfGo all one l (i + 1) (s + one e) best at_
def halfP (n : Nd) : Nat := halfGo n.bytes n.one n.l.dropLast 0 0 506 1
/-! ### What is being done -/
structure St where
  root : Nat
  free : Nat
  fresh : Nat
  w : Nat
  cc : Nat → PgC
def upd (f : Nat → PgC) (p : Nat) (x : PgC) : Nat → PgC := fun q => if q = p then x else f q
open Classical in
noncomputable def putS (N : Nat) (s : St) (p : Nat) (x : PgC) : Option St := if p < N ∧ x.Ok then some { s with w := s.w + 1, cc := upd s.cc p x } else none
def readS (N : Nat) (s : St) (p : Nat) : Option Nd := if p < N then match s.cc p with
  | .node n => some n
  | _ => none else none
def takeS (N : Nat) (s : St) : Option (Nat × St) :=
  if s.free ≠ 0 then (if s.free < N then match s.cc s.free with
    | .free n => some (s.free, { s with free := n })
    | _ => none else none)
  else if s.fresh < N then some (s.fresh, { s with fresh := s.fresh + 1 }) else none
noncomputable def giveS (N : Nat) (s : St) (p : Nat) : Option St := do
  let s ← putS N s p (.free s.free)
  pure { s with free := p }
noncomputable def writeS (N : Nat) (s : St) (p : Nat) (key : Bs) (n : Nd) : Option (List En × St) :=
  if n.bytes ≤ 253 then do
    let s ← putS N s p (.node n)
    pure ([⟨key, [], p⟩], s)
  else do
    let at_ := halfP n
    let (o, s) ← takeS N s
    match n.l.drop at_ with
    | [] => none
    | e :: _ =>
      let s ← putS N s p (.node ⟨n.leaf, n.l.take at_⟩)
      let s ← putS N s o (.node ⟨n.leaf, n.l.drop at_⟩)
      pure ([⟨key, [], p⟩, ⟨e.k, [], o⟩], s)
/-- .. where nothing is to be made good. -/
def mendE (N : Nat) (s : St) (n : Nd) (i : Nat) : Option (Nd × St) :=
  if n.l.length < 2 then some (n, s) else do
    let c ← n.l[i]?
    let ch ← readS N s c.pg
    if ch.poor then none else some (n, s)
noncomputable def atS (M : Nat → St → Nd → Nat → Option (Nd × St)) (N : Nat) (leafF : Nd → Nd) (key : Bs) : Nat → St → Nat → Bs → Option (List En × St)
  | 0, _, _, _ => none
  | f + 1, s, p, low => do
    let n ← readS N s p
    if n.leaf then writeS N s p low (leafF n) else do
      let i := (findP n key).1
      let e ← n.l[i]?
      let (below, s) ← atS M N leafF key f s e.pg e.k
      let (n, s) ← M N s ⟨false, n.l.take i ++ below ++ n.l.drop (i + 1)⟩ i
      writeS N s p low n
noncomputable def dropS (N : Nat) : Nat → St → Option St
  | 0, _ => none
  | f + 1, s => do
    let n ← readS N s s.root
    match n.leaf, n.l with
    | false, [e] => do
      let s ← giveS N s s.root
      dropS N f { s with root := e.pg }
    | _, _ => pure s
/-- A key has a value, in a leaf. -/
def putF (key val : Bs) (n : Nd) : Nd := if (findP n key).2 then { n with l := n.l.set (findP n key).1 ⟨key, val, 0⟩ } else { n with l := n.l.take (findP n key).1 ++ [⟨key, val, 0⟩] ++ n.l.drop (findP n key).1 }
/-- The leaf of a key, and its place there. -/
def leafS (N : Nat) (s : St) (key : Bs) : Nat → Nat → Option (Nd × Nat × Bool)
  | 0, _ => none
  | f + 1, p => if p = 0 then none else (readS N s p).bind fun n => if n.leaf then some (n, findP n key) else (n.l[(findP n key).1]?).bind fun e => leafS N s key f e.pg
/-- All pairs below a page, in their order; how many pages are read. -/
def pairsKids (g : Nat → Option (List En × Nat)) : List En → Option (List En × Nat)
  | [] => some ([], 0)
  | e :: l => (g e.pg).bind fun a => (pairsKids g l).bind fun b => some (a.1 ++ b.1, a.2 + b.2)
def pairsS (N : Nat) (s : St) : Nat → Nat → Option (List En × Nat)
  | 0, _ => none
  | f + 1, p => (readS N s p).bind fun n => if (findP n []).1 = 0 then (if n.leaf then some (n.l, 1) else (pairsKids (pairsS N s f) n.l).bind fun q => some (q.1, q.2 + 1)) else none
noncomputable def startS (N : Nat) (s : St) : Option St := if s.root = 0 then (takeS N s).bind fun q => putS N { q.2 with root := q.1 } q.1 (.node ⟨true, []⟩) else some s
noncomputable def growS (N : Nat) (up : List En) (s : St) : Option St := if 1 < up.length then (takeS N s).bind fun q => putS N { q.2 with root := q.1 } q.1 (.node ⟨false, up⟩) else some s
open Classical in
noncomputable def finS (N : Nat) (s : St) : Option St := if s.root < 65536 ∧ s.free < 65536 ∧ s.fresh < 65536 ∧ s.w < 100 then putS N s 0 (.head s.root s.free s.fresh) else none
noncomputable def doS (M : Nat → St → Nd → Nat → Option (Nd × St)) (N : Nat) (leafF : Nd → Nd) (key : Bs) (s : St) : Option St :=
  (startS N s).bind fun s1 => (atS M N leafF key 3 s1 s1.root []).bind fun q => (growS N q.1 q.2).bind fun s3 => (dropS N 3 s3).bind fun s4 => finS N s4
end Go.Proofs.YtfaeklinhchidaaGreat

/-
  The order of keys; where a key belongs. No program in sight.
-/
set_option linter.all false
set_option maxRecDepth 100000
namespace Go.Proofs.YtfaeklinhchidaaGreat
open Go Hold
theorem lexB_irrefl : ∀ a : List UInt8, lexB a a = false
  | [] => by simp [lexB]
  | x :: a => by simp [lexB, lexB_irrefl a]
theorem u8_lt {a b : UInt8} : a < b ↔ a.toNat < b.toNat := UInt8.lt_iff_toNat_lt
theorem u8_eq {a b : UInt8} : a = b ↔ a.toNat = b.toNat := ⟨fun h => by rw [h], fun h => UInt8.toNat_inj.1 h⟩
theorem lexB_trans : ∀ a b c : List UInt8, lexB a b = true → lexB b c = true → lexB a c = true
  | [], [], c, h, _ => by simp [lexB] at h
  | [], _ :: _, [], _, h => by simp [lexB] at h
  | [], _ :: _, _ :: _, _, _ => by simp [lexB]
  | _ :: _, [], _, h, _ => by simp [lexB] at h
  | _ :: _, _ :: _, [], _, h => by simp [lexB] at h
  | x :: a, y :: b, z :: c, h1, h2 => by
    simp only [lexB] at h1 h2 ⊢
    have ih := lexB_trans a b c
    by_cases e1 : x = y
    · subst e1
      rw [if_pos rfl] at h1
      by_cases e2 : x = z
      · subst e2
        rw [if_pos rfl] at h2 ⊢
        exact ih h1 h2
      · rw [if_neg e2] at h2 ⊢
        exact h2
    · rw [if_neg e1] at h1
      have h1 := of_decide_eq_true h1
      by_cases e2 : y = z
      · subst e2
        rw [if_neg e1]
        exact decide_eq_true h1
      · rw [if_neg e2] at h2
        have h2 := of_decide_eq_true h2
        rw [u8_lt] at h1 h2
        rw [if_neg (fun e => by rw [u8_eq] at e; omega)]
        exact decide_eq_true (by rw [u8_lt]; omega)
theorem lexB_asym {a b : List UInt8} (h : lexB a b = true) : lexB b a = false := by
  cases h2 : lexB b a
  · rfl
  · have := lexB_trans a b a h h2
    rw [lexB_irrefl] at this; cases this
theorem cmp_lt : ∀ a b : List UInt8, decide (Lib.compareBytes a b < 0) = lexB a b
  | [], [] => by simp [Lib.compareBytes, lexB]
  | [], _ :: _ => by simp [Lib.compareBytes, lexB]
  | _ :: _, [] => by simp [Lib.compareBytes, lexB]
  | a :: as, b :: bs => by
    have ih := cmp_lt as bs
    unfold Lib.compareBytes lexB
    by_cases e : a = b
    · subst e
      rw [if_pos rfl, if_neg (by rw [u8_lt]; omega), if_neg (by rw [u8_lt]; omega)]
      exact ih
    · rw [if_neg e]
      rw [u8_eq] at e
      by_cases h : a < b
      · rw [if_pos h]; simp [h]
      · have h2 : b < a := by rw [u8_lt] at h ⊢; omega
        rw [if_neg h, if_pos h2]; simp [h]
theorem cmp_eq : ∀ a b : List UInt8, decide (Lib.compareBytes a b = 0) = (a == b)
  | [], [] => by simp [Lib.compareBytes]
  | [], _ :: _ => by simp [Lib.compareBytes]
  | _ :: _, [] => by simp [Lib.compareBytes]
  | a :: as, b :: bs => by
    have ih := cmp_eq as bs
    unfold Lib.compareBytes
    by_cases e : a = b
    · subst e
      rw [if_neg (by rw [u8_lt]; omega), if_neg (by rw [u8_lt]; omega), ih]
      simp
    · have e2 : (a :: as == b :: bs) = false := by simp [e]
      rw [e2]
      rw [u8_eq] at e
      by_cases h : a < b
      · rw [if_pos h]; rfl
      · have h2 : b < a := by rw [u8_lt] at h ⊢; omega
        rw [if_neg h, if_pos h2]; rfl
theorem lexB_total {a b : List UInt8} (h1 : lexB a b = false) (h2 : a ≠ b) : lexB b a = true := by
  have e1 := cmp_lt a b
  rw [h1, decide_eq_false_iff_not] at e1
  have e2 := cmp_eq a b
  have : (a == b) = false := by simpa using h2
  rw [this, decide_eq_false_iff_not] at e2
  have key : ∀ a b : List UInt8, Lib.compareBytes a b > 0 → lexB b a = true := by
    intro a
    induction a with
    | nil => intro b h; cases b <;> simp [Lib.compareBytes] at h
    | cons x a ih =>
      intro b h
      cases b with
      | nil => rfl
      | cons y b =>
        unfold Lib.compareBytes at h
        unfold lexB
        by_cases h1 : x < y
        · rw [if_pos h1] at h; exact absurd h (by decide)
        · rw [if_neg h1] at h
          by_cases h2 : y < x
          · rw [if_neg (fun e => by rw [u8_lt] at h2; rw [u8_eq] at e; omega)]; simpa using h2
          · rw [if_neg h2] at h
            rw [if_pos (by rw [u8_lt] at h1 h2; rw [u8_eq]; omega)]
            exact ih b h
  exact key a b (by omega)
theorem count_at {l : List En} {p : En → Bool} {i : Nat} (hi : i ≤ l.length) (h1 : ∀ j (hj : j < l.length), j < i → p l[j] = true) (h2 : ∀ j (hj : j < l.length), i ≤ j → p l[j] = false) : l.countP p = i := by
  rw [← List.take_append_drop i l, List.countP_append]
  have e1 : (l.take i).countP p = i := by
    have : (l.take i).countP p = (l.take i).length := List.countP_eq_length.2 fun x hx => by
      obtain ⟨j, hj, e⟩ := List.getElem_of_mem hx
      rw [List.length_take] at hj
      rw [← e, List.getElem_take]
      exact h1 j (by omega) (by omega)
    rw [this, List.length_take]; omega
  have e2 : (l.drop i).countP p = 0 := List.countP_eq_zero.2 fun x hx => by
    obtain ⟨j, hj, e⟩ := List.getElem_of_mem hx
    rw [List.length_drop] at hj
    rw [← e, List.getElem_drop]
    rw [h2 (i + j) (by omega) (by omega)]; simp
  omega
theorem srt_lt {l : List En} (h : Srt l) {i j : Nat} (hij : i < j) (hj : j < l.length) : lexB (l[i]'(by omega)).k l[j].k = true := List.pairwise_iff_getElem.1 h i j (by omega) hj hij
/-- The places ahead of which all keys are less. -/
structure Cutat (l : List En) (key : List UInt8) (i j : Nat) : Prop where
  le : i ≤ j
  hj : j ≤ l.length
  a : ∀ m (hm : m < l.length), m < i → lexB l[m].k key = true
  b : ∀ m (hm : m < l.length), j ≤ m → lexB l[m].k key = false
theorem Cutat.up {l : List En} {key : List UInt8} {i j h : Nat} (c : Cutat l key i j) (hs : Srt l) (h1 : i ≤ h) (h2 : h < j) (hh : h < l.length) (hx : lexB l[h].k key = true) : Cutat l key (h + 1) j :=
  ⟨h2, c.hj, fun m hm hlt => by
    by_cases e : m = h
    · subst e; exact hx
    · exact lexB_trans _ _ _ (srt_lt hs (show m < h by omega) hh) hx, c.b⟩
theorem Cutat.down {l : List En} {key : List UInt8} {i j h : Nat} (c : Cutat l key i j) (hs : Srt l) (h1 : i ≤ h) (hh : h < l.length) (hx : lexB l[h].k key = false) : Cutat l key i h :=
  ⟨h1, by omega, c.a, fun m hm hle => by
    by_cases e : m = h
    · subst e; exact hx
    · cases h3 : lexB l[m].k key
      · rfl
      · have := lexB_trans _ _ _ (srt_lt hs (show h < m by omega) hm) h3
        rw [hx] at this; cases this⟩
theorem Cutat.count {l : List En} {key : List UInt8} {i : Nat} (c : Cutat l key i i) : l.countP (fun e => lexB e.k key) = i := count_at c.hj c.a c.b
theorem Cutat.there {l : List En} {key : List UInt8} {i : Nat} (c : Cutat l key i i) (hs : Srt l) : (l.any fun e => e.k == key) = if h : i < l.length then l[i].k == key else false := by
  split
  · rename_i h
    cases e : l[i].k == key
    · rw [List.any_eq_false]
      intro x hx hk
      obtain ⟨m, hm, rfl⟩ := List.getElem_of_mem hx
      have hk : l[m].k = key := by simpa using hk
      by_cases h1 : m < i
      · have := c.a m hm h1
        rw [hk, lexB_irrefl] at this; cases this
      · by_cases h2 : m = i
        · subst h2; rw [hk] at e; simp at e
        · have h3 := srt_lt hs (show i < m by omega) hm
          rw [hk, c.b i h (Nat.le_refl _)] at h3; cases h3
    · rw [List.any_eq_true]
      exact ⟨l[i], List.getElem_mem h, e⟩
  · rename_i h
    rw [List.any_eq_false]
    intro x hx hk
    obtain ⟨m, hm, rfl⟩ := List.getElem_of_mem hx
    have hk : l[m].k = key := by simpa using hk
    have := c.a m hm (by omega)
    rw [hk, lexB_irrefl] at this; cases this
end Go.Proofs.YtfaeklinhchidaaGreat

/-
  How a tree's pages lie, plainly. No program in sight.
-/
set_option linter.all false
set_option maxRecDepth 100000
namespace Go.Proofs.YtfaeklinhchidaaGreat
open Go Hold
abbrev Acc := List Nat × Option Bs
def ahead : Option Bs → Bs → Bool
  | none, _ => true
  | some k, e => lexB k e
def lookLeaf : List En → Option Bs → Option (Option Bs)
  | [], last => some last
  | e :: l, last => if e.k ≠ [] ∧ ahead last e.k = true then lookLeaf l (some e.k) else none
theorem lookLeaf_cons (e : En) (l : List En) (last : Option Bs) : lookLeaf (e :: l) last = if e.k ≠ [] ∧ ahead last e.k = true then lookLeaf l (some e.k) else none := by
  cases last <;> simp [lookLeaf]
def lookKids (g : Nat → Acc → Option (Nat × Acc)) : List En → Bool → Nat → Acc → Option (Nat × Acc)
  | [], _, high, acc => some (high, acc)
  | e :: l, first, high, acc => (g e.pg acc).bind fun q => if first = false ∧ q.1 ≠ high then none else lookKids g l false q.1 q.2
def lookS (N root fresh : Nat) (cc : Nat → PgC) : Nat → Nat → Acc → Option (Nat × Acc)
  | 0, _, _ => none
  | f + 1, p, acc =>
    if 1 ≤ p ∧ p < fresh ∧ p < N ∧ p ∉ acc.1 then
      match cc p with
      | .node n =>
        if p ≠ root ∧ n.poor = true then none
        else if n.leaf then (lookLeaf n.l acc.2).bind fun last => some (1, (acc.1 ++ [p], last))
        else (lookKids (lookS N root fresh cc f) n.l true 0 (acc.1 ++ [p], acc.2)).bind fun q => some (q.1 + 1, q.2)
      | _ => none
    else none
theorem lookKids_len {g : Nat → Acc → Option (Nat × Acc)} (hg : ∀ p acc q, g p acc = some q → acc.1.length ≤ q.2.1.length) : ∀ (l : List En) (first : Bool) (high : Nat) (acc : Acc) (q : Nat × Acc), lookKids g l first high acc = some q → acc.1.length ≤ q.2.1.length
  | [], first, high, acc, q, h => by cases h; exact Nat.le_refl _
  | e :: l, first, high, acc, q, h => by
    unfold lookKids at h
    obtain ⟨q1, h1, h2⟩ := Option.bind_eq_some_iff.1 h
    split at h2
    · cases h2
    · exact Nat.le_trans (hg _ _ _ h1) (lookKids_len hg l false _ _ _ h2)
theorem lookS_len {N root fresh : Nat} {cc : Nat → PgC} : ∀ (f p : Nat) (acc : Acc) (q : Nat × Acc), lookS N root fresh cc f p acc = some q → acc.1.length < q.2.1.length
  | 0, p, acc, q, h => by cases h
  | f + 1, p, acc, q, h => by
    unfold lookS at h
    split at h
    · split at h
      · rename_i n _
        split at h
        · cases h
        · split at h
          · obtain ⟨l, h1, h2⟩ := Option.bind_eq_some_iff.1 h
            cases h2
            simp
          · obtain ⟨q1, h1, h2⟩ := Option.bind_eq_some_iff.1 h
            cases h2
            have h3 : (acc.1 ++ [p]).length ≤ q1.2.1.length := lookKids_len (fun p acc q h => Nat.le_of_lt (lookS_len f p acc q h)) _ _ _ _ _ h1
            rw [List.length_append] at h3
            exact h3
      · cases h
    · cases h
end Go.Proofs.YtfaeklinhchidaaGreat
