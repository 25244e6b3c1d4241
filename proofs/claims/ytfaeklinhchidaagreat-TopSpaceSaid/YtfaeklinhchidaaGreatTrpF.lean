/-
  A log of groups of pages, plainly: what it holds, what its calls do. No program in sight.
-/
import Derived.Test.YtfaeklinhchidaaGreatHp
import Derived.Test.YtfaeklinhchidaaGreatPar
import Derived.Lib.Bytealg
set_option linter.all false
set_option maxRecDepth 100000
namespace Go.Proofs.YtfaeklinhchidaaGreat
open Go Hold
abbrev Bs := List UInt8
/-! ### Maps from numbers to numbers -/
def putA : List (Int × Int) → Int → Int → List (Int × Int)
  | [], k, v => [(k, v)]
  | x :: r, k, v => if k = x.1 then (k, v) :: r else x :: putA r k v
def lookA : List (Int × Int) → Int → Option Int
  | [], _ => none
  | x :: r, k => if k = x.1 then some x.2 else lookA r k
theorem lookA_put (k v k' : Int) : ∀ l, lookA (putA l k v) k' = if k' = k then some v else lookA l k'
  | [] => by simp [putA, lookA]
  | x :: r => by
    have ih := lookA_put k v k' r
    unfold putA
    by_cases h : k = x.1
    · subst h
      rw [if_pos rfl]
      simp only [lookA]
      split <;> simp_all
    · rw [if_neg h]
      simp only [lookA, ih]
      by_cases h1 : k' = x.1
      · rw [if_pos h1, if_neg (by omega), if_pos h1]
      · rw [if_neg h1, if_neg h1]
theorem putA_mem {k v : Int} {y : Int × Int} : ∀ {l}, y ∈ putA l k v → y = (k, v) ∨ y ∈ l
  | [], h => by simp [putA] at h; exact .inl h
  | x :: r, h => by
    unfold putA at h
    split at h
    · rcases List.mem_cons.1 h with h | h
      · exact .inl h
      · exact .inr (List.mem_cons_of_mem _ h)
    · rcases List.mem_cons.1 h with h | h
      · exact .inr (by simp [h])
      · exact (putA_mem h).imp id (List.mem_cons_of_mem _)
theorem putA_keys {k v : Int} {y : Int × Int} {l : List (Int × Int)} (h : y ∈ putA l k v) : y.1 = k ∨ y.1 ∈ l.map (·.1) := by
  rcases putA_mem h with h | h
  · exact .inl (by rw [h])
  · exact .inr (List.mem_map_of_mem h)
theorem putA_nodup {k v : Int} : ∀ {l : List (Int × Int)}, (l.map (·.1)).Nodup → ((putA l k v).map (·.1)).Nodup
  | [], _ => by simp [putA]
  | x :: r, h => by
    rw [List.map_cons, List.nodup_cons] at h
    unfold putA
    split
    · rename_i e
      rw [List.map_cons, List.nodup_cons]
      exact ⟨by rw [e]; exact h.1, h.2⟩
    · rename_i e
      rw [List.map_cons, List.nodup_cons]
      refine ⟨fun hm => ?_, putA_nodup h.2⟩
      obtain ⟨y, hy, e2⟩ := List.mem_map.1 hm
      rcases putA_keys hy with h1 | h1
      · exact e (by rw [← h1, e2])
      · exact h.1 (by rw [← e2]; exact h1)
theorem lookA_mem {k v : Int} : ∀ {l}, lookA l k = some v → (k, v) ∈ l
  | [], h => by simp [lookA] at h
  | x :: r, h => by
    unfold lookA at h
    split at h
    · rename_i e
      have : x.2 = v := by simpa using h
      subst this; subst e
      simp
    · exact List.mem_cons_of_mem _ (lookA_mem h)
theorem lookA_of {k : Int} : ∀ {l : List (Int × Int)}, k ∈ l.map (·.1) → ∃ v, lookA l k = some v
  | [], h => by simp at h
  | x :: r, h => by
    unfold lookA
    by_cases e : k = x.1
    · exact ⟨_, by rw [if_pos e]⟩
    · rw [if_neg e]
      refine lookA_of ?_
      rcases List.mem_cons.1 h with h | h
      · exact absurd h e
      · exact h
theorem lookA_none {k : Int} {l : List (Int × Int)} (h : k ∉ l.map (·.1)) : lookA l k = none := by
  cases e : lookA l k with
  | none => rfl
  | some v => exact absurd (List.mem_map_of_mem (f := (·.1)) (lookA_mem e)) h

/-! ### Numbers in bytes, the highest first -/
def be : Nat → Nat → Bs
  | 0, _ => []
  | m + 1, n => UInt8.ofNat (n / 256 ^ m) :: be m n
theorem be_length (n : Nat) : ∀ m, (be m n).length = m
  | 0 => rfl
  | m + 1 => by simp [be, be_length n m]
/-- Bytes laid over others, from a place on. -/
def over (l : Bs) (o : Nat) (b : Bs) : Bs := l.take o ++ b ++ l.drop (o + b.length)
theorem over_length {l : Bs} {o : Nat} {b : Bs} (h : o + b.length ≤ l.length) : (over l o b).length = l.length := by
  simp [over]; omega
def noughts (n : Nat) : Bs := List.replicate n 0
/-- The index of a group. -/
def idx (ns : List Int) : Bs := be 2 ns.length ++ (ns.flatMap fun n => be 2 n.toNat) ++ noughts (254 - 2 * ns.length)
/-- The head. -/
def hdB (groups used : Nat) : Bs := [0x48, 0x46] ++ be 8 groups ++ be 2 used ++ noughts 244
theorem fm2_length (ns : List Int) : (ns.flatMap fun n => be 2 n.toNat).length = 2 * ns.length := by
  induction ns with
  | nil => rfl
  | cons n ns ih => rw [List.flatMap_cons, List.length_append, ih, be_length, List.length_cons]; omega
theorem idx_length {ns : List Int} (h : ns.length ≤ 100) : (idx ns).length = 256 := by
  simp only [idx, List.length_append, be_length, fm2_length, noughts, List.length_replicate]; omega
theorem hdB_length (g u : Nat) : (hdB g u).length = 256 := by
  simp only [hdB, List.length_append, be_length, noughts, List.length_replicate, List.length_cons, List.length_nil]
end Go.Proofs.YtfaeklinhchidaaGreat

/-
  A tree of pages, plainly: its nodes, their pages, and what a change does. No program in sight.
-/
set_option linter.all false
set_option maxRecDepth 100000
namespace Go.Proofs.YtfaeklinhchidaaGreat
open Go Hold
/-- An entry: a key with its value, or with the page below it. -/
structure En where
  k : Bs
  v : Bs
  pg : Nat
structure Nd where
  leaf : Bool
  l : List En
def Nd.one (n : Nd) (e : En) : Nat := if n.leaf then e.k.length + e.v.length + 2 else e.k.length + 3
def Nd.bytes (n : Nd) : Nat := (n.l.map n.one).sum
def Nd.poor (n : Nd) : Bool := decide (n.bytes < 56) || (!n.leaf && decide (n.l.length < 2))
def lo8 (n : Nat) : UInt8 := UInt8.ofNat n
def hi8 (n : Nat) : UInt8 := UInt8.ofNat (n / 256)
def enB (leaf : Bool) (e : En) : Bs := (lo8 e.k.length :: e.k) ++ (if leaf then lo8 e.v.length :: e.v else [hi8 e.pg, lo8 e.pg])
def Nd.raw (n : Nd) : Bs := [if n.leaf then 76 else 73, hi8 n.l.length, lo8 n.l.length] ++ n.l.flatMap (enB n.leaf)
def pad (b : Bs) : Bs := b ++ List.replicate (256 - b.length) 0
structure EnOk (leaf : Bool) (e : En) : Prop where
  k : e.k.length ≤ 255
  v : e.v.length ≤ 255
  p : e.pg < 65536
  i : leaf = false → e.v = []
  j : leaf = true → e.pg = 0
def Srt (l : List En) : Prop := l.Pairwise fun a b => lexB a.k b.k = true
structure NdOk (n : Nd) : Prop where
  e : ∀ x ∈ n.l, EnOk n.leaf x
  s : Srt n.l
  b : n.bytes ≤ 253
inductive PgC where
  | zero
  | node (n : Nd)
  | free (n : Nat)
  | head (r f s : Nat)
def PgC.bytes : PgC → Bs
  | .zero => List.replicate 256 0
  | .node n => pad n.raw
  | .free n => pad [70, hi8 n, lo8 n]
  | .head r f s => pad [72, 84, hi8 r, lo8 r, hi8 f, lo8 f, hi8 s, lo8 s]
def PgC.Ok : PgC → Prop
  | .node n => NdOk n
  | .free n => n < 65536
  | _ => True
theorem enB_len (leaf : Bool) (e : En) : (enB leaf e).length = (⟨leaf, []⟩ : Nd).one e := by
  cases leaf <;> simp [enB, Nd.one] <;> omega
theorem raw_len (n : Nd) : n.raw.length = 3 + n.bytes := by
  have : ∀ (lf : Bool) (l : List En), (l.flatMap (enB lf)).length = (l.map (⟨lf, []⟩ : Nd).one).sum := by
    intro lf l
    induction l with
    | nil => rfl
    | cons e l ih => rw [List.flatMap_cons, List.length_append, ih, enB_len, List.map_cons, List.sum_cons]
  unfold Nd.raw Nd.bytes
  rw [List.length_append, this]
  rfl
theorem pad_len {b : Bs} (h : b.length ≤ 256) : (pad b).length = 256 := by
  unfold pad; rw [List.length_append, List.length_replicate]; omega
theorem PgC.len {x : PgC} (h : x.Ok) : x.bytes.length = 256 := by
  cases x with
  | zero => simp [PgC.bytes]
  | node n => exact pad_len (by rw [raw_len]; have := h.b; omega)
  | free n => exact pad_len (by simp)
  | head r f s => exact pad_len (by simp)
/-! ### Where a key belongs -/
def findP (n : Nd) (key : Bs) : Nat × Bool :=
  let i := n.l.countP fun e => lexB e.k key
  let t := n.l.any fun e => e.k == key
  (if !n.leaf && !t then i - 1 else i, t)
/-- Where too many entries are cut. -/
def halfGo (all : Nat) (one : En → Nat) : List En → Nat → Nat → Nat → Nat → Nat
  | [], _, _, _, at_ => at_
  | e :: l, i, s, best, at_ =>
    if max (s + one e) (all - (s + one e)) < best then halfGo all one l (i + 1) (s + one e) (max (s + one e) (all - (s + one e))) (i + 1)
    else halfGo all one l (i + 1) (s + one e) best at_
def halfP (n : Nd) : Nat := halfGo n.bytes n.one n.l.dropLast 0 0 506 1
/-! ### What is being done -/
structure St where
  root : Nat
  free : Nat
  fresh : Nat
  w : Nat
  cc : Nat → PgC
def upd (f : Nat → PgC) (p : Nat) (x : PgC) : Nat → PgC := fun q => if q = p then x else f q
open Classical in
noncomputable def putS (N : Nat) (s : St) (p : Nat) (x : PgC) : Option St := if p < N ∧ x.Ok then some { s with w := s.w + 1, cc := upd s.cc p x } else none
def readS (N : Nat) (s : St) (p : Nat) : Option Nd := if p < N then match s.cc p with
  | .node n => some n
  | _ => none else none
def takeS (N : Nat) (s : St) : Option (Nat × St) :=
  if s.free ≠ 0 then (if s.free < N then match s.cc s.free with
    | .free n => some (s.free, { s with free := n })
    | _ => none else none)
  else if s.fresh < N then some (s.fresh, { s with fresh := s.fresh + 1 }) else none
noncomputable def giveS (N : Nat) (s : St) (p : Nat) : Option St := do
  let s ← putS N s p (.free s.free)
  pure { s with free := p }
noncomputable def writeS (N : Nat) (s : St) (p : Nat) (key : Bs) (n : Nd) : Option (List En × St) :=
  if n.bytes ≤ 253 then do
    let s ← putS N s p (.node n)
    pure ([⟨key, [], p⟩], s)
  else do
    let at_ := halfP n
    let (o, s) ← takeS N s
    match n.l.drop at_ with
    | [] => none
    | e :: _ =>
      let s ← putS N s p (.node ⟨n.leaf, n.l.take at_⟩)
      let s ← putS N s o (.node ⟨n.leaf, n.l.drop at_⟩)
      pure ([⟨key, [], p⟩, ⟨e.k, [], o⟩], s)
/-- .. where nothing is to be made good. -/
def mendE (N : Nat) (s : St) (n : Nd) (i : Nat) : Option (Nd × St) :=
  if n.l.length < 2 then some (n, s) else do
    let c ← n.l[i]?
    let ch ← readS N s c.pg
    if ch.poor then none else some (n, s)
noncomputable def atS (M : Nat → St → Nd → Nat → Option (Nd × St)) (N : Nat) (leafF : Nd → Nd) (key : Bs) : Nat → St → Nat → Bs → Option (List En × St)
  | 0, _, _, _ => none
  | f + 1, s, p, low => do
    let n ← readS N s p
    if n.leaf then writeS N s p low (leafF n) else do
      let i := (findP n key).1
      let e ← n.l[i]?
      let (below, s) ← atS M N leafF key f s e.pg e.k
      let (n, s) ← M N s ⟨false, n.l.take i ++ below ++ n.l.drop (i + 1)⟩ i
      writeS N s p low n
noncomputable def dropS (N : Nat) : Nat → St → Option St
  | 0, _ => none
  | f + 1, s => do
    let n ← readS N s s.root
    match n.leaf, n.l with
    | false, [e] => do
      let s ← giveS N s s.root
      dropS N f { s with root := e.pg }
    | _, _ => pure s
/-- A key has a value, in a leaf. -/
def putF (key val : Bs) (n : Nd) : Nd := if (findP n key).2 then { n with l := n.l.set (findP n key).1 ⟨key, val, 0⟩ } else { n with l := n.l.take (findP n key).1 ++ [⟨key, val, 0⟩] ++ n.l.drop (findP n key).1 }
/-- A key is gone from a leaf. -/
def delF (key : Bs) (n : Nd) : Nd := { n with l := n.l.eraseIdx (findP n key).1 }
/-- The leaf of a key, and its place there. -/
def leafS (N : Nat) (s : St) (key : Bs) : Nat → Nat → Option (Nd × Nat × Bool)
  | 0, _ => none
  | f + 1, p => if p = 0 then none else (readS N s p).bind fun n => if n.leaf then some (n, findP n key) else (n.l[(findP n key).1]?).bind fun e => leafS N s key f e.pg
noncomputable def startS (N : Nat) (s : St) : Option St := if s.root = 0 then (takeS N s).bind fun q => putS N { q.2 with root := q.1 } q.1 (.node ⟨true, []⟩) else some s
noncomputable def growS (N : Nat) (up : List En) (s : St) : Option St := if 1 < up.length then (takeS N s).bind fun q => putS N { q.2 with root := q.1 } q.1 (.node ⟨false, up⟩) else some s
open Classical in
noncomputable def finS (N : Nat) (s : St) : Option St := if s.root < 65536 ∧ s.free < 65536 ∧ s.fresh < 65536 ∧ s.w < 100 then putS N s 0 (.head s.root s.free s.fresh) else none
noncomputable def doS (M : Nat → St → Nd → Nat → Option (Nd × St)) (N : Nat) (leafF : Nd → Nd) (key : Bs) (s : St) : Option St :=
  (startS N s).bind fun s1 => (atS M N leafF key 3 s1 s1.root []).bind fun q => (growS N q.1 q.2).bind fun s3 => (dropS N 3 s3).bind fun s4 => finS N s4
end Go.Proofs.YtfaeklinhchidaaGreat

/-
  The order of keys; where a key belongs. No program in sight.
-/
set_option linter.all false
set_option maxRecDepth 100000
namespace Go.Proofs.YtfaeklinhchidaaGreat
open Go Hold
theorem lexB_irrefl : ∀ a : List UInt8, lexB a a = false
  | [] => by simp [lexB]
  | x :: a => by simp [lexB, lexB_irrefl a]
theorem u8_lt {a b : UInt8} : a < b ↔ a.toNat < b.toNat := UInt8.lt_iff_toNat_lt
theorem u8_eq {a b : UInt8} : a = b ↔ a.toNat = b.toNat := ⟨fun h => by rw [h], fun h => UInt8.toNat_inj.1 h⟩
theorem lexB_trans : ∀ a b c : List UInt8, lexB a b = true → lexB b c = true → lexB a c = true
  | [], [], c, h, _ => by simp [lexB] at h
  | [], _ :: _, [], _, h => by simp [lexB] at h
  | [], _ :: _, _ :: _, _, _ => by simp [lexB]
  | _ :: _, [], _, h, _ => by simp [lexB] at h
  | _ :: _, _ :: _, [], _, h => by simp [lexB] at h
  | x :: a, y :: b, z :: c, h1, h2 => by
    simp only [lexB] at h1 h2 ⊢
    have ih := lexB_trans a b c
    by_cases e1 : x = y
    · subst e1
      rw [if_pos rfl] at h1
      by_cases e2 : x = z
      · subst e2
        rw [if_pos rfl] at h2 ⊢
        exact ih h1 h2
      · rw [if_neg e2] at h2 ⊢
        exact h2
    · rw [if_neg e1] at h1
      have h1 := of_decide_eq_true h1
      by_cases e2 : y = z
      · subst e2
        rw [if_neg e1]
        exact decide_eq_true h1
      · rw [if_neg e2] at h2
        have h2 := of_decide_eq_true h2
        rw [u8_lt] at h1 h2
        rw [if_neg (fun e => by rw [u8_eq] at e; omega)]
        exact decide_eq_true (by rw [u8_lt]; omega)
theorem lexB_asym {a b : List UInt8} (h : lexB a b = true) : lexB b a = false := by
  cases h2 : lexB b a
  · rfl
  · have := lexB_trans a b a h h2
    rw [lexB_irrefl] at this; cases this
theorem cmp_lt : ∀ a b : List UInt8, decide (Lib.compareBytes a b < 0) = lexB a b
  | [], [] => by simp [Lib.compareBytes, lexB]
  | [], _ :: _ => by simp [Lib.compareBytes, lexB]
  | _ :: _, [] => by simp [Lib.compareBytes, lexB]
  | a :: as, b :: bs => by
    have ih := cmp_lt as bs
    unfold Lib.compareBytes lexB
    by_cases e : a = b
    · subst e
      rw [if_pos rfl, if_neg (by rw [u8_lt]; omega), if_neg (by rw [u8_lt]; omega)]
      exact ih
    · rw [if_neg e]
      rw [u8_eq] at e
      by_cases h : a < b
      · rw [if_pos h]; simp [h]
      · have h2 : b < a := by rw [u8_lt] at h ⊢; omega
        rw [if_neg h, if_pos h2]; simp [h]
theorem cmp_eq : ∀ a b : List UInt8, decide (Lib.compareBytes a b = 0) = (a == b)
  | [], [] => by simp [Lib.compareBytes]
  | [], _ :: _ => by simp [Lib.compareBytes]
  | _ :: _, [] => by simp [Lib.compareBytes]
  | a :: as, b :: bs => by
    have ih := cmp_eq as bs
    unfold Lib.compareBytes
    by_cases e : a = b
    · subst e
      rw [if_neg (by rw [u8_lt]; omega), if_neg (by rw [u8_lt]; omega), ih]
      simp
    · have e2 : (a :: as == b :: bs) = false := by simp [e]
      rw [e2]
      rw [u8_eq] at e
      by_cases h : a < b
      · rw [if_pos h]; rfl
      · have h2 : b < a := by rw [u8_lt] at h ⊢; omega
        rw [if_neg h, if_pos h2]; rfl
theorem lexB_total {a b : List UInt8} (h1 : lexB a b = false) (h2 : a ≠ b) : lexB b a = true := by
  have e1 := cmp_lt a b
  rw [h1, decide_eq_false_iff_not] at e1
  have e2 := cmp_eq a b
  have : (a == b) = false := by simpa using h2
  rw [this, decide_eq_false_iff_not] at e2
  have key : ∀ a b : List UInt8, Lib.compareBytes a b > 0 → lexB b a = true := by
    intro a
    induction a with
    | nil => intro b h; cases b <;> simp [Lib.compareBytes] at h
    | cons x a ih =>
      intro b h
      cases b with
      | nil => rfl
      | cons y b =>
        unfold Lib.compareBytes at h
        unfold lexB
        by_cases h1 : x < y
        · rw [if_pos h1] at h; exact absurd h (by decide)
        · rw [if_neg h1] at h
          by_cases h2 : y < x
          · rw [if_neg (fun e => by rw [u8_lt] at h2; rw [u8_eq] at e; omega)]; simpa using h2
          · rw [if_neg h2] at h
            rw [if_pos (by rw [u8_lt] at h1 h2; rw [u8_eq]; omega)]
            exact ih b h
  exact key a b (by omega)
theorem count_at {l : List En} {p : En → Bool} {i : Nat} (hi : i ≤ l.length) (h1 : ∀ j (hj : j < l.length), j < i → p l[j] = true) (h2 : ∀ j (hj : j < l.length), i ≤ j → p l[j] = false) : l.countP p = i := by
  rw [← List.take_append_drop i l, List.countP_append]
  have e1 : (l.take i).countP p = i := by
    have : (l.take i).countP p = (l.take i).length := List.countP_eq_length.2 fun x hx => by
      obtain ⟨j, hj, e⟩ := List.getElem_of_mem hx
      rw [List.length_take] at hj
      rw [← e, List.getElem_take]
      exact h1 j (by omega) (by omega)
    rw [this, List.length_take]; omega
  have e2 : (l.drop i).countP p = 0 := List.countP_eq_zero.2 fun x hx => by
    obtain ⟨j, hj, e⟩ := List.getElem_of_mem hx
    rw [List.length_drop] at hj
    rw [← e, List.getElem_drop]
    rw [h2 (i + j) (by omega) (by omega)]; simp
  omega
theorem srt_lt {l : List En} (h : Srt l) {i j : Nat} (hij : i < j) (hj : j < l.length) : lexB (l[i]'(by omega)).k l[j].k = true := List.pairwise_iff_getElem.1 h i j (by omega) hj hij
/-- The places ahead of which all keys are less. -/
structure Cutat (l : List En) (key : List UInt8) (i j : Nat) : Prop where
  le : i ≤ j
  hj : j ≤ l.length
  a : ∀ m (hm : m < l.length), m < i → lexB l[m].k key = true
  b : ∀ m (hm : m < l.length), j ≤ m → lexB l[m].k key = false
theorem Cutat.up {l : List En} {key : List UInt8} {i j h : Nat} (c : Cutat l key i j) (hs : Srt l) (h1 : i ≤ h) (h2 : h < j) (hh : h < l.length) (hx : lexB l[h].k key = true) : Cutat l key (h + 1) j :=
  ⟨h2, c.hj, fun m hm hlt => by
    by_cases e : m = h
    · subst e; exact hx
    · exact lexB_trans _ _ _ (srt_lt hs (show m < h by omega) hh) hx, c.b⟩
theorem Cutat.down {l : List En} {key : List UInt8} {i j h : Nat} (c : Cutat l key i j) (hs : Srt l) (h1 : i ≤ h) (hh : h < l.length) (hx : lexB l[h].k key = false) : Cutat l key i h :=
  ⟨h1, by omega, c.a, fun m hm hle => by
    by_cases e : m = h
    · subst e; exact hx
    · cases h3 : lexB l[m].k key
      · rfl
      · have := lexB_trans _ _ _ (srt_lt hs (show h < m by omega) hm) h3
        rw [hx] at this; cases this⟩
theorem Cutat.count {l : List En} {key : List UInt8} {i : Nat} (c : Cutat l key i i) : l.countP (fun e => lexB e.k key) = i := count_at c.hj c.a c.b
theorem Cutat.there {l : List En} {key : List UInt8} {i : Nat} (c : Cutat l key i i) (hs : Srt l) : (l.any fun e => e.k == key) = if h : i < l.length then l[i].k == key else false := by
  split
  · rename_i h
    cases e : l[i].k == key
    · rw [List.any_eq_false]
      intro x hx hk
      obtain ⟨m, hm, rfl⟩ := List.getElem_of_mem hx
      have hk : l[m].k = key := by simpa using hk
      by_cases h1 : m < i
      · have := c.a m hm h1
        rw [hk, lexB_irrefl] at this; cases this
      · by_cases h2 : m = i
        · subst h2; rw [hk] at e; simp at e
        · have h3 := srt_lt hs (show i < m by omega) hm
          rw [hk, c.b i h (Nat.le_refl _)] at h3; cases h3
    · rw [List.any_eq_true]
      exact ⟨l[i], List.getElem_mem h, e⟩
  · rename_i h
    rw [List.any_eq_false]
    intro x hx hk
    obtain ⟨m, hm, rfl⟩ := List.getElem_of_mem hx
    have hk : l[m].k = key := by simpa using hk
    have := c.a m hm (by omega)
    rw [hk, lexB_irrefl] at this; cases this
end Go.Proofs.YtfaeklinhchidaaGreat

/-
  A key is put among sorted keys. No program in sight.
-/
set_option linter.all false
set_option maxRecDepth 100000
namespace Go.Proofs.YtfaeklinhchidaaGreat
open Go Hold
theorem srt_cut {key : Bs} : ∀ {l : List En}, Srt l → Cutat l key (l.countP fun e => lexB e.k key) (l.countP fun e => lexB e.k key)
  | [], _ => ⟨by simp, by simp, fun m hm => by simp at hm, fun m hm => by simp at hm⟩
  | e :: l, h => by
    have h1 : ∀ x ∈ l, lexB e.k x.k = true := (List.pairwise_cons.1 h).1
    have h2 : Srt l := (List.pairwise_cons.1 h).2
    have ih := srt_cut (key := key) h2
    cases he : lexB e.k key
    · have h0 : l.countP (fun e => lexB e.k key) = 0 := List.countP_eq_zero.2 fun x hx hk => by
        have := lexB_trans _ _ _ (h1 x hx) hk
        rw [he] at this; cases this
      have hc : (e :: l).countP (fun e => lexB e.k key) = 0 := by rw [List.countP_cons, h0, he]; rfl
      rw [hc]
      refine ⟨Nat.le_refl _, by simp, fun m hm hlt => by omega, fun m hm _ => ?_⟩
      cases m with
      | zero => exact he
      | succ m =>
        have hm2 : m < l.length := by simpa using hm
        have := List.countP_eq_zero.1 h0 l[m] (List.getElem_mem _)
        simpa using this
    · have hc : (e :: l).countP (fun e => lexB e.k key) = l.countP (fun e => lexB e.k key) + 1 := by rw [List.countP_cons, he]; rfl
      rw [hc]
      refine ⟨Nat.le_refl _, by have := ih.hj; simp; omega, fun m hm hlt => ?_, fun m hm hle => ?_⟩
      · cases m with
        | zero => exact he
        | succ m => exact ih.a m (by simpa using hm) (by omega)
      · cases m with
        | zero => omega
        | succ m => exact ih.b m (by simpa using hm) (by omega)
def insL (key val : Bs) (es : List En) : List En := (putF key val ⟨true, es⟩).l
theorem insL_eq {key val : Bs} {es : List En} : insL key val es = es.take (es.countP fun e => lexB e.k key) ++ [⟨key, val, 0⟩] ++ es.drop ((es.countP fun e => lexB e.k key) + if (es.any fun e => e.k == key) then 1 else 0) ∨ (es.any fun e => e.k == key) = true ∧ es.length ≤ es.countP fun e => lexB e.k key := by
  unfold insL putF findP
  simp only [Bool.not_true, Bool.false_and, Bool.false_eq_true, if_false]
  cases ht : es.any fun e => e.k == key
  · left
    simp only [Bool.false_eq_true, if_false, Nat.add_zero]
  · by_cases hlt : (es.countP fun e => lexB e.k key) < es.length
    · left
      simp only [if_true]
      rw [List.set_eq_take_append_cons_drop, if_pos hlt]
      simp
    · right; exact ⟨rfl, by omega⟩
/-- How the list is cut by a key. -/
theorem ins_cut {key val : Bs} {es : List En} (h : Srt es) : ∃ A M B, es = A ++ M ++ B ∧ insL key val es = A ++ [⟨key, val, 0⟩] ++ B ∧ (∀ e ∈ A, lexB e.k key = true) ∧ (∀ e ∈ B, lexB key e.k = true) ∧ (M = [] ∨ ∃ e, M = [e] ∧ e.k = key) := by
  have cu := srt_cut (key := key) h
  have hth := cu.there h
  rcases insL_eq (key := key) (val := val) (es := es) with he | ⟨ht, hle⟩
  · generalize (es.countP fun e => lexB e.k key) = i at *
    have hA : ∀ e ∈ es.take i, lexB e.k key = true := fun e hm => by
      obtain ⟨j, hj, rfl⟩ := List.getElem_of_mem hm
      rw [List.length_take] at hj
      rw [List.getElem_take]; exact cu.a j (by omega) (by omega)
    cases ht : es.any fun e => e.k == key
    · rw [ht] at he hth
      refine ⟨es.take i, [], es.drop i, by simp, by simpa using he, hA, fun e hm => ?_, .inl rfl⟩
      obtain ⟨j, hj, rfl⟩ := List.getElem_of_mem hm
      rw [List.length_drop] at hj
      rw [List.getElem_drop]
      refine lexB_total (cu.b _ (by omega) (by omega)) fun e => ?_
      have : (es.any fun e => e.k == key) = true := List.any_eq_true.2 ⟨es[i + j], List.getElem_mem _, by simpa using e⟩
      rw [ht] at this; cases this
    · rw [ht] at he hth
      have hlt : i < es.length := by
        refine Classical.byContradiction fun hn => ?_
        rw [dif_neg hn] at hth; cases hth
      rw [dif_pos hlt] at hth
      have hk : es[i].k = key := by simpa using hth.symm
      refine ⟨es.take i, [es[i]], es.drop (i + 1), ?_, by simpa using he, hA, fun e hm => ?_, .inr ⟨es[i], rfl, hk⟩⟩
      · rw [List.append_assoc]
        show es = es.take i ++ (es[i] :: es.drop (i + 1))
        rw [← List.drop_eq_getElem_cons hlt, List.take_append_drop]
      · obtain ⟨j, hj, rfl⟩ := List.getElem_of_mem hm
        rw [List.length_drop] at hj
        rw [List.getElem_drop, ← hk]
        exact srt_lt h (by omega) (by omega)
  · rw [ht] at hth
    rw [dif_neg (by omega)] at hth; cases hth
theorem ins_srt {key val : Bs} {es : List En} (h : Srt es) : Srt (insL key val es) := by
  obtain ⟨A, M, B, he, hi, hA, hB, _⟩ := ins_cut (key := key) (val := val) h
  rw [hi]
  rw [he] at h
  have hab : Srt (A ++ B) := by
    refine h.sublist ?_
    rw [List.append_assoc]
    exact List.Sublist.append (List.Sublist.refl A) (List.sublist_append_right M B)
  unfold Srt at hab ⊢
  rw [List.pairwise_append] at hab
  rw [List.append_assoc, List.pairwise_append]
  refine ⟨hab.1, ?_, ?_⟩
  · show List.Pairwise _ (⟨key, val, 0⟩ :: B)
    exact List.pairwise_cons.2 ⟨hB, hab.2.1⟩
  · intro a ha b hb
    rcases List.mem_cons.1 hb with rfl | hb
    · exact hA a ha
    · exact hab.2.2 a ha b hb
theorem ins_mem {key val : Bs} {es : List En} (h : Srt es) {e : En} (hm : e ∈ insL key val es) : e = ⟨key, val, 0⟩ ∨ e ∈ es := by
  obtain ⟨A, M, B, he, hi, _, _, _⟩ := ins_cut (key := key) (val := val) h
  rw [hi] at hm
  rw [he]
  simp only [List.mem_append, List.mem_singleton] at hm ⊢
  rcases hm with (hm | hm) | hm
  · exact .inr (.inl (.inl hm))
  · exact .inl hm
  · exact .inr (.inr hm)
theorem ins_new {key val : Bs} {es : List En} (h : Srt es) : (⟨key, val, 0⟩ : En) ∈ insL key val es := by
  obtain ⟨A, M, B, he, hi, _, _, _⟩ := ins_cut (key := key) (val := val) h
  rw [hi]; simp
theorem ins_old {key val : Bs} {es : List En} (h : Srt es) {e : En} (hm : e ∈ es) (hk : e.k ≠ key) : e ∈ insL key val es := by
  obtain ⟨A, M, B, he, hi, _, _, hM⟩ := ins_cut (key := key) (val := val) h
  rw [he] at hm
  rw [hi]
  simp only [List.mem_append, List.mem_singleton] at hm ⊢
  rcases hm with (hm | hm) | hm
  · exact .inl (.inl hm)
  · rcases hM with rfl | ⟨e', rfl, hk'⟩
    · simp at hm
    · simp at hm; subst hm; exact absurd hk' hk
  · exact .inr hm
theorem ins_len {key val : Bs} {es : List En} (h : Srt es) : es.length ≤ (insL key val es).length ∧ (insL key val es).length ≤ es.length + 1 ∧ 1 ≤ (insL key val es).length := by
  obtain ⟨A, M, B, he, hi, _, _, hM⟩ := ins_cut (key := key) (val := val) h
  rw [hi, he]
  rcases hM with rfl | ⟨e', rfl, _⟩ <;> simp <;> omega
theorem ins_mid {key val : Bs} {A es B : List En} (h : Srt (A ++ es ++ B)) (hA : ∀ e ∈ A, lexB e.k key = true) (hB : ∀ e ∈ B, lexB key e.k = true) : insL key val (A ++ es ++ B) = A ++ insL key val es ++ B := by
  have h1 : (A ++ es ++ B).countP (fun e => lexB e.k key) = A.length + es.countP (fun e => lexB e.k key) := by
    have e3 : B.countP (fun e => lexB e.k key) = 0 := List.countP_eq_zero.2 fun x hx hk => by have := lexB_asym (hB x hx); rw [hk] at this; cases this
    rw [List.countP_append, List.countP_append, List.countP_eq_length.2 hA, e3]
    rfl
  have h2 : ((A ++ es ++ B).any fun e => e.k == key) = (es.any fun e => e.k == key) := by
    rw [List.any_append, List.any_append]
    have a1 : (A.any fun e => e.k == key) = false := List.any_eq_false.2 fun x hx hk => by
      have := hA x hx
      have hk : x.k = key := by simpa using hk
      rw [hk, lexB_irrefl] at this; cases this
    have a2 : (B.any fun e => e.k == key) = false := List.any_eq_false.2 fun x hx hk => by
      have := hB x hx
      have hk : x.k = key := by simpa using hk
      rw [hk, lexB_irrefl] at this; cases this
    rw [a1, a2]; simp
  have hes : Srt es := (List.pairwise_append.1 (List.pairwise_append.1 h).1).2.1
  have cu := srt_cut (key := key) hes
  have hci := cu.hj
  unfold insL putF findP
  simp only [Bool.not_true, Bool.false_and, Bool.false_eq_true, if_false]
  rw [h1, h2]
  generalize es.countP (fun e => lexB e.k key) = i at *
  cases ht : es.any fun e => e.k == key
  · simp only [Bool.false_eq_true, if_false]
    rw [List.append_assoc A es B, List.take_append, List.drop_append, List.take_of_length_le (by omega), List.drop_eq_nil_of_le (by omega), show A.length + i - A.length = i by omega, List.take_append_of_le_length hci, List.drop_append_of_le_length hci]
    simp
  · simp only [if_true]
    have hth := cu.there hes
    rw [ht] at hth
    have hlt : i < es.length := by
      refine Classical.byContradiction fun hn => ?_
      rw [dif_neg hn] at hth; cases hth
    rw [List.append_assoc A es B, List.set_append_right _ _ (by omega), show A.length + i - A.length = i by omega, List.set_append_left _ _ hlt, List.append_assoc]
/-- Where a key belongs among pages below. -/
theorem find_in {l : List En} {key : Bs} (h : Srt l) (h0 : ∀ e, l.head? = some e → lexB key e.k = false) (hne : l ≠ []) :
    (findP ⟨false, l⟩ key).1 < l.length ∧ (∀ (j : Nat) (hj : j < l.length), j ≤ (findP ⟨false, l⟩ key).1 → lexB key l[j].k = false) ∧ (∀ (j : Nat) (hj : j < l.length), (findP ⟨false, l⟩ key).1 < j → lexB key l[j].k = true) := by
  have cu := srt_cut (key := key) h
  have hth := cu.there h
  have hpos : 0 < l.length := List.length_pos_iff.2 hne
  unfold findP
  simp only [Bool.not_false, Bool.true_and]
  generalize (l.countP fun e => lexB e.k key) = i at *
  cases ht : l.any fun e => e.k == key
  · rw [ht] at hth
    simp only [Bool.not_false, if_true]
    have hle := cu.hj
    have hnek : ∀ (j : Nat) (hj : j < l.length), l[j].k ≠ key := fun j hj e => by
      have : (l.any fun e => e.k == key) = true := List.any_eq_true.2 ⟨l[j], List.getElem_mem _, by simpa using e⟩
      rw [ht] at this; cases this
    have hi0 : 0 < i := by
      refine Nat.pos_of_ne_zero fun e => ?_
      subst e
      have h1 := cu.b 0 hpos (Nat.le_refl _)
      have h2 := h0 l[0] (by rw [List.head?_eq_getElem?, List.getElem?_eq_getElem hpos])
      have := lexB_total h2 (fun e => hnek 0 hpos e.symm)
      rw [h1] at this; cases this
    refine ⟨by omega, fun j hj hle => lexB_asym (cu.a j hj (by omega)), fun j hj hlt => lexB_total (cu.b j hj (by omega)) (hnek j hj)⟩
  · rw [ht] at hth
    simp only [Bool.not_true, Bool.false_eq_true, if_false]
    have hlt : i < l.length := by
      refine Classical.byContradiction fun hn => ?_
      rw [dif_neg hn] at hth; cases hth
    rw [dif_pos hlt] at hth
    have hk : l[i].k = key := by simpa using hth.symm
    refine ⟨hlt, fun j hj hle => ?_, fun j hj hl => ?_⟩
    · by_cases e : j = i
      · subst e; rw [hk]; exact lexB_irrefl _
      · exact lexB_asym (cu.a j hj (by omega))
    · rw [← hk]; exact srt_lt h hl hj
end Go.Proofs.YtfaeklinhchidaaGreat

/-
  Pages that are free; leaves of entries that are alike in length. No program in sight.
-/
set_option linter.all false
set_option maxRecDepth 100000
namespace Go.Proofs.YtfaeklinhchidaaGreat
open Go Hold
/-- The chain of free pages. -/
def Chain (cc : Nat → PgC) : Nat → List Nat → Prop
  | n, [] => n = 0
  | n, p :: l => n = p ∧ ∃ nx, cc p = .free nx ∧ Chain cc nx l
theorem Chain.upd {cc : Nat → PgC} {p : Nat} {x : PgC} : ∀ {n : Nat} {l : List Nat}, p ∉ l → Chain cc n l → Chain (upd cc p x) n l
  | n, [], _, h => h
  | n, q :: l, hp, ⟨h1, nx, h2, h3⟩ => by
    refine ⟨h1, nx, ?_, Chain.upd (fun hm => hp (List.mem_cons_of_mem _ hm)) h3⟩
    unfold Go.Proofs.YtfaeklinhchidaaGreat.upd
    rw [if_neg (fun e => hp (by rw [← e]; simp))]
    exact h2
structure FrOk (s : St) (used fr : List Nat) : Prop where
  c : Chain s.cc s.free fr
  d : (used ++ fr).Nodup
  m : ∀ p ∈ used ++ fr, 1 ≤ p ∧ p < s.fresh
  n : used.length + fr.length + 1 = s.fresh
theorem FrOk.put {s : St} {used fr : List Nat} (h : FrOk s used fr) {p : Nat} (hp : p ∉ fr) {x : PgC} {w r : Nat} : FrOk ⟨r, s.free, s.fresh, w, upd s.cc p x⟩ used fr := ⟨h.c.upd hp, h.d, h.m, h.n⟩
theorem FrOk.re {s : St} {used fr : List Nat} (h : FrOk s used fr) {w r : Nat} : FrOk ⟨r, s.free, s.fresh, w, s.cc⟩ used fr := ⟨h.c, h.d, h.m, h.n⟩
theorem FrOk.perm {s : St} {used used' fr : List Nat} (h : FrOk s used fr) (hp : used.Perm used') : FrOk s used' fr :=
  ⟨h.c, ((hp.append_right fr).nodup_iff).1 h.d, fun p hm => h.m p ((hp.append_right fr).mem_iff.2 hm), by rw [← hp.length_eq]; exact h.n⟩
theorem FrOk.not0 {s : St} {used fr : List Nat} (h : FrOk s used fr) : 0 ∉ fr := fun hm => by have := (h.m 0 (List.mem_append_right _ hm)).1; omega
theorem FrOk.notin {s : St} {used fr : List Nat} (h : FrOk s used fr) {p : Nat} (hp : p ∈ used) : p ∉ fr := fun hm => (List.nodup_append.1 h.d).2.2 p hp p hm rfl
theorem FrOk.take {N : Nat} {s : St} {used fr : List Nat} (h : FrOk s used fr) (hN : s.fresh < N) : ∃ o s' fr', takeS N s = some (o, s') ∧ s'.cc = s.cc ∧ s'.root = s.root ∧ s'.w = s.w ∧ o ∉ used ∧ 1 ≤ o ∧ o < N ∧ FrOk s' (o :: used) fr' ∧ s'.fresh ≤ s.fresh + 1 ∧ fr'.length ≤ fr.length ∧ (fr = [] → fr' = []) := by
  have hc := h.c; have hn := h.n; have hd := h.d
  cases fr with
  | nil =>
    have h0 : s.free = 0 := hc
    refine ⟨s.fresh, { s with fresh := s.fresh + 1 }, [], ?_, rfl, rfl, rfl, ?_, by omega, hN, ⟨hc, ?_, ?_, ?_⟩, Nat.le_refl _, Nat.le_refl _, fun _ => rfl⟩
    · unfold takeS; rw [if_neg (by simpa using h0), if_pos hN]
    · intro hm; have := (h.m s.fresh (List.mem_append_left _ hm)).2; omega
    · rw [List.append_nil] at hd ⊢
      refine List.nodup_cons.2 ⟨fun hm => ?_, hd⟩
      have := (h.m s.fresh (List.mem_append_left _ hm)).2; omega
    · intro p hm
      rw [List.append_nil] at hm
      rcases List.mem_cons.1 hm with rfl | hm
      · exact ⟨by omega, Nat.lt_succ_self _⟩
      · have := h.m p (List.mem_append_left _ hm)
        exact ⟨this.1, Nat.lt_succ_of_lt this.2⟩
    · show (s.fresh :: used).length + 0 + 1 = s.fresh + 1
      simp only [List.length_cons, List.length_nil] at hn ⊢; omega
  | cons o fr =>
    obtain ⟨h1, nx, h2, h3⟩ := hc
    have hom := h.m o (by simp)
    refine ⟨o, { s with free := nx }, fr, ?_, rfl, rfl, rfl, ?_, hom.1, by omega, ⟨h3, ?_, ?_, ?_⟩, Nat.le_succ _, by simp, fun e => by cases e⟩
    · unfold takeS
      rw [h1]
      rw [if_pos (by omega), if_pos (by omega)]
      simp only [h2]
    · intro hm; exact (List.nodup_append.1 hd).2.2 o hm o (by simp) rfl
    · exact (List.perm_middle.nodup_iff).1 hd
    · intro p hm
      exact h.m p (List.perm_middle.mem_iff.2 hm)
    · show (o :: used).length + fr.length + 1 = s.fresh
      simp only [List.length_cons] at hn ⊢; omega
/-! ### Entries that are alike in length -/
structure Uz where
  kl : Nat
  vl : Nat
  cap : Nat
  lo : Nat
  z1 : cap * (kl + vl + 2) ≤ 253
  z2 : 253 < (cap + 1) * (kl + vl + 2)
  z3 : 56 ≤ lo * (kl + vl + 2)
  l1 : 1 ≤ lo
  l2 : lo ≤ cap + 1 - lo
  l3 : cap + 1 - lo ≤ cap
  k1 : kl ≤ 64
  v1 : vl ≤ 72
  hf : ∀ es : List En, es.length = cap + 1 → (∀ e ∈ es, e.k.length = kl ∧ e.v.length = vl) → halfP ⟨true, es⟩ = lo
structure EnU (U : Uz) (e : En) : Prop where
  k : e.k.length = U.kl
  v : e.v.length = U.vl
  p : e.pg = 0
theorem bytes_uni {U : Uz} : ∀ {es : List En}, (∀ e ∈ es, EnU U e) → (⟨true, es⟩ : Nd).bytes = es.length * (U.kl + U.vl + 2)
  | [], _ => by simp [Nd.bytes]
  | e :: es, h => by
    have ih := bytes_uni (es := es) (fun x hx => h x (List.mem_cons_of_mem _ hx))
    have he := h e (by simp)
    have ho : (⟨true, e :: es⟩ : Nd).one e = U.kl + U.vl + 2 := by unfold Nd.one; simp [he.k, he.v]
    unfold Nd.bytes at ih ⊢
    rw [List.map_cons, List.sum_cons, ho]
    have : (es.map (⟨true, e :: es⟩ : Nd).one).sum = (es.map (⟨true, es⟩ : Nd).one).sum := rfl
    rw [this, ih, List.length_cons, Nat.add_mul]; omega
theorem leaf_ok {U : Uz} {es : List En} (he : ∀ e ∈ es, EnU U e) (hs : Srt es) (hl : es.length ≤ U.cap) : NdOk ⟨true, es⟩ := by
  refine ⟨fun e hm => ?_, hs, ?_⟩
  · have := he e hm; have := U.k1; have := U.v1
    exact ⟨by rw [(he e hm).k]; omega, by rw [(he e hm).v]; omega, by rw [(he e hm).p]; omega, fun h => Bool.noConfusion h, fun _ => (he e hm).p⟩
  · rw [bytes_uni he]
    exact Nat.le_trans (Nat.mul_le_mul_right _ hl) U.z1
theorem leaf_rich {U : Uz} {es : List En} (he : ∀ e ∈ es, EnU U e) (hl : U.lo ≤ es.length) : (⟨true, es⟩ : Nd).poor = false := by
  unfold Nd.poor
  have h1 := Nat.mul_le_mul_right (U.kl + U.vl + 2) hl
  have := U.z3
  rw [bytes_uni he]
  simp; omega
theorem putS_eq {N : Nat} {s : St} {p : Nat} {y : PgC} (hp : p < N) (hy : y.Ok) : putS N s p y = some { s with w := s.w + 1, cc := upd s.cc p y } := by
  unfold putS; rw [if_pos ⟨hp, hy⟩]
theorem leaf_one {U : Uz} {N p : Nat} {s : St} {low : Bs} {es : List En} (he : ∀ e ∈ es, EnU U e) (hs : Srt es) (hl : es.length ≤ U.cap) (hp : p < N) :
    writeS N s p low ⟨true, es⟩ = some ([⟨low, [], p⟩], { s with w := s.w + 1, cc := upd s.cc p (.node ⟨true, es⟩) }) := by
  unfold writeS
  have ok := leaf_ok he hs hl
  rw [if_pos ok.b, putS_eq (y := .node ⟨true, es⟩) hp ok]
  rfl
theorem leaf_two {U : Uz} {N p o : Nat} {s s1 : St} {low : Bs} {es : List En} (he : ∀ e ∈ es, EnU U e) (hs : Srt es) (hl : es.length = U.cap + 1) (hp : p < N) (ho : o < N) (ht : takeS N s = some (o, s1)) :
    ∃ e5 : En, e5 ∈ es.drop U.lo ∧ (es.drop U.lo).head? = some e5 ∧ writeS N s p low ⟨true, es⟩ = some ([⟨low, [], p⟩, ⟨e5.k, [], o⟩], { s1 with w := s1.w + 2, cc := upd (upd s1.cc p (.node ⟨true, es.take U.lo⟩)) o (.node ⟨true, es.drop U.lo⟩) }) := by
  have h1 := U.l1; have h2 := U.l2; have h3 := U.l3
  have hlt : U.lo < es.length := by omega
  have hd := List.drop_eq_getElem_cons hlt
  have ok1 := leaf_ok (U := U) (es := es.take U.lo) (fun e hm => he e (List.mem_of_mem_take hm)) (hs.sublist (List.take_sublist _ _)) (by rw [List.length_take]; omega)
  have ok2 := leaf_ok (U := U) (es := es.drop U.lo) (fun e hm => he e (List.mem_of_mem_drop hm)) (hs.sublist (List.drop_sublist _ _)) (by rw [List.length_drop]; omega)
  refine ⟨es[U.lo], by rw [hd]; exact List.mem_cons_self, by rw [hd]; rfl, ?_⟩
  unfold writeS
  have hb : ¬ (⟨true, es⟩ : Nd).bytes ≤ 253 := by
    rw [bytes_uni he, hl]; have := U.z2; omega
  rw [if_neg hb, U.hf es hl (fun e hm => ⟨(he e hm).k, (he e hm).v⟩), ht]
  simp only [Option.bind_eq_bind, Option.bind_some]
  rw [hd]
  simp only
  rw [← hd, putS_eq (y := .node ⟨true, es.take U.lo⟩) hp ok1]
  simp only [Option.bind_some]
  rw [putS_eq (y := .node ⟨true, es.drop U.lo⟩) ho ok2]
  rfl
end Go.Proofs.YtfaeklinhchidaaGreat

/-
  A tree that is at most two pages high; a key is put. No program in sight.
-/
set_option linter.all false
set_option maxRecDepth 100000
namespace Go.Proofs.YtfaeklinhchidaaGreat
open Go Hold
structure Lf where
  low : Bs
  pg : Nat
  es : List En
def Lf.en (x : Lf) : En := ⟨x.low, [], x.pg⟩
structure Ord (ls : List Lf) : Prop where
  s1 : ls.Pairwise fun a b => lexB a.low b.low = true
  s2 : ∀ x ∈ ls, ∀ e ∈ x.es, lexB e.k x.low = false
  s3 : ls.Pairwise fun a b => ∀ e ∈ a.es, lexB e.k b.low = true
structure Two (U : Uz) (s : St) (ls : List Lf) : Prop where
  r : s.cc s.root = .node ⟨false, ls.map Lf.en⟩
  c : ∀ x ∈ ls, s.cc x.pg = .node ⟨true, x.es⟩
  n : 2 ≤ ls.length
  l : ∀ x ∈ ls, U.lo ≤ x.es.length ∧ x.es.length ≤ U.cap
  h : ∀ x, ls.head? = some x → x.low = []
  o : Ord ls
  w : ∀ x ∈ ls, x.low.length ≤ U.kl
structure TInv (U : Uz) (N : Nat) (s : St) (kvs : List En) (fr used : List Nat) : Prop where
  ok : ∀ p, p < N → (s.cc p).Ok
  srt : Srt kvs
  en : ∀ e ∈ kvs, EnU U e
  f : FrOk s used fr
  fN : s.fresh ≤ N
  sh : (s.root = 0 ∧ kvs = [] ∧ used = []) ∨ (s.root ≠ 0 ∧ s.cc s.root = .node ⟨true, kvs⟩ ∧ kvs.length ≤ U.cap ∧ used = [s.root]) ∨ (∃ ls, Two U s ls ∧ used = s.root :: ls.map (·.pg) ∧ kvs = ls.flatMap (·.es))
theorem upd_at {f : Nat → PgC} {p : Nat} {x : PgC} : upd f p x p = x := by unfold upd; rw [if_pos rfl]
theorem upd_ne {f : Nat → PgC} {p q : Nat} {x : PgC} (h : q ≠ p) : upd f p x q = f q := by unfold upd; rw [if_neg h]
theorem upd_ok {N : Nat} {f : Nat → PgC} {p : Nat} {x : PgC} (h : ∀ p, p < N → (f p).Ok) (hx : x.Ok) : ∀ q, q < N → (upd f p x q).Ok := fun q hq => by
  by_cases e : q = p
  · rw [e, upd_at]; exact hx
  · rw [upd_ne e]; exact h q hq
/-- The order of leaves, one of which has become others. -/
theorem ord_replace {L1 L2 Ns : List Lf} {x : Lf} (h : Ord (L1 ++ x :: L2)) (h1 : Ord Ns) (h2 : ∀ y ∈ Ns, y.low = x.low ∨ lexB x.low y.low = true) (h3 : ∀ y ∈ Ns, ∀ b ∈ L2, lexB y.low b.low = true ∧ ∀ e ∈ y.es, lexB e.k b.low = true) : Ord (L1 ++ Ns ++ L2) := by
  obtain ⟨a1, a2, a3⟩ := h
  rw [List.pairwise_append, List.pairwise_cons] at a1 a3
  obtain ⟨b1, ⟨b2, b3⟩, b4⟩ := a1
  obtain ⟨c1, ⟨c2, c3⟩, c4⟩ := a3
  have up : ∀ a ∈ L1, ∀ y ∈ Ns, lexB a.low y.low = true ∧ ∀ e ∈ a.es, lexB e.k y.low = true := fun a ha y hy => by
    have e1 := b4 a ha x (by simp)
    have e2 := c4 a ha x (by simp)
    rcases h2 y hy with e | e
    · rw [e]; exact ⟨e1, e2⟩
    · exact ⟨lexB_trans _ _ _ e1 e, fun en hen => lexB_trans _ _ _ (e2 en hen) e⟩
  refine ⟨?_, ?_, ?_⟩
  · rw [List.append_assoc, List.pairwise_append, List.pairwise_append]
    refine ⟨b1, ⟨h1.s1, b3, fun y hy b hb => (h3 y hy b hb).1⟩, fun a ha b hb => ?_⟩
    rcases List.mem_append.1 hb with hb | hb
    · exact (up a ha b hb).1
    · exact b4 a ha b (List.mem_cons_of_mem _ hb)
  · intro y hy e he
    rcases List.mem_append.1 hy with hy | hy
    · rcases List.mem_append.1 hy with hy | hy
      · exact a2 y (by simp [hy]) e he
      · exact h1.s2 y hy e he
    · exact a2 y (by simp [hy]) e he
  · rw [List.append_assoc, List.pairwise_append, List.pairwise_append]
    refine ⟨c1, ⟨h1.s3, c3, fun y hy b hb => (h3 y hy b hb).2⟩, fun a ha b hb => ?_⟩
    rcases List.mem_append.1 hb with hb | hb
    · exact (up a ha b hb).2
    · exact c4 a ha b (List.mem_cons_of_mem _ hb)
theorem inner_ok {U : Uz} {ls : List Lf} (h1 : ls.Pairwise fun a b => lexB a.low b.low = true) (hw : ∀ x ∈ ls, x.low.length ≤ U.kl) (hp : ∀ x ∈ ls, x.pg < 65536) (hb : ls.length * (U.kl + 3) ≤ 253) : NdOk ⟨false, ls.map Lf.en⟩ := by
  have hk := U.k1
  refine ⟨fun e hm => ?_, ?_, ?_⟩
  · obtain ⟨x, hx, rfl⟩ := List.mem_map.1 hm
    have := hw x hx
    exact ⟨by show x.low.length ≤ 255; omega, by show ([] : Bs).length ≤ 255; simp, hp x hx, fun _ => rfl, fun h => Bool.noConfusion h⟩
  · unfold Srt
    rw [List.pairwise_map]
    exact h1
  · have : ((ls.map Lf.en).map (⟨false, ls.map Lf.en⟩ : Nd).one).sum ≤ (ls.map Lf.en).length * (U.kl + 3) := by
      have key : ∀ (l : List En) (n : Nd), n.leaf = false → (∀ e ∈ l, e.k.length ≤ U.kl) → (l.map n.one).sum ≤ l.length * (U.kl + 3) := by
        intro l n hn
        induction l with
        | nil => intro _; simp
        | cons e l ih =>
          intro h
          have := ih fun x hx => h x (List.mem_cons_of_mem _ hx)
          have he := h e (by simp)
          have ho : n.one e = e.k.length + 3 := by unfold Nd.one; rw [hn]; rfl
          rw [List.map_cons, List.sum_cons, ho, List.length_cons, Nat.add_mul]; omega
      refine key _ _ rfl fun e hm => ?_
      obtain ⟨x, hx, rfl⟩ := List.mem_map.1 hm
      exact hw x hx
    rw [List.length_map] at this
    exact Nat.le_trans this hb
theorem readS_eq {N : Nat} {s : St} {p : Nat} {n : Nd} (hp : p < N) (h : s.cc p = .node n) : readS N s p = some n := by
  unfold readS; rw [if_pos hp, h]
theorem drop_stay {N : Nat} {s : St} {n : Nd} (h : readS N s s.root = some n) (hn : n.leaf = true ∨ n.l.length ≠ 1) : dropS N 3 s = some s := by
  unfold dropS
  rw [h]
  show (match n.leaf, n.l with
    | false, [e] => (do
      let s ← giveS N s s.root
      dropS N 2 { s with root := e.pg } : Option St)
    | _, _ => pure s) = some s
  split
  · rename_i e h1 h2
    rcases hn with hn | hn
    · rw [hn] at h1; cases h1
    · rw [h2] at hn; simp at hn
  · rfl
theorem putF_eq {key val : Bs} {es : List En} : putF key val ⟨true, es⟩ = ⟨true, insL key val es⟩ := by
  unfold insL putF
  split <;> rfl
structure MendEasy (M : Nat → St → Nd → Nat → Option (Nd × St)) : Prop where
  a : ∀ {N : Nat} {s : St} {n : Nd} {i : Nat}, n.l.length < 2 → M N s n i = some (n, s)
  b : ∀ {N : Nat} {s : St} {n : Nd} {i : Nat} {c : En} {ch : Nd}, 2 ≤ n.l.length → n.l[i]? = some c → readS N s c.pg = some ch → ch.poor = false → M N s n i = some (n, s)
theorem mendE_easy : MendEasy mendE := by
  refine ⟨fun h => ?_, fun h1 h2 h3 h4 => ?_⟩
  · unfold mendE; rw [if_pos h]
  · unfold mendE
    rw [if_neg (by omega), h2]
    simp only [Option.bind_eq_bind, Option.bind_some, h3, h4, Bool.false_eq_true, if_false]
theorem finS_eq {N : Nat} {s : St} (h1 : s.root < 65536) (h2 : s.free < 65536) (h3 : s.fresh < 65536) (h4 : s.w < 100) (hN : 0 < N) : finS N s = some { s with w := s.w + 1, cc := upd s.cc 0 (.head s.root s.free s.fresh) } := by
  unfold finS
  rw [if_pos ⟨h1, h2, h3, h4⟩, putS_eq (y := .head s.root s.free s.fresh) hN trivial]
theorem Two.fin {U : Uz} {s : St} {ls : List Lf} {w : Nat} {y : PgC} (h : Two U s ls) (hr : s.root ≠ 0) (hp : ∀ x ∈ ls, x.pg ≠ 0) : Two U { s with w := w, cc := upd s.cc 0 y } ls :=
  ⟨by show upd s.cc 0 y s.root = _; rw [upd_ne hr]; exact h.r, fun x hx => by show upd s.cc 0 y x.pg = _; rw [upd_ne (hp x hx)]; exact h.c x hx, h.n, h.l, h.h, h.o, h.w⟩
theorem TInv.fin {U : Uz} {N : Nat} {s : St} {kvs : List En} {fr used : List Nat} (h : TInv U N s kvs fr used) {w : Nat} {y : PgC} (hy : y.Ok) : TInv U N { s with w := w, cc := upd s.cc 0 y } kvs fr used := by
  have hu : ∀ p ∈ used, p ≠ 0 := fun p hp => by have := (h.f.m p (List.mem_append_left _ hp)).1; omega
  refine ⟨upd_ok h.ok hy, h.srt, h.en, h.f.put h.f.not0, h.fN, ?_⟩
  rcases h.sh with ⟨a, b, c⟩ | ⟨a, b, c, d⟩ | ⟨ls, t, hus, hk⟩
  · exact .inl ⟨a, b, c⟩
  · exact .inr (.inl ⟨a, by show upd s.cc 0 y s.root = _; rw [upd_ne a]; exact b, c, d⟩)
  · refine .inr (.inr ⟨ls, t.fin (hu _ (by rw [hus]; simp)) (fun x hx => hu _ ?_), hus, hk⟩)
    rw [hus]; exact List.mem_cons_of_mem _ (List.mem_map_of_mem hx)
theorem free_lt {N : Nat} {s : St} {used fr : List Nat} (h : FrOk s used fr) (hN : s.fresh ≤ N) (hN2 : 1 ≤ N) : s.free < N := by
  cases fr with
  | nil => have : s.free = 0 := h.c; omega
  | cons p l =>
    have h1 : s.free = p := h.c.1
    have := (h.m p (by simp)).2
    omega
end Go.Proofs.YtfaeklinhchidaaGreat

/-
  A key is put into a tree that is at most two pages high. No program in sight.
-/
set_option linter.all false
set_option maxRecDepth 100000
namespace Go.Proofs.YtfaeklinhchidaaGreat
open Go Hold
theorem ins_enu {U : Uz} {key val : Bs} {es : List En} (hs : Srt es) (he : ∀ e ∈ es, EnU U e) (hk : key.length = U.kl) (hv : val.length = U.vl) : ∀ e ∈ insL key val es, EnU U e := fun e hm => by
  rcases ins_mem hs hm with rfl | hm
  · exact ⟨hk, hv, rfl⟩
  · exact he e hm
theorem srt_parts {es : List En} {i : Nat} (h : Srt es) : Srt (es.take i) ∧ Srt (es.drop i) ∧ ∀ a ∈ es.take i, ∀ b ∈ es.drop i, lexB a.k b.k = true := by
  have := h
  rw [← List.take_append_drop i es] at this
  exact List.pairwise_append.1 this
theorem head_le {es : List En} {e5 : En} {i : Nat} (h : Srt es) (h5 : (es.drop i).head? = some e5) : (∀ a ∈ es.take i, lexB a.k e5.k = true) ∧ ∀ b ∈ es.drop i, lexB b.k e5.k = false := by
  obtain ⟨_, h2, h3⟩ := srt_parts (i := i) h
  have hm : e5 ∈ es.drop i := List.mem_of_mem_head? h5
  refine ⟨fun a ha => h3 a ha e5 hm, fun b hb => ?_⟩
  cases hd : es.drop i with
  | nil => rw [hd] at hb; simp at hb
  | cons y l =>
    rw [hd] at h5 h2 hb
    cases h5
    rcases List.mem_cons.1 hb with rfl | hb
    · exact lexB_irrefl _
    · exact lexB_asym ((List.pairwise_cons.1 h2).1 b hb)
/-- A root that is a leaf. -/
theorem put_leaf_root {M : Nat → St → Nd → Nat → Option (Nd × St)} {U : Uz} {N : Nat} {s : St} {kvs : List En} {fr : List Nat} {key val : Bs} (hok : ∀ p, p < N → (s.cc p).Ok) (hsr : Srt kvs) (hen : ∀ e ∈ kvs, EnU U e) (hf : FrOk s [s.root] fr) (hr : s.root ≠ 0) (hc : s.cc s.root = .node ⟨true, kvs⟩) (hl : kvs.length ≤ U.cap)
    (hw : s.w ≤ 10) (hk : key.length = U.kl) (hv : val.length = U.vl) (hN : s.fresh + 2 < N) (hN2 : N ≤ 60000) (hT : 2 * (U.kl + 3) ≤ 253) :
    ∃ s' fr' used', ((atS M N (putF key val) key 3 s s.root []).bind fun q => (growS N q.1 q.2).bind fun s3 => (dropS N 3 s3).bind fun s4 => finS N s4) = some s' ∧ TInv U N s' (insL key val kvs) fr' used' ∧ s'.fresh ≤ s.fresh + 2 ∧ s'.root ≠ 0 ∧ fr'.length ≤ fr.length := by
  have hl1 := U.l1; have hl2 := U.l2; have hl3 := U.l3
  have hrN : s.root < N := by have := (hf.m s.root (by simp)).2; omega
  have hes := ins_srt (key := key) (val := val) hsr
  have hee := ins_enu hsr hen hk hv
  obtain ⟨n1, n2, n3⟩ := ins_len (key := key) (val := val) hsr
  have hat : atS M N (putF key val) key 3 s s.root [] = writeS N s s.root [] ⟨true, insL key val kvs⟩ := by
    unfold atS
    rw [readS_eq hrN hc]
    simp only [Option.bind_eq_bind, Option.bind_some, if_true]
    rw [putF_eq]
  rw [hat]
  by_cases hcap : (insL key val kvs).length ≤ U.cap
  · rw [leaf_one hee hes hcap hrN]
    simp only [Option.bind_some]
    have hg : growS N [⟨[], [], s.root⟩] { s with w := s.w + 1, cc := upd s.cc s.root (.node ⟨true, insL key val kvs⟩) } = some { s with w := s.w + 1, cc := upd s.cc s.root (.node ⟨true, insL key val kvs⟩) } := by
      unfold growS; rw [if_neg (by simp)]
    rw [hg]
    simp only [Option.bind_some]
    rw [drop_stay (s := { s with w := s.w + 1, cc := upd s.cc s.root (.node ⟨true, insL key val kvs⟩) }) (n := ⟨true, insL key val kvs⟩) (readS_eq hrN upd_at) (.inl rfl)]
    simp only [Option.bind_some]
    have hnf : s.root ∉ fr := hf.notin (by simp)
    have hf2 : FrOk { s with w := s.w + 1, cc := upd s.cc s.root (.node ⟨true, insL key val kvs⟩) } [s.root] fr := hf.put hnf
    rw [finS_eq (s := { s with w := s.w + 1, cc := upd s.cc s.root (.node ⟨true, insL key val kvs⟩) }) (show s.root < 65536 by omega) (by have := free_lt hf2 (N := N) (by show s.fresh ≤ N; omega) (by omega); omega) (show s.fresh < 65536 by omega) (show s.w + 1 < 100 by omega) (by omega)]
    have ti : TInv U N { s with w := s.w + 1, cc := upd s.cc s.root (.node ⟨true, insL key val kvs⟩) } (insL key val kvs) fr [s.root] :=
      ⟨upd_ok hok (leaf_ok hee hes hcap), hes, hee, hf2, by show s.fresh ≤ N; omega, .inr (.inl ⟨hr, upd_at, hcap, rfl⟩)⟩
    exact ⟨_, fr, [s.root], rfl, ti.fin (y := .head s.root s.free s.fresh) trivial, Nat.le_add_right _ _, hr, Nat.le_refl _⟩
  · have hcap : (insL key val kvs).length = U.cap + 1 := by omega
    obtain ⟨o, s1, fr1, ht, a1, a2, a3, a4, a5, a6, hf1, a7, a8, _⟩ := hf.take (N := N) (by omega)
    obtain ⟨e5, h5m, h5h, hw2⟩ := leaf_two (low := []) hee hes hcap hrN a6 ht
    rw [hw2]
    simp only [Option.bind_some]
    generalize hE : insL key val kvs = E at *
    obtain ⟨p1, p2, p3⟩ := srt_parts (i := U.lo) hes
    obtain ⟨q1, q2⟩ := head_le hes h5h
    have hone : o ≠ s.root := fun e => a4 (by rw [e]; simp)
    have ok1 : NdOk ⟨true, E.take U.lo⟩ := leaf_ok (U := U) (fun e hm => hee e (List.mem_of_mem_take hm)) p1 (by rw [List.length_take]; omega)
    have ok2 : NdOk ⟨true, E.drop U.lo⟩ := leaf_ok (U := U) (fun e hm => hee e (List.mem_of_mem_drop hm)) p2 (by rw [List.length_drop]; omega)
    have hf2 : FrOk ⟨s1.root, s1.free, s1.fresh, s1.w + 2, upd (upd s1.cc s.root (.node ⟨true, E.take U.lo⟩)) o (.node ⟨true, E.drop U.lo⟩)⟩ [o, s.root] fr1 :=
      ⟨(hf1.c.upd (hf1.notin (by simp))).upd (hf1.notin (by simp)), hf1.d, hf1.m, hf1.n⟩
    obtain ⟨r2, s2, fr2, ht2, b1, b2, b3, b4, b5, b6, hf3, b7, b8, _⟩ := hf2.take (N := N) (by show s1.fresh < N; omega)
    have hr2o : r2 ≠ o := fun e => b4 (by rw [e]; simp)
    have hr2s : r2 ≠ s.root := fun e => b4 (by rw [e]; simp)
    let ls : List Lf := [⟨[], s.root, E.take U.lo⟩, ⟨e5.k, o, E.drop U.lo⟩]
    have h5k : e5.k.length = U.kl := (hee e5 (List.mem_of_mem_drop h5m)).k
    have h5ne : lexB [] e5.k = true := by
      have : ∃ a, a ∈ E.take U.lo := by
        have : 0 < (E.take U.lo).length := by rw [List.length_take]; omega
        exact ⟨(E.take U.lo)[0], List.getElem_mem _⟩
      obtain ⟨a, ha⟩ := this
      have := q1 a ha
      cases h : e5.k with
      | nil => rw [h] at this; cases ha2 : a.k <;> rw [ha2] at this <;> simp [lexB] at this
      | cons x l => rfl
    have hord : Ord ls := by
      refine ⟨?_, ?_, ?_⟩
      · exact List.pairwise_pair.2 h5ne
      · intro x hx e he
        simp only [ls, List.mem_cons, List.not_mem_nil, or_false] at hx
        rcases hx with rfl | rfl
        · cases h : e.k <;> simp [lexB]
        · exact q2 e he
      · exact List.pairwise_pair.2 fun e he => q1 e he
    have hin : NdOk ⟨false, ls.map Lf.en⟩ := inner_ok (U := U) hord.s1 (fun x hx => by
      simp only [ls, List.mem_cons, List.not_mem_nil, or_false] at hx
      rcases hx with rfl | rfl
      · simp
      · show e5.k.length ≤ U.kl; omega) (fun x hx => by
      simp only [ls, List.mem_cons, List.not_mem_nil, or_false] at hx
      rcases hx with rfl | rfl
      · show s.root < 65536; omega
      · show o < 65536; omega) (by show 2 * _ ≤ 253; exact hT)
    have hg : growS N [⟨[], [], s.root⟩, ⟨e5.k, [], o⟩] ⟨s1.root, s1.free, s1.fresh, s1.w + 2, upd (upd s1.cc s.root (.node ⟨true, E.take U.lo⟩)) o (.node ⟨true, E.drop U.lo⟩)⟩ =
        some ⟨r2, s2.free, s2.fresh, s2.w + 1, upd s2.cc r2 (.node ⟨false, ls.map Lf.en⟩)⟩ := by
      unfold growS
      rw [if_pos (by simp), ht2]
      simp only [Option.bind_some]
      exact putS_eq (s := { s2 with root := r2 }) (y := .node ⟨false, ls.map Lf.en⟩) b6 hin
    rw [hg]
    simp only [Option.bind_some]
    rw [drop_stay (s := ⟨r2, s2.free, s2.fresh, s2.w + 1, upd s2.cc r2 (.node ⟨false, ls.map Lf.en⟩)⟩) (n := ⟨false, ls.map Lf.en⟩) (readS_eq b6 upd_at) (.inr (by simp [ls]))]
    simp only [Option.bind_some]
    have hf4 : FrOk ⟨r2, s2.free, s2.fresh, s2.w + 1, upd s2.cc r2 (.node ⟨false, ls.map Lf.en⟩)⟩ (r2 :: ls.map (·.pg)) fr2 := by
      have hp : [r2, o, s.root].Perm (r2 :: ls.map (·.pg)) := List.Perm.cons _ (List.Perm.swap _ _ _)
      exact (hf3.perm hp).put ((hf3.perm hp).notin (by simp))
    have hw3 : s2.w = s.w + 2 := by rw [b3]; show s1.w + 2 = _; rw [a3]
    rw [finS_eq (s := ⟨r2, s2.free, s2.fresh, s2.w + 1, upd s2.cc r2 (.node ⟨false, ls.map Lf.en⟩)⟩) (show r2 < 65536 by omega) (by have := free_lt hf4 (N := N) (by show s2.fresh ≤ N; have : s2.fresh ≤ s1.fresh + 1 := b7; omega) (by omega); omega) (by show s2.fresh < 65536; have : s2.fresh ≤ s1.fresh + 1 := b7; omega) (by show s2.w + 1 < 100; omega) (by omega)]
    have hcc2 : s2.cc = upd (upd s.cc s.root (.node ⟨true, E.take U.lo⟩)) o (.node ⟨true, E.drop U.lo⟩) := by rw [b1, a1]
    have ti : TInv U N ⟨r2, s2.free, s2.fresh, s2.w + 1, upd s2.cc r2 (.node ⟨false, ls.map Lf.en⟩)⟩ E fr2 (r2 :: ls.map (·.pg)) := by
      refine ⟨?_, hes, hee, hf4, by show s2.fresh ≤ N; have : s2.fresh ≤ s1.fresh + 1 := b7; omega, .inr (.inr ⟨ls, ⟨upd_at, ?_, by simp [ls], ?_, ?_, hord, ?_⟩, rfl, ?_⟩)⟩
      · show ∀ p, p < N → (upd s2.cc r2 _ p).Ok
        rw [hcc2]
        exact upd_ok (upd_ok (upd_ok hok ok1) ok2) hin
      · intro x hx
        show upd s2.cc r2 _ x.pg = _
        rw [hcc2]
        simp only [ls, List.mem_cons, List.not_mem_nil, or_false] at hx
        rcases hx with rfl | rfl
        · rw [upd_ne (by show s.root ≠ r2; exact fun e => hr2s e.symm), upd_ne (by show s.root ≠ o; exact fun e => hone e.symm), upd_at]
        · rw [upd_ne (by show o ≠ r2; exact fun e => hr2o e.symm), upd_at]
      · intro x hx
        simp only [ls, List.mem_cons, List.not_mem_nil, or_false] at hx
        rcases hx with rfl | rfl
        · show U.lo ≤ (E.take U.lo).length ∧ (E.take U.lo).length ≤ U.cap
          rw [List.length_take]; omega
        · show U.lo ≤ (E.drop U.lo).length ∧ (E.drop U.lo).length ≤ U.cap
          rw [List.length_drop]; omega
      · intro x hx
        cases hx; rfl
      · intro x hx
        simp only [ls, List.mem_cons, List.not_mem_nil, or_false] at hx
        rcases hx with rfl | rfl
        · simp
        · show e5.k.length ≤ U.kl; omega
      · simp [ls]
    refine ⟨_, fr2, _, rfl, ti.fin (y := .head r2 s2.free s2.fresh) trivial, ?_, ?_, Nat.le_trans b8 a8⟩
    · show s2.fresh ≤ s.fresh + 2
      have : s2.fresh ≤ s1.fresh + 1 := b7
      omega
    · show r2 ≠ 0; omega
end Go.Proofs.YtfaeklinhchidaaGreat

/-
  A key is put into a tree of two pages' height. No program in sight.
-/
set_option linter.all false
set_option maxRecDepth 100000
namespace Go.Proofs.YtfaeklinhchidaaGreat
open Go Hold
theorem at_two {M : Nat → St → Nd → Nat → Option (Nd × St)} {N q r : Nat} {leafF : Nd → Nd} {key low : Bs} {s s1 s2 : St} {l below : List En} {e : En} {n' : Nd} (hr : readS N s r = some ⟨false, l⟩) (he : l[(findP ⟨false, l⟩ key).1]? = some e)
    (hb : atS M N leafF key q s e.pg e.k = some (below, s1)) (hm : M N s1 ⟨false, l.take (findP ⟨false, l⟩ key).1 ++ below ++ l.drop ((findP ⟨false, l⟩ key).1 + 1)⟩ (findP ⟨false, l⟩ key).1 = some (n', s2)) : atS M N leafF key (q + 1) s r low = writeS N s2 r low n' := by
  rw [atS]
  rw [hr]
  simp only [Option.bind_eq_bind, Option.bind_some, Bool.false_eq_true, if_false]
  rw [he]
  simp only [Option.bind_some]
  rw [hb]
  simp only [Option.bind_some]
  rw [hm]
  rfl
theorem at_leaf {M : Nat → St → Nd → Nat → Option (Nd × St)} {N q p : Nat} {leafF : Nd → Nd} {key low : Bs} {s : St} {es : List En} (hr : readS N s p = some ⟨true, es⟩) : atS M N leafF key (q + 1) s p low = writeS N s p low (leafF ⟨true, es⟩) := by
  rw [atS, hr]
  simp only [Option.bind_eq_bind, Option.bind_some, if_true]
/-- The root is written again. -/
theorem two_rest {U : Uz} {N : Nat} {s1 : St} {ls : List Lf} {kvs : List En} {fr1 : List Nat} (hok : ∀ p, p < N → (s1.cc p).Ok) (hsr : Srt (ls.flatMap (·.es))) (hen : ∀ e ∈ ls.flatMap (·.es), EnU U e) (hf : FrOk s1 (s1.root :: ls.map (·.pg)) fr1)
    (hc : ∀ x ∈ ls, s1.cc x.pg = .node ⟨true, x.es⟩) (hn : 2 ≤ ls.length) (hl : ∀ x ∈ ls, U.lo ≤ x.es.length ∧ x.es.length ≤ U.cap) (hh : ∀ x, ls.head? = some x → x.low = []) (ho : Ord ls) (hlw : ∀ x ∈ ls, x.low.length ≤ U.kl)
    (hb : ls.length * (U.kl + 3) ≤ 253) (hw : s1.w ≤ 20) (hN : s1.fresh < N) (hN2 : N ≤ 60000) :
    ∃ s', ((writeS N s1 s1.root [] ⟨false, ls.map Lf.en⟩).bind fun q => (growS N q.1 q.2).bind fun s3 => (dropS N 3 s3).bind fun s4 => finS N s4) = some s' ∧ TInv U N s' (ls.flatMap (·.es)) fr1 (s1.root :: ls.map (·.pg)) ∧ s'.fresh = s1.fresh ∧ s'.root = s1.root ∧ s'.root ≠ 0 := by
  have hpl : ∀ x ∈ ls, x.pg < s1.fresh := fun x hx => (hf.m x.pg (by simp; exact .inr (.inl ⟨x, hx, rfl⟩))).2
  have hrm := hf.m s1.root (by simp)
  have hrN : s1.root < N := by omega
  have hin : NdOk ⟨false, ls.map Lf.en⟩ := inner_ok (U := U) ho.s1 hlw (fun x hx => by have := hpl x hx; omega) hb
  have hwr : writeS N s1 s1.root [] ⟨false, ls.map Lf.en⟩ = some ([⟨[], [], s1.root⟩], { s1 with w := s1.w + 1, cc := upd s1.cc s1.root (.node ⟨false, ls.map Lf.en⟩) }) := by
    unfold writeS
    rw [if_pos hin.b, putS_eq (y := .node ⟨false, ls.map Lf.en⟩) hrN hin]
    rfl
  rw [hwr]
  simp only [Option.bind_some]
  have hg : growS N [⟨[], [], s1.root⟩] { s1 with w := s1.w + 1, cc := upd s1.cc s1.root (.node ⟨false, ls.map Lf.en⟩) } = some { s1 with w := s1.w + 1, cc := upd s1.cc s1.root (.node ⟨false, ls.map Lf.en⟩) } := by
    unfold growS; rw [if_neg (by simp)]
  rw [hg]
  simp only [Option.bind_some]
  rw [drop_stay (s := { s1 with w := s1.w + 1, cc := upd s1.cc s1.root (.node ⟨false, ls.map Lf.en⟩) }) (n := ⟨false, ls.map Lf.en⟩) (readS_eq hrN upd_at) (.inr (by show (ls.map Lf.en).length ≠ 1; rw [List.length_map]; omega))]
  simp only [Option.bind_some]
  have hf2 : FrOk { s1 with w := s1.w + 1, cc := upd s1.cc s1.root (.node ⟨false, ls.map Lf.en⟩) } (s1.root :: ls.map (·.pg)) fr1 := hf.put (hf.notin (by simp))
  rw [finS_eq (s := { s1 with w := s1.w + 1, cc := upd s1.cc s1.root (.node ⟨false, ls.map Lf.en⟩) }) (show s1.root < 65536 by omega) (by have := free_lt hf2 (N := N) (by show s1.fresh ≤ N; omega) (by omega); omega) (show s1.fresh < 65536 by omega) (show s1.w + 1 < 100 by omega) (by omega)]
  have hne : ∀ x ∈ ls, x.pg ≠ s1.root := fun x hx e => by
    have := hf.d
    rw [List.cons_append, List.nodup_cons] at this
    exact this.1 (List.mem_append_left _ (by rw [← e]; exact List.mem_map_of_mem hx))
  have ti : TInv U N { s1 with w := s1.w + 1, cc := upd s1.cc s1.root (.node ⟨false, ls.map Lf.en⟩) } (ls.flatMap (·.es)) fr1 (s1.root :: ls.map (·.pg)) :=
    ⟨upd_ok hok hin, hsr, hen, hf2, by show s1.fresh ≤ N; omega, .inr (.inr ⟨ls, ⟨upd_at, fun x hx => by show upd s1.cc s1.root _ x.pg = _; rw [upd_ne (hne x hx)]; exact hc x hx, hn, hl, hh, ho, hlw⟩, rfl, rfl⟩)⟩
  exact ⟨_, rfl, ti.fin (y := .head s1.root s1.free s1.fresh) trivial, rfl, rfl, by show s1.root ≠ 0; omega⟩
theorem flat_lenL {α : Type} {m : Nat} {f : α → List En} : ∀ {l : List α}, (∀ x ∈ l, m ≤ (f x).length) → l.length * m ≤ (l.flatMap f).length
  | [], _ => by simp
  | x :: l, h => by
    have ih := flat_lenL (f := f) (l := l) (fun y hy => h y (List.mem_cons_of_mem _ hy))
    have := h x (by simp)
    rw [List.flatMap_cons, List.length_append, List.length_cons, Nat.add_mul]; omega
/-- Where a key goes, and what stands on either side. -/
structure Spot (key : Bs) (ls L1 : List Lf) (x : Lf) (L2 : List Lf) : Prop where
  e : ls = L1 ++ x :: L2
  i : (findP ⟨false, ls.map Lf.en⟩ key).1 = L1.length
  k1 : lexB key x.low = false
  k2 : ∀ b ∈ L2, lexB key b.low = true
  a : ∀ e ∈ L1.flatMap (·.es), lexB e.k key = true
  b : ∀ e ∈ L2.flatMap (·.es), lexB key e.k = true
theorem spot_of {ls : List Lf} {key : Bs} (ho : Ord ls) (hh : ∀ x, ls.head? = some x → x.low = []) (hn : ls ≠ []) : ∃ L1 x L2, Spot key ls L1 x L2 := by
  have hs : Srt (ls.map Lf.en) := by unfold Srt; rw [List.pairwise_map]; exact ho.s1
  have h0 : ∀ e, (ls.map Lf.en).head? = some e → lexB key e.k = false := fun e he => by
    rw [List.head?_map] at he
    cases hl : ls.head? with
    | none => rw [hl] at he; cases he
    | some x =>
      rw [hl] at he
      have := hh x hl
      cases he
      show lexB key x.low = false
      rw [this]
      cases key <;> simp [lexB]
  obtain ⟨h1, h2, h3⟩ := find_in (key := key) hs h0 (by simpa using hn)
  generalize hi : (findP ⟨false, ls.map Lf.en⟩ key).1 = i at *
  rw [List.length_map] at h1
  have he : ls = ls.take i ++ ls[i] :: ls.drop (i + 1) := by rw [← List.drop_eq_getElem_cons h1, List.take_append_drop]
  have hk1 : lexB key ls[i].low = false := by
    have := h2 i (by rw [List.length_map]; exact h1) (Nat.le_refl _)
    rw [List.getElem_map] at this; exact this
  have hk2 : ∀ b ∈ ls.drop (i + 1), lexB key b.low = true := fun b hb => by
    obtain ⟨j, hj, rfl⟩ := List.getElem_of_mem hb
    rw [List.length_drop] at hj
    rw [List.getElem_drop]
    have := h3 (i + 1 + j) (by rw [List.length_map]; omega) (by omega)
    rw [List.getElem_map] at this; exact this
  have hp := ho.s3
  rw [he, List.pairwise_append] at hp
  refine ⟨ls.take i, ls[i], ls.drop (i + 1), he, by rw [List.length_take]; omega, hk1, hk2, fun e hm => ?_, fun e hm => ?_⟩
  · obtain ⟨a, ha, hea⟩ := List.mem_flatMap.1 hm
    have h4 := hp.2.2 a ha ls[i] List.mem_cons_self e hea
    by_cases e5 : key = ls[i].low
    · rw [e5]; exact h4
    · exact lexB_trans _ _ _ h4 (lexB_total hk1 e5)
  · obtain ⟨b, hb, heb⟩ := List.mem_flatMap.1 hm
    have h4 := ho.s2 b (List.mem_of_mem_drop hb) e heb
    have h5 := hk2 b hb
    by_cases e5 : e.k = b.low
    · rw [e5]; exact h5
    · exact lexB_trans _ _ _ h5 (lexB_total h4 e5)
end Go.Proofs.YtfaeklinhchidaaGreat

/-
  A key is put into a tree. No program in sight.
-/
set_option linter.all false
set_option maxRecDepth 100000
namespace Go.Proofs.YtfaeklinhchidaaGreat
open Go Hold
theorem put_two {M : Nat → St → Nd → Nat → Option (Nd × St)} (hM : MendEasy M) {U : Uz} {N : Nat} {s : St} {ls : List Lf} {fr : List Nat} {key val : Bs} (hok : ∀ p, p < N → (s.cc p).Ok) (hsr : Srt (ls.flatMap (·.es))) (hen : ∀ e ∈ ls.flatMap (·.es), EnU U e) (hf : FrOk s (s.root :: ls.map (·.pg)) fr) (t : Two U s ls)
    (hw : s.w ≤ 10) (hk : key.length = U.kl) (hv : val.length = U.vl) (hN : s.fresh + 2 < N) (hN2 : N ≤ 60000) (hT : (insL key val (ls.flatMap (·.es))).length / U.lo * (U.kl + 3) ≤ 253) :
    ∃ s' fr' used', ((atS M N (putF key val) key 3 s s.root []).bind fun q => (growS N q.1 q.2).bind fun s3 => (dropS N 3 s3).bind fun s4 => finS N s4) = some s' ∧ TInv U N s' (insL key val (ls.flatMap (·.es))) fr' used' ∧ s'.fresh ≤ s.fresh + 2 ∧ s'.root ≠ 0 ∧ fr'.length ≤ fr.length := by
  have hl1 := U.l1; have hl2 := U.l2; have hl3 := U.l3
  obtain ⟨L1, x, L2, sp⟩ := spot_of (key := key) t.o t.h (fun e => by have := t.n; rw [e] at this; simp at this)
  have hrm := hf.m s.root (by simp)
  have hrN : s.root < N := by omega
  have hxm : x ∈ ls := by rw [sp.e]; simp
  have hxp := hf.m x.pg (by simp; exact .inr (.inl ⟨x, hxm, rfl⟩))
  have hxN : x.pg < N := by omega
  have hfl : ls.flatMap (·.es) = L1.flatMap (·.es) ++ x.es ++ L2.flatMap (·.es) := by rw [sp.e]; simp
  have hsx : Srt x.es := by rw [hfl] at hsr; exact (List.pairwise_append.1 (List.pairwise_append.1 hsr).1).2.1
  have hex : ∀ e ∈ x.es, EnU U e := fun e hm => hen e (List.mem_flatMap.2 ⟨x, hxm, hm⟩)
  have hins : insL key val (ls.flatMap (·.es)) = L1.flatMap (·.es) ++ insL key val x.es ++ L2.flatMap (·.es) := by
    rw [hfl] at hsr ⊢; exact ins_mid hsr sp.a sp.b
  have hnd := hf.d
  rw [List.cons_append, List.nodup_cons] at hnd
  have hrne : ∀ y ∈ ls, y.pg ≠ s.root := fun y hy e => hnd.1 (List.mem_append_left _ (by rw [← e]; exact List.mem_map_of_mem hy))
  have hpd : (ls.map (·.pg)).Nodup := (List.nodup_append.1 hnd.2).1
  have hxne : ∀ y, y ∈ L1 ∨ y ∈ L2 → y.pg ≠ x.pg := fun y hy e => by
    rw [sp.e, List.map_append, List.map_cons, List.nodup_append, List.nodup_cons] at hpd
    rcases hy with hy | hy
    · exact hpd.2.2 y.pg (List.mem_map_of_mem hy) x.pg (by simp) e
    · exact hpd.2.1.1 (by rw [← e]; exact List.mem_map_of_mem hy)
  have hes := ins_srt (key := key) (val := val) hsx
  have hee := ins_enu hsx hex hk hv
  obtain ⟨n1, n2, n3⟩ := ins_len (key := key) (val := val) hsx
  have hxl := t.l x hxm
  have hSr := ins_srt (key := key) (val := val) hsr
  have hEn := ins_enu hsr hen hk hv
  have hrd := readS_eq hrN t.r
  have hrx : readS N s x.pg = some ⟨true, x.es⟩ := readS_eq hxN (t.c x hxm)
  have hEn0 : (ls.map Lf.en) = L1.map Lf.en ++ x.en :: L2.map Lf.en := by rw [sp.e]; simp
  have hgi : (ls.map Lf.en)[(findP ⟨false, ls.map Lf.en⟩ key).1]? = some x.en := by
    rw [sp.i, hEn0, List.getElem?_append_right (by simp)]; simp
  have hrebuild : ∀ below : List En, (ls.map Lf.en).take (findP ⟨false, ls.map Lf.en⟩ key).1 ++ below ++ (ls.map Lf.en).drop ((findP ⟨false, ls.map Lf.en⟩ key).1 + 1) = L1.map Lf.en ++ below ++ L2.map Lf.en := fun below => by
    rw [sp.i, hEn0, List.take_left' (by simp), List.drop_append, List.drop_eq_nil_of_le (by simp)]
    simp
  -- what is the same for one new leaf and for two
  have fin : ∀ (Ns : List Lf) (s1 : St) (fr1 : List Nat), Ns ≠ [] → atS M N (putF key val) key 2 s x.en.pg x.en.k = some (Ns.map Lf.en, s1) → s1.root = s.root → (∀ p, p < N → (s1.cc p).Ok) → FrOk s1 (s1.root :: (L1 ++ Ns ++ L2).map (·.pg)) fr1 →
      (∀ y ∈ Ns, s1.cc y.pg = .node ⟨true, y.es⟩) → (∀ y, y ∈ L1 ∨ y ∈ L2 → s1.cc y.pg = s.cc y.pg) → (∀ y ∈ Ns, U.lo ≤ y.es.length ∧ y.es.length ≤ U.cap) → (∀ y, Ns.head? = some y → y.low = x.low) → Ord Ns → (∀ y ∈ Ns, y.low = x.low ∨ lexB x.low y.low = true) →
      (∀ y ∈ Ns, ∀ b ∈ L2, lexB y.low b.low = true ∧ ∀ e ∈ y.es, lexB e.k b.low = true) → (∀ y ∈ Ns, y.low.length ≤ U.kl) → Ns.flatMap (·.es) = insL key val x.es → s1.w ≤ 20 → s1.fresh ≤ s.fresh + 1 → fr1.length ≤ fr.length → (∀ y ∈ Ns, ∀ e ∈ y.es, EnU U e) →
      ∃ s' fr' used', ((atS M N (putF key val) key 3 s s.root []).bind fun q => (growS N q.1 q.2).bind fun s3 => (dropS N 3 s3).bind fun s4 => finS N s4) = some s' ∧ TInv U N s' (insL key val (ls.flatMap (·.es))) fr' used' ∧ s'.fresh ≤ s.fresh + 2 ∧ s'.root ≠ 0 ∧ fr'.length ≤ fr.length := by
    intro Ns s1 fr1 hNs hat hr1 hok1 hf1 hc1 hc2 hl hh1 ho1 hlow hb2 hlw hfm hw1 hfr1 hfre hNe
    have hF : (L1 ++ Ns ++ L2).flatMap (·.es) = insL key val (ls.flatMap (·.es)) := by rw [hins, ← hfm]; simp
    have hord : Ord (L1 ++ Ns ++ L2) := ord_replace (by rw [← sp.e]; exact t.o) ho1 hlow hb2
    have hpos : 0 < Ns.length := List.length_pos_iff.2 hNs
    have hlen : 2 ≤ (L1 ++ Ns ++ L2).length := by
      have := t.n
      rw [sp.e] at this
      simp only [List.length_append, List.length_cons] at this ⊢; omega
    have hall : ∀ y ∈ L1 ++ Ns ++ L2, U.lo ≤ y.es.length ∧ y.es.length ≤ U.cap := fun y hy => by
      rcases List.mem_append.1 hy with hy | hy
      · rcases List.mem_append.1 hy with hy | hy
        · exact t.l y (by rw [sp.e]; simp [hy])
        · exact hl y hy
      · exact t.l y (by rw [sp.e]; simp [hy])
    have hbound : (L1 ++ Ns ++ L2).length * (U.kl + 3) ≤ 253 := by
      have h1 := flat_lenL (m := U.lo) (f := fun y : Lf => y.es) (l := L1 ++ Ns ++ L2) (fun y hy => (hall y hy).1)
      rw [hF] at h1
      have h2 : (L1 ++ Ns ++ L2).length ≤ (insL key val (ls.flatMap (·.es))).length / U.lo := (Nat.le_div_iff_mul_le (by omega)).2 h1
      exact Nat.le_trans (Nat.mul_le_mul_right _ h2) hT
    obtain ⟨y0, Nt, rfl⟩ : ∃ y0 Nt, Ns = y0 :: Nt := by cases Ns with
      | nil => exact absurd rfl hNs
      | cons y l => exact ⟨y, l, rfl⟩
    have hy0p : y0.pg < N := by
      have := (hf1.m y0.pg (by simp)).2; omega
    have hm : M N s1 ⟨false, (L1 ++ (y0 :: Nt) ++ L2).map Lf.en⟩ L1.length = some (⟨false, (L1 ++ (y0 :: Nt) ++ L2).map Lf.en⟩, s1) := by
      refine hM.b (c := y0.en) (ch := ⟨true, y0.es⟩) (by show 2 ≤ ((L1 ++ (y0 :: Nt) ++ L2).map Lf.en).length; rw [List.length_map]; exact hlen) ?_ (readS_eq hy0p (hc1 y0 (by simp))) (leaf_rich (hNe y0 (by simp)) (hl y0 (by simp)).1)
      show ((L1 ++ (y0 :: Nt) ++ L2).map Lf.en)[L1.length]? = _
      rw [List.getElem?_map, List.append_assoc, List.getElem?_append_right (Nat.le_refl _)]
      simp
    have hat3 : atS M N (putF key val) key 3 s s.root [] = writeS N s1 s1.root [] ⟨false, (L1 ++ (y0 :: Nt) ++ L2).map Lf.en⟩ := by
      rw [hr1]
      refine at_two hrd hgi hat ?_
      rw [hrebuild, sp.i]
      rw [show L1.map Lf.en ++ (y0 :: Nt).map Lf.en ++ L2.map Lf.en = (L1 ++ (y0 :: Nt) ++ L2).map Lf.en by simp]
      exact hm
    rw [hat3]
    obtain ⟨s', g1, g2, g3, g4, g5⟩ := two_rest (U := U) (ls := L1 ++ (y0 :: Nt) ++ L2) (kvs := []) hok1 (by rw [hF]; exact hSr) (by rw [hF]; exact hEn) hf1 (fun y hy => by
      rcases List.mem_append.1 hy with hy | hy
      · rcases List.mem_append.1 hy with hy | hy
        · rw [hc2 y (.inl hy)]; exact t.c y (by rw [sp.e]; simp [hy])
        · exact hc1 y hy
      · rw [hc2 y (.inr hy)]; exact t.c y (by rw [sp.e]; simp [hy])) hlen hall (fun y hy => by
      cases L1 with
      | nil =>
        have : (y0 :: Nt).head? = some y := by simpa using hy
        rw [hh1 y this]
        exact t.h x (by rw [sp.e]; rfl)
      | cons a L1 =>
        have : a = y := by simpa using hy
        rw [← this]
        exact t.h a (by rw [sp.e]; rfl)) hord (fun y hy => by
      rcases List.mem_append.1 hy with hy | hy
      · rcases List.mem_append.1 hy with hy | hy
        · exact t.w y (by rw [sp.e]; simp [hy])
        · exact hlw y hy
      · exact t.w y (by rw [sp.e]; simp [hy])) hbound hw1 (by omega) hN2
    rw [hF] at g2
    exact ⟨s', fr1, _, g1, g2, by omega, g5, hfre⟩
  have hxlw := t.w x hxm
  have hL2 : ∀ b ∈ L2, lexB x.low b.low = true ∧ ∀ e ∈ insL key val x.es, lexB e.k b.low = true := fun b hb => by
    have h1 := t.o.s1; have h3 := t.o.s3
    rw [sp.e, List.pairwise_append, List.pairwise_cons] at h1 h3
    refine ⟨h1.2.1.1 b hb, fun e he => ?_⟩
    rcases ins_mem hsx he with rfl | he
    · exact sp.k2 b hb
    · exact h3.2.1.1 b hb e he
  have hlowI : ∀ e ∈ insL key val x.es, lexB e.k x.low = false := fun e he => by
    rcases ins_mem hsx he with rfl | he
    · exact sp.k1
    · exact t.o.s2 x hxm e he
  have hat2 : atS M N (putF key val) key 2 s x.en.pg x.en.k = writeS N s x.pg x.low ⟨true, insL key val x.es⟩ := by
    rw [show x.en.pg = x.pg from rfl, show x.en.k = x.low from rfl, at_leaf hrx, putF_eq]
  by_cases hcap : (insL key val x.es).length ≤ U.cap
  · rw [leaf_one hee hes hcap hxN] at hat2
    let x' : Lf := ⟨x.low, x.pg, insL key val x.es⟩
    refine fin [x'] _ fr (by simp) hat2 rfl (upd_ok hok (leaf_ok hee hes hcap)) ?_ ?_ ?_ ?_ ?_ ?_ ?_ ?_ ?_ ?_ (by show s.w + 1 ≤ 20; omega) (Nat.le_add_right _ _) (Nat.le_refl _) ?_
    · have : (L1 ++ [x'] ++ L2).map (·.pg) = ls.map (·.pg) := by rw [sp.e]; simp [x']
      rw [this]
      exact hf.put (hf.notin (by simp; exact .inr ⟨x, hxm, rfl⟩))
    · intro y hy
      simp only [List.mem_singleton] at hy; subst hy
      exact upd_at
    · intro y hy
      exact upd_ne (hxne y hy)
    · intro y hy
      simp only [List.mem_singleton] at hy; subst hy
      exact ⟨by show U.lo ≤ (insL key val x.es).length; omega, hcap⟩
    · intro y hy; cases hy; rfl
    · refine ⟨List.pairwise_singleton _ _, fun y hy e he => ?_, List.pairwise_singleton _ _⟩
      simp only [List.mem_singleton] at hy; subst hy
      exact hlowI e he
    · intro y hy
      simp only [List.mem_singleton] at hy; subst hy
      exact .inl rfl
    · intro y hy b hb
      simp only [List.mem_singleton] at hy; subst hy
      exact hL2 b hb
    · intro y hy
      simp only [List.mem_singleton] at hy; subst hy
      exact hxlw
    · simp [x']
    · intro y hy e he
      simp only [List.mem_singleton] at hy; subst hy
      exact hee e he
  · have hcap : (insL key val x.es).length = U.cap + 1 := by omega
    obtain ⟨o, s1, fr1, ht, a1, a2, a3, a4, a5, a6, hf1, a7, a8, _⟩ := hf.take (N := N) (by omega)
    obtain ⟨e5, h5m, h5h, hw2⟩ := leaf_two (low := x.low) hee hes hcap hxN a6 ht
    rw [hw2] at hat2
    generalize hE : insL key val x.es = E at *
    obtain ⟨p1, p2, p3⟩ := srt_parts (i := U.lo) hes
    obtain ⟨q1, q2⟩ := head_le hes h5h
    have hox : o ≠ x.pg := fun e => a4 (by rw [e]; simp; exact .inr ⟨x, hxm, rfl⟩)
    have hoy : ∀ y ∈ ls, y.pg ≠ o := fun y hy e => a4 (by rw [← e]; simp; exact .inr ⟨y, hy, rfl⟩)
    have hor : o ≠ s.root := fun e => a4 (by rw [e]; simp)
    have h5E : e5 ∈ E := List.mem_of_mem_drop h5m
    have hx5 : lexB x.low e5.k = true := by
      have hpos : 0 < (E.take U.lo).length := by rw [List.length_take]; omega
      have ha := q1 (E.take U.lo)[0] (List.getElem_mem _)
      have hb := hlowI (E.take U.lo)[0] (List.mem_of_mem_take (List.getElem_mem _))
      by_cases e : (E.take U.lo)[0].k = x.low
      · rw [← e]; exact ha
      · exact lexB_trans _ _ _ (lexB_total hb e) ha
    have ok1 : NdOk ⟨true, E.take U.lo⟩ := leaf_ok (U := U) (fun e hm => hee e (List.mem_of_mem_take hm)) p1 (by rw [List.length_take]; omega)
    have ok2 : NdOk ⟨true, E.drop U.lo⟩ := leaf_ok (U := U) (fun e hm => hee e (List.mem_of_mem_drop hm)) p2 (by rw [List.length_drop]; omega)
    let x1 : Lf := ⟨x.low, x.pg, E.take U.lo⟩
    let x2 : Lf := ⟨e5.k, o, E.drop U.lo⟩
    have hx1 : x1 = ⟨x.low, x.pg, E.take U.lo⟩ := rfl
    have hx2 : x2 = ⟨e5.k, o, E.drop U.lo⟩ := rfl
    have two : ∀ {P : Lf → Prop}, P x1 → P x2 → ∀ y ∈ [x1, x2], P y := fun h1 h2 y hy => by
      simp only [List.mem_cons, List.not_mem_nil, or_false] at hy
      rcases hy with rfl | rfl
      · exact h1
      · exact h2
    refine fin [x1, x2] _ fr1 (by simp) hat2 a2 ?_ ?_ ?_ ?_ ?_ ?_ ?_ ?_ ?_ ?_ ?_ (by show s1.w + 2 ≤ 20; omega) a7 a8 ?_
    · show ∀ p, p < N → (upd (upd s1.cc x.pg _) o _ p).Ok
      rw [a1]; exact upd_ok (upd_ok hok ok1) ok2
    · have hp : (o :: s.root :: ls.map (·.pg)).Perm (s1.root :: (L1 ++ [x1, x2] ++ L2).map (·.pg)) := by
        rw [a2, sp.e]
        refine (List.Perm.swap _ _ _).trans (List.Perm.cons _ ?_)
        simp only [List.map_append, List.map_cons, List.map_nil, List.append_assoc, List.cons_append, List.nil_append]
        show (o :: (L1.map (·.pg) ++ x.pg :: L2.map (·.pg))).Perm (L1.map (·.pg) ++ x.pg :: o :: L2.map (·.pg))
        refine List.Perm.trans ?_ (List.Perm.append_left _ (List.Perm.swap _ _ _))
        exact List.perm_middle.symm
      have hf2 := hf1.perm hp
      have hno : o ∉ fr1 := hf1.notin (by simp)
      have hnx : x.pg ∉ fr1 := hf1.notin (by simp; exact .inr (.inr ⟨x, hxm, rfl⟩))
      exact ⟨(hf2.c.upd hnx).upd hno, hf2.d, hf2.m, hf2.n⟩
    · refine two ?_ ?_
      · show upd (upd s1.cc x.pg _) o _ x.pg = _
        rw [upd_ne (fun e => hox e.symm), upd_at]
      · exact upd_at
    · intro y hy
      show upd (upd s1.cc x.pg _) o _ y.pg = _
      have hym : y ∈ ls := by rw [sp.e]; rcases hy with hy | hy <;> simp [hy]
      rw [upd_ne (hoy y hym), upd_ne (hxne y hy), a1]
    · refine two ?_ ?_
      · show U.lo ≤ (E.take U.lo).length ∧ (E.take U.lo).length ≤ U.cap
        rw [List.length_take]; omega
      · show U.lo ≤ (E.drop U.lo).length ∧ (E.drop U.lo).length ≤ U.cap
        rw [List.length_drop]; omega
    · intro y hy; cases hy; rfl
    · refine ⟨List.pairwise_pair.2 hx5, two ?_ ?_, List.pairwise_pair.2 fun e he => q1 e he⟩
      · exact fun e he => hlowI e (List.mem_of_mem_take he)
      · exact fun e he => q2 e he
    · exact two (.inl rfl) (.inr hx5)
    · refine two (P := fun y => ∀ b ∈ L2, lexB y.low b.low = true ∧ ∀ e ∈ y.es, lexB e.k b.low = true) ?_ ?_
      · exact fun b hb => ⟨(hL2 b hb).1, fun e he => (hL2 b hb).2 e (List.mem_of_mem_take he)⟩
      · exact fun b hb => ⟨(hL2 b hb).2 e5 h5E, fun e he => (hL2 b hb).2 e (List.mem_of_mem_drop he)⟩
    · refine two hxlw ?_
      show e5.k.length ≤ U.kl
      rw [(hee e5 h5E).k]; exact Nat.le_refl _
    · show [x1, x2].flatMap (·.es) = E
      simp [x1, x2]
    · exact two (P := fun y => ∀ e ∈ y.es, EnU U e) (fun e he => hee e (List.mem_of_mem_take he)) (fun e he => hee e (List.mem_of_mem_drop he))
/-- A key is put. -/
theorem put_ok {M : Nat → St → Nd → Nat → Option (Nd × St)} (hM : MendEasy M) {U : Uz} {N : Nat} {s : St} {kvs : List En} {fr used : List Nat} {key val : Bs} (ti : TInv U N s kvs fr used) (hw : s.w = 0) (hk : key.length = U.kl) (hv : val.length = U.vl) (hN : s.fresh + 3 < N) (hN2 : N ≤ 60000)
    (hT : (insL key val kvs).length / U.lo * (U.kl + 3) ≤ 253) (hT2 : 2 * (U.kl + 3) ≤ 253) :
    ∃ s' fr' used', doS M N (putF key val) key s = some s' ∧ TInv U N s' (insL key val kvs) fr' used' ∧ s'.fresh ≤ s.fresh + 3 ∧ s'.root ≠ 0 ∧ fr'.length ≤ fr.length := by
  unfold doS
  have hl3 := U.l3
  rcases ti.sh with ⟨a, b, c⟩ | ⟨a, b, c, d⟩ | ⟨ls, t, hus, hkv⟩
  · subst b; subst c
    obtain ⟨o, s1, fr1, ht, a1, a2, a3, a4, a5, a6, hf1, a7, a8, _⟩ := ti.f.take (N := N) (by omega)
    have ok0 : NdOk ⟨true, []⟩ := ⟨fun e h => by simp at h, List.Pairwise.nil, by simp [Nd.bytes]⟩
    have hst : startS N s = some ⟨o, s1.free, s1.fresh, s1.w + 1, upd s1.cc o (.node ⟨true, []⟩)⟩ := by
      unfold startS
      rw [if_pos a, ht]
      exact putS_eq (s := { s1 with root := o }) (y := .node ⟨true, []⟩) a6 ok0
    rw [hst]
    simp only [Option.bind_some]
    obtain ⟨s', fr', used', g1, g2, g3, g4, g5⟩ := put_leaf_root (M := M) (U := U) (N := N) (s := ⟨o, s1.free, s1.fresh, s1.w + 1, upd s1.cc o (.node ⟨true, []⟩)⟩) (kvs := []) (fr := fr1) (key := key) (val := val) (by
      show ∀ p, p < N → (upd s1.cc o _ p).Ok
      rw [a1]; exact upd_ok ti.ok ok0) ti.srt ti.en (hf1.put (hf1.notin (by simp))) (by show o ≠ 0; omega) upd_at (by simp) (by show s1.w + 1 ≤ 10; omega) hk hv (by show s1.fresh + 2 < N; omega) hN2 hT2
    exact ⟨s', fr', used', g1, g2, by have : s'.fresh ≤ s1.fresh + 2 := g3; omega, g4, Nat.le_trans g5 a8⟩
  · subst d
    have hst : startS N s = some s := by unfold startS; rw [if_neg a]
    rw [hst]
    simp only [Option.bind_some]
    obtain ⟨s', fr', used', g1, g2, g3, g4, g5⟩ := put_leaf_root (M := M) ti.ok ti.srt ti.en ti.f a b c (by omega) hk hv (by omega) hN2 hT2
    exact ⟨s', fr', used', g1, g2, by omega, g4, g5⟩
  · subst hus; subst hkv
    have hr : s.root ≠ 0 := by have := (ti.f.m s.root (by simp)).1; omega
    have hst : startS N s = some s := by unfold startS; rw [if_neg hr]
    rw [hst]
    simp only [Option.bind_some]
    obtain ⟨s', fr', used', g1, g2, g3, g4, g5⟩ := put_two hM ti.ok ti.srt ti.en ti.f t (by omega) hk hv (by omega) hN2 hT
    exact ⟨s', fr', used', g1, g2, by omega, g4, g5⟩
end Go.Proofs.YtfaeklinhchidaaGreat

/-
  How a tree's pages lie, plainly. No program in sight.
-/
set_option linter.all false
set_option maxRecDepth 100000
namespace Go.Proofs.YtfaeklinhchidaaGreat
open Go Hold
abbrev Acc := List Nat × Option Bs
def ahead : Option Bs → Bs → Bool
  | none, _ => true
  | some k, e => lexB k e
def lookLeaf : List En → Option Bs → Option (Option Bs)
  | [], last => some last
  | e :: l, last => if e.k ≠ [] ∧ ahead last e.k = true then lookLeaf l (some e.k) else none
theorem lookLeaf_cons (e : En) (l : List En) (last : Option Bs) : lookLeaf (e :: l) last = if e.k ≠ [] ∧ ahead last e.k = true then lookLeaf l (some e.k) else none := by
  cases last <;> simp [lookLeaf]
def lookKids (g : Nat → Acc → Option (Nat × Acc)) : List En → Bool → Nat → Acc → Option (Nat × Acc)
  | [], _, high, acc => some (high, acc)
  | e :: l, first, high, acc => (g e.pg acc).bind fun q => if first = false ∧ q.1 ≠ high then none else lookKids g l false q.1 q.2
def lookS (N root fresh : Nat) (cc : Nat → PgC) : Nat → Nat → Acc → Option (Nat × Acc)
  | 0, _, _ => none
  | f + 1, p, acc =>
    if 1 ≤ p ∧ p < fresh ∧ p < N ∧ p ∉ acc.1 then
      match cc p with
      | .node n =>
        if p ≠ root ∧ n.poor = true then none
        else if n.leaf then (lookLeaf n.l acc.2).bind fun last => some (1, (acc.1 ++ [p], last))
        else (lookKids (lookS N root fresh cc f) n.l true 0 (acc.1 ++ [p], acc.2)).bind fun q => some (q.1 + 1, q.2)
      | _ => none
    else none
theorem lookKids_len {g : Nat → Acc → Option (Nat × Acc)} (hg : ∀ p acc q, g p acc = some q → acc.1.length ≤ q.2.1.length) : ∀ (l : List En) (first : Bool) (high : Nat) (acc : Acc) (q : Nat × Acc), lookKids g l first high acc = some q → acc.1.length ≤ q.2.1.length
  | [], first, high, acc, q, h => by cases h; exact Nat.le_refl _
  | e :: l, first, high, acc, q, h => by
    unfold lookKids at h
    obtain ⟨q1, h1, h2⟩ := Option.bind_eq_some_iff.1 h
    split at h2
    · cases h2
    · exact Nat.le_trans (hg _ _ _ h1) (lookKids_len hg l false _ _ _ h2)
theorem lookS_len {N root fresh : Nat} {cc : Nat → PgC} : ∀ (f p : Nat) (acc : Acc) (q : Nat × Acc), lookS N root fresh cc f p acc = some q → acc.1.length < q.2.1.length
  | 0, p, acc, q, h => by cases h
  | f + 1, p, acc, q, h => by
    unfold lookS at h
    split at h
    · split at h
      · rename_i n _
        split at h
        · cases h
        · split at h
          · obtain ⟨l, h1, h2⟩ := Option.bind_eq_some_iff.1 h
            cases h2
            simp
          · obtain ⟨q1, h1, h2⟩ := Option.bind_eq_some_iff.1 h
            cases h2
            have h3 : (acc.1 ++ [p]).length ≤ q1.2.1.length := lookKids_len (fun p acc q h => Nat.le_of_lt (lookS_len f p acc q h)) _ _ _ _ _ h1
            rw [List.length_append] at h3
            exact h3
      · cases h
    · cases h
end Go.Proofs.YtfaeklinhchidaaGreat

/-
  What a tree tells: a key's value, all pairs, how its pages lie. No program in sight.
-/
set_option linter.all false
set_option maxRecDepth 100000
namespace Go.Proofs.YtfaeklinhchidaaGreat
open Go Hold
theorem leaf_find {es : List En} {e : En} (h : Srt es) (hm : e ∈ es) : (findP ⟨true, es⟩ e.k).2 = true ∧ es[(findP ⟨true, es⟩ e.k).1]? = some e := by
  have cu := srt_cut (key := e.k) h
  unfold findP
  simp only [Bool.not_true, Bool.false_and, Bool.false_eq_true, if_false]
  refine ⟨List.any_eq_true.2 ⟨e, hm, by simp⟩, ?_⟩
  generalize es.countP (fun x => lexB x.k e.k) = i at *
  obtain ⟨m, hm2, rfl⟩ := List.getElem_of_mem hm
  have h1 : ¬ m < i := fun hlt => by
    have := cu.a m hm2 hlt
    rw [lexB_irrefl] at this; cases this
  have h2 : m = i := by
    refine Classical.byContradiction fun hne => ?_
    have h3 := srt_lt h (show i < m by omega) hm2
    rw [cu.b i (by omega) (Nat.le_refl _)] at h3; cases h3
  rw [← h2, List.getElem?_eq_getElem hm2]
theorem get_ok {U : Uz} {N : Nat} {s : St} {kvs : List En} {fr used : List Nat} (ti : TInv U N s kvs fr used) {e : En} (he : e ∈ kvs) : ∃ n i, leafS N s e.k 3 s.root = some (n, i, true) ∧ n.l[i]? = some e := by
  have hfN := ti.fN
  rcases ti.sh with ⟨a, b, c⟩ | ⟨a, b, c, d⟩ | ⟨ls, t, hus, hkv⟩
  · rw [b] at he; simp at he
  · have hr := ti.f.m s.root (by rw [d]; simp)
    obtain ⟨h1, h2⟩ := leaf_find ti.srt he
    refine ⟨⟨true, kvs⟩, (findP ⟨true, kvs⟩ e.k).1, ?_, h2⟩
    unfold leafS
    rw [if_neg a, readS_eq (by omega) b]
    simp only [Option.bind_some, if_true]
    rw [show findP ⟨true, kvs⟩ e.k = ((findP ⟨true, kvs⟩ e.k).1, true) from Prod.ext rfl h1]
  · subst hus; subst hkv
    have hr := ti.f.m s.root (by simp)
    obtain ⟨L1, x, L2, sp⟩ := spot_of (key := e.k) t.o t.h (fun e => by have := t.n; rw [e] at this; simp at this)
    have hxm : x ∈ ls := by rw [sp.e]; simp
    have hxp := ti.f.m x.pg (by simp; exact .inr (.inl ⟨x, hxm, rfl⟩))
    have hfl : ls.flatMap (·.es) = L1.flatMap (·.es) ++ x.es ++ L2.flatMap (·.es) := by rw [sp.e]; simp
    have hsx : Srt x.es := by have := ti.srt; rw [hfl] at this; exact (List.pairwise_append.1 (List.pairwise_append.1 this).1).2.1
    have hex : e ∈ x.es := by
      rw [hfl] at he
      rcases List.mem_append.1 he with he | he
      · rcases List.mem_append.1 he with he | he
        · have := sp.a e he; rw [lexB_irrefl] at this; cases this
        · exact he
      · have := sp.b e he; rw [lexB_irrefl] at this; cases this
    obtain ⟨h1, h2⟩ := leaf_find hsx hex
    refine ⟨⟨true, x.es⟩, (findP ⟨true, x.es⟩ e.k).1, ?_, h2⟩
    have hgi : (ls.map Lf.en)[(findP ⟨false, ls.map Lf.en⟩ e.k).1]? = some x.en := by
      rw [sp.i, sp.e, List.map_append, List.getElem?_append_right (by simp)]; simp
    rw [leafS, if_neg (by omega), readS_eq (by omega) t.r]
    simp only [Option.bind_some, Bool.false_eq_true, if_false]
    rw [hgi]
    simp only [Option.bind_some]
    rw [leafS, if_neg (by show ¬ x.pg = 0; omega), readS_eq (show x.en.pg < N by show x.pg < N; omega) (t.c x hxm)]
    simp only [Option.bind_some, if_true]
    rw [show findP ⟨true, x.es⟩ e.k = ((findP ⟨true, x.es⟩ e.k).1, true) from Prod.ext rfl h1]
def lastOf (es : List En) (last : Option Bs) : Option Bs := match es.getLast? with
  | some e => some e.k
  | none => last
theorem lastOf_cons (e : En) (l : List En) (last : Option Bs) : lastOf (e :: l) last = lastOf l (some e.k) := by
  unfold lastOf
  cases l with
  | nil => rfl
  | cons y l =>
    rw [List.getLast?_cons_cons]
    cases h : (y :: l).getLast? with
    | none => simp at h
    | some z => rfl
theorem lastOf_app {l m : List En} {last : Option Bs} : lastOf (l ++ m) last = lastOf m (lastOf l last) := by
  induction l generalizing last with
  | nil => rfl
  | cons e l ih => rw [List.cons_append, lastOf_cons, lastOf_cons, ih]
theorem look_leaf_ok : ∀ {es : List En} {last : Option Bs}, Srt es → (∀ e ∈ es, e.k ≠ []) → (∀ e ∈ es, ahead last e.k = true) → lookLeaf es last = some (lastOf es last)
  | [], last, _, _, _ => rfl
  | e :: l, last, hs, hk, ha => by
    rw [lookLeaf_cons, if_pos ⟨hk e (by simp), ha e (by simp)⟩, lastOf_cons]
    exact look_leaf_ok (List.pairwise_cons.1 hs).2 (fun x hx => hk x (List.mem_cons_of_mem _ hx)) (fun x hx => (List.pairwise_cons.1 hs).1 x hx)
theorem ahead_last {es m : List En} {last : Option Bs} (h : Srt (es ++ m)) (ha : ∀ e ∈ es ++ m, ahead last e.k = true) : ∀ e ∈ m, ahead (lastOf es last) e.k = true := by
  intro e he
  unfold lastOf
  cases hl : es.getLast? with
  | none => exact ha e (List.mem_append_right _ he)
  | some z => exact (List.pairwise_append.1 h).2.2 z (List.mem_of_getLast? hl) e he
theorem look_kids_ok {U : Uz} {N root fresh : Nat} {cc : Nat → PgC} : ∀ {ls : List Lf} {first : Bool} {high : Nat} {acc : Acc}, (∀ x ∈ ls, 1 ≤ x.pg ∧ x.pg < fresh ∧ x.pg < N ∧ x.pg ≠ root ∧ cc x.pg = .node ⟨true, x.es⟩ ∧ U.lo ≤ x.es.length) → (acc.1 ++ ls.map (·.pg)).Nodup → Srt (ls.flatMap (·.es)) → (∀ e ∈ ls.flatMap (·.es), EnU U e) → 1 ≤ U.kl →
    (∀ e ∈ ls.flatMap (·.es), ahead acc.2 e.k = true) → (first = true ∨ high = 1) →
    ∃ h, lookKids (lookS N root fresh cc 2) (ls.map Lf.en) first high acc = some (h, (acc.1 ++ ls.map (·.pg), lastOf (ls.flatMap (·.es)) acc.2))
  | [], first, high, acc, _, _, _, _, _, _, _ => ⟨high, by simp [lookKids, lastOf]⟩
  | x :: ls, first, high, acc, hx, hnd, hs, he, hk, ha, hf => by
    obtain ⟨h1, h2, h3, h4, h5, h6⟩ := hx x (by simp)
    rw [List.flatMap_cons] at hs he ha
    have hsx := (List.pairwise_append.1 hs).1
    have hnin : x.pg ∉ acc.1 := fun hm => (List.nodup_append.1 hnd).2.2 x.pg hm x.pg (by simp) rfl
    have hrich := leaf_rich (U := U) (es := x.es) (fun e hm => he e (List.mem_append_left _ hm)) h6
    have hlk : lookS N root fresh cc 2 x.en.pg acc = some (1, (acc.1 ++ [x.pg], lastOf x.es acc.2)) := by
      show lookS N root fresh cc 2 x.pg acc = _
      rw [lookS, if_pos ⟨h1, h2, h3, hnin⟩, h5]
      simp only
      rw [if_neg (by rw [hrich]; simp)]
      simp only [if_true]
      rw [look_leaf_ok hsx (fun e hm e0 => by have := (he e (List.mem_append_left _ hm)).k; rw [e0] at this; simp at this; omega) (fun e hm => ha e (List.mem_append_left _ hm))]
      rfl
    have hnd2 : ((acc.1 ++ [x.pg]) ++ ls.map (·.pg)).Nodup := by rw [List.append_assoc]; simpa using hnd
    obtain ⟨h, ih⟩ := look_kids_ok (U := U) (N := N) (root := root) (fresh := fresh) (cc := cc) (ls := ls) (first := false) (high := 1) (acc := (acc.1 ++ [x.pg], lastOf x.es acc.2)) (fun y hy => hx y (List.mem_cons_of_mem _ hy)) hnd2 (List.pairwise_append.1 hs).2.1 (fun e hm => he e (List.mem_append_right _ hm)) hk (ahead_last hs ha) (.inr rfl)
    refine ⟨h, ?_⟩
    rw [List.map_cons, lookKids, hlk]
    simp only [Option.bind_some]
    rw [if_neg (by
      rcases hf with hf | hf
      · rw [hf]; simp
      · rw [hf]; simp), ih, List.flatMap_cons, lastOf_app]
    simp
/-- How the pages lie. -/
theorem check_ok {U : Uz} {N : Nat} {s : St} {kvs : List En} {fr used : List Nat} (ti : TInv U N s kvs fr used) (hk : 1 ≤ U.kl) : (s.root = 0 ∧ used = []) ∨ (s.root ≠ 0 ∧ ∃ high last, lookS N s.root s.fresh s.cc 3 s.root ([], none) = some (high, (used, last))) := by
  have hfN := ti.fN
  rcases ti.sh with ⟨a, b, c⟩ | ⟨a, b, c, d⟩ | ⟨ls, t, hus, hkv⟩
  · exact .inl ⟨a, c⟩
  · have hr := ti.f.m s.root (by rw [d]; simp)
    refine .inr ⟨a, 1, lastOf kvs none, ?_⟩
    rw [lookS, if_pos ⟨hr.1, hr.2, by omega, by simp⟩, b]
    simp only
    rw [if_neg (by simp)]
    simp only [if_true]
    rw [look_leaf_ok ti.srt (fun e hm e0 => by have := (ti.en e hm).k; rw [e0] at this; simp at this; omega) (fun e _ => rfl), d]
    rfl
  · subst hus; subst hkv
    have hr := ti.f.m s.root (by simp)
    have hnd := ti.f.d
    rw [List.cons_append, List.nodup_cons] at hnd
    obtain ⟨h, hlk⟩ := look_kids_ok (U := U) (N := N) (root := s.root) (fresh := s.fresh) (cc := s.cc) (ls := ls) (first := true) (high := 0) (acc := ([s.root], none)) (fun x hx => by
      have := ti.f.m x.pg (by simp; exact .inr (.inl ⟨x, hx, rfl⟩))
      exact ⟨this.1, this.2, by omega, fun e => hnd.1 (List.mem_append_left _ (by rw [← e]; exact List.mem_map_of_mem hx)), t.c x hx, (t.l x hx).1⟩) (by
      refine List.nodup_cons.2 ⟨fun hm => hnd.1 (List.mem_append_left _ hm), (List.nodup_append.1 hnd.2).1⟩) ti.srt ti.en hk (fun e _ => rfl) (.inl rfl)
    refine .inr ⟨by omega, h + 1, lastOf (ls.flatMap (·.es)) none, ?_⟩
    rw [lookS, if_pos ⟨hr.1, hr.2, by omega, by simp⟩, t.r]
    simp only
    rw [if_neg (by simp)]
    simp only [Bool.false_eq_true, if_false, List.nil_append]
    rw [hlk]
    rfl
end Go.Proofs.YtfaeklinhchidaaGreat
