/-
  Separation logic over the model's heap: what is owned (written by its owner alone) and what stays for ever.
  No program in sight.
-/
import Derived.WalkKit
import Derived.RangeFuncRecord
set_option linter.all false
namespace Hold
open Go

abbrev Hp := Nat → Option Obj

/-- A predicate on (what stays, what is owned); more that stays does it no harm. -/
structure HP where
  p : Hp → Hp → Prop
  mono : ∀ {I I' h : Hp}, (∀ b o, I b = some o → I' b = some o) → p I h → p I' h

theorem HP.ext' {P Q : HP} (h : ∀ I h, P.p I h ↔ Q.p I h) : P = Q := by
  cases P; cases Q
  congr 1
  funext I h'
  exact propext (h I h')

def Hp.join (a b : Hp) : Hp := fun n => (a n).or (b n)
def Hp.disj (a b : Hp) : Prop := ∀ n, a n = none ∨ b n = none
def Hp.none : Hp := fun _ => Option.none
def Hp.one (b : Nat) (o : Obj) : Hp := fun n => if n = b then some o else Option.none

theorem Hp.join_comm {a b : Hp} (h : Hp.disj a b) : Hp.join a b = Hp.join b a := by
  funext n
  rcases h n with h | h <;> simp [Hp.join, h]
theorem Hp.join_assoc (a b c : Hp) : Hp.join (Hp.join a b) c = Hp.join a (Hp.join b c) := by
  funext n; simp [Hp.join, Option.or_assoc]
theorem Hp.disj_comm {a b : Hp} (h : Hp.disj a b) : Hp.disj b a := fun n => (h n).symm
theorem Hp.join_none_left (a : Hp) : Hp.join Hp.none a = a := by funext n; simp [Hp.join, Hp.none]
theorem Hp.disj_join_left {a b c : Hp} : Hp.disj (Hp.join a b) c ↔ Hp.disj a c ∧ Hp.disj b c := by
  constructor
  · intro h
    refine ⟨fun n => ?_, fun n => ?_⟩ <;> rcases h n with h | h <;> simp_all [Hp.join]
  · rintro ⟨h1, h2⟩ n
    rcases h1 n with h1 | h1 <;> rcases h2 n with h2 | h2 <;> simp_all [Hp.join]
theorem Hp.disj_join_right {a b c : Hp} : Hp.disj a (Hp.join b c) ↔ Hp.disj a b ∧ Hp.disj a c :=
  ⟨fun h => let ⟨x, y⟩ := Hp.disj_join_left.1 (Hp.disj_comm h); ⟨Hp.disj_comm x, Hp.disj_comm y⟩,
   fun ⟨x, y⟩ => Hp.disj_comm (Hp.disj_join_left.2 ⟨Hp.disj_comm x, Hp.disj_comm y⟩)⟩

def star (P Q : HP) : HP where
  p I h := ∃ h1 h2, Hp.disj h1 h2 ∧ h = Hp.join h1 h2 ∧ P.p I h1 ∧ Q.p I h2
  mono hI := fun ⟨h1, h2, hd, he, hp, hq⟩ => ⟨h1, h2, hd, he, P.mono hI hp, Q.mono hI hq⟩
instance : Mul HP := ⟨star⟩
def emp : HP where
  p _ h := h = Hp.none
  mono _ h := h
def pts (b : Nat) (o : Obj) : HP where
  p _ h := h = Hp.one b o
  mono _ h := h
/-- What is said of the blocks that stay for ever: it owns nothing, and may be doubled. -/
structure PP where
  p : Hp → Prop
  mono : ∀ {I I' : Hp}, (∀ b o, I b = some o → I' b = some o) → p I → p I'
def pers (φ : PP) : HP where
  p I h := φ.p I ∧ h = Hp.none
  mono hI h := ⟨φ.mono hI h.1, h.2⟩
def immP (b : Nat) (o : Obj) : PP := ⟨fun I => I b = some o, fun hI h => hI _ _ h⟩
def imm (b : Nat) (o : Obj) : HP := pers (immP b o)
def pur (φ : Prop) : HP where
  p _ h := φ ∧ h = Hp.none
  mono _ h := h
def ex {α : Type} (P : α → HP) : HP where
  p I h := ∃ x, (P x).p I h
  mono hI := fun ⟨x, h⟩ => ⟨x, (P x).mono hI h⟩
/-- All blocks of a world stay. -/
def oldP (w : World) : PP := ⟨fun I => ∀ b o, w.heap[b]? = some o → I b = some o, fun hI h b o hb => hI _ _ (h b o hb)⟩
def old (w : World) : HP := pers (oldP w)

theorem star_comm (P Q : HP) : P * Q = Q * P := HP.ext' fun I h => by
  constructor
  · rintro ⟨a, b, hd, rfl, hp, hq⟩; exact ⟨b, a, Hp.disj_comm hd, Hp.join_comm hd, hq, hp⟩
  · rintro ⟨a, b, hd, rfl, hp, hq⟩; exact ⟨b, a, Hp.disj_comm hd, Hp.join_comm hd, hq, hp⟩
theorem star_assoc (P Q R : HP) : P * Q * R = P * (Q * R) := HP.ext' fun I h => by
  constructor
  · rintro ⟨ab, c, hd, rfl, ⟨a, b, hd', rfl, hp, hq⟩, hr⟩
    obtain ⟨d1, d2⟩ := Hp.disj_join_left.1 hd
    exact ⟨a, Hp.join b c, Hp.disj_join_right.2 ⟨hd', d1⟩, Hp.join_assoc a b c, hp, b, c, d2, rfl, hq, hr⟩
  · rintro ⟨a, bc, hd, rfl, hp, b, c, hd', rfl, hq, hr⟩
    obtain ⟨d1, d2⟩ := Hp.disj_join_right.1 hd
    exact ⟨Hp.join a b, c, Hp.disj_join_left.2 ⟨d2, hd'⟩, (Hp.join_assoc a b c).symm, ⟨a, b, d1, rfl, hp, hq⟩, hr⟩
theorem emp_star (P : HP) : emp * P = P := HP.ext' fun I h => by
  constructor
  · rintro ⟨a, b, hd, rfl, rfl, hp⟩; rw [Hp.join_none_left]; exact hp
  · intro hp; exact ⟨Hp.none, h, fun n => .inl rfl, (Hp.join_none_left h).symm, rfl, hp⟩
theorem star_emp (P : HP) : P * emp = P := by rw [star_comm, emp_star]
instance : Std.Associative (α := HP) (· * ·) := ⟨star_assoc⟩
instance : Std.Commutative (α := HP) (· * ·) := ⟨star_comm⟩
theorem star_left_comm (P Q R : HP) : P * (Q * R) = Q * (P * R) := by rw [← star_assoc, star_comm P Q, star_assoc]

theorem ex_star {α : Type} (P : α → HP) (R : HP) : ex P * R = ex fun x => P x * R := HP.ext' fun I h => by
  constructor
  · rintro ⟨a, b, hd, rfl, ⟨x, hp⟩, hq⟩; exact ⟨x, a, b, hd, rfl, hp, hq⟩
  · rintro ⟨x, a, b, hd, rfl, hp, hq⟩; exact ⟨a, b, hd, rfl, ⟨x, hp⟩, hq⟩
theorem pur_star_p (φ : Prop) (R : HP) (I h : Hp) : (pur φ * R).p I h ↔ φ ∧ R.p I h := by
  constructor
  · rintro ⟨a, b, hd, rfl, ⟨hφ, rfl⟩, hr⟩; rw [Hp.join_none_left]; exact ⟨hφ, hr⟩
  · rintro ⟨hφ, hr⟩; exact ⟨Hp.none, h, fun n => .inl rfl, (Hp.join_none_left h).symm, ⟨hφ, rfl⟩, hr⟩
theorem pers_star_p (φ : PP) (R : HP) (I h : Hp) : (pers φ * R).p I h ↔ φ.p I ∧ R.p I h := by
  constructor
  · rintro ⟨a, b, hd, rfl, ⟨hφ, rfl⟩, hr⟩; rw [Hp.join_none_left]; exact ⟨hφ, hr⟩
  · rintro ⟨hφ, hr⟩; exact ⟨Hp.none, h, fun n => .inl rfl, (Hp.join_none_left h).symm, ⟨hφ, rfl⟩, hr⟩
theorem imm_star_p (b : Nat) (o : Obj) (R : HP) (I h : Hp) : (imm b o * R).p I h ↔ I b = some o ∧ R.p I h := pers_star_p _ R I h
theorem old_star_p (w : World) (R : HP) (I h : Hp) : (old w * R).p I h ↔ (∀ b o, w.heap[b]? = some o → I b = some o) ∧ R.p I h := pers_star_p _ R I h
theorem pers_dup (φ : PP) : pers φ = pers φ * pers φ := HP.ext' fun I h => by
  rw [pers_star_p]; exact ⟨fun x => ⟨x.1, x⟩, fun x => x.2⟩
def PP.and (φ ψ : PP) : PP := ⟨fun I => φ.p I ∧ ψ.p I, fun hI h => ⟨φ.mono hI h.1, ψ.mono hI h.2⟩⟩
theorem pers_and (φ ψ : PP) : pers φ * pers ψ = pers (φ.and ψ) := HP.ext' fun I h => by
  rw [pers_star_p]; exact ⟨fun x => ⟨⟨x.1, x.2.1⟩, x.2.2⟩, fun x => ⟨x.1.1, x.1.2, x.2⟩⟩
/-- The blocks of a world. -/
def hp (w : World) : Hp := fun b => w.heap[b]?
theorem pts_star_p (b : Nat) (o : Obj) (R : HP) (I h : Hp) (hp : (pts b o * R).p I h) : h b = some o := by
  obtain ⟨a, b', hd, rfl, rfl, hr⟩ := hp
  simp [Hp.join, Hp.one]
theorem pts_ne {b b' : Nat} {o o' : Obj} {R : HP} {I h : Hp} (hp : (pts b o * (pts b' o' * R)).p I h) : b ≠ b' := by
  obtain ⟨a, c, hd, rfl, rfl, a', c', hd', rfl, rfl, hr⟩ := hp
  rintro rfl
  rcases hd b with h | h <;> simp [Hp.join, Hp.one] at h

/-- A proposition that more staying blocks do no harm, as a part that owns nothing: a fact that stays ('pers'). -/
structure World0 where
  os : Os
  tape : Nat → Question → Nat
  output : Array (Nat × ByteArray)
def env (w : World) : World0 := ⟨w.os, w.tape, w.output⟩

/-- A world in which P holds, with whatever beside it; the streams are E's. -/
def sat (E : World0) (w : World) (P : HP) : Prop :=
  env w = E ∧ ∃ I h : Hp, (∀ b o, I b = some o → h b = none ∧ w.heap[b]? = some o) ∧ (∀ b o, h b = some o → w.heap[b]? = some o) ∧ P.p I h

variable {E : World0} {w : World} {P Q R : HP}

theorem sat.perm (h : sat E w P) (e : P = Q) : sat E w Q := e ▸ h
theorem sat.mono (h : sat E w P) (k : ∀ I h, P.p I h → Q.p I h) : sat E w Q :=
  let ⟨e, I, h', a, b, c⟩ := h; ⟨e, I, h', a, b, k _ _ c⟩
theorem sat.drop (h : sat E w (P * Q)) : sat E w Q := by
  obtain ⟨e, I, h', ha, hb, h1, h2, hd, rfl, hp, hq⟩ := h
  refine ⟨e, I, h2, fun b o hI => ?_, fun b o h2b => hb b o ?_, hq⟩
  · obtain ⟨x, y⟩ := ha b o hI
    refine ⟨?_, y⟩
    simp [Hp.join] at x; exact x.2
  · rcases hd b with h | h
    · simp [Hp.join, h, h2b]
    · rw [h] at h2b; cases h2b
theorem sat.drop' (h : sat E w (P * Q)) : sat E w P := (h.perm (star_comm _ _)).drop
theorem sat_ex {α : Type} {P : α → HP} : sat E w (ex P) ↔ ∃ x, sat E w (P x) :=
  ⟨fun ⟨e, I, h', a, b, x, c⟩ => ⟨x, e, I, h', a, b, c⟩, fun ⟨x, e, I, h', a, b, c⟩ => ⟨e, I, h', a, b, x, c⟩⟩
theorem sat_ex_star {α : Type} {P : α → HP} : sat E w (ex P * R) ↔ ∃ x, sat E w (P x * R) := by rw [ex_star, sat_ex]
theorem sat_pur_star {φ : Prop} : sat E w (pur φ * R) ↔ φ ∧ sat E w R := by
  constructor
  · rintro ⟨e, I, h', a, b, c⟩
    rw [pur_star_p] at c
    exact ⟨c.1, e, I, h', a, b, c.2⟩
  · rintro ⟨hφ, e, I, h', a, b, c⟩
    exact ⟨e, I, h', a, b, (pur_star_p _ _ _ _).2 ⟨hφ, c⟩⟩
theorem sat.pts_get {b : Nat} {o : Obj} (h : sat E w (pts b o * R)) : w.heap[b]? = some o := by
  obtain ⟨e, I, h', ha, hb, hp⟩ := h
  exact hb b o (pts_star_p b o R I h' hp)
theorem sat.imm_get {b : Nat} {o : Obj} (h : sat E w (imm b o * R)) : w.heap[b]? = some o := by
  obtain ⟨e, I, h', ha, hb, hp⟩ := h
  exact (ha b o ((imm_star_p b o R I h').1 hp).1).2
theorem sat.old_get {w0 : World} {b : Nat} {o : Obj} (h : sat E w (old w0 * R)) (hb : w0.heap[b]? = some o) : w.heap[b]? = some o := by
  obtain ⟨e, I, h', ha, _, hp⟩ := h
  exact (ha b o (((old_star_p w0 R I h').1 hp).1 b o hb)).2
theorem sat.ne {b b' : Nat} {o o' : Obj} (h : sat E w (pts b o * (pts b' o' * R))) : b ≠ b' := by
  obtain ⟨e, I, h', ha, hb, hp⟩ := h
  exact pts_ne hp
/-- What stays, said of the world. -/
theorem sat.pers_get {φ : PP} (h : sat E w (pers φ * R)) : φ.p (hp w) := by
  obtain ⟨e, I, h', ha, hb, hp'⟩ := h
  exact φ.mono (fun b o hI => (ha b o hI).2) ((pers_star_p φ R I h').1 hp').1
theorem sat.pers_mono {φ ψ : PP} (h : sat E w (pers φ * R)) (k : ∀ I, φ.p I → ψ.p I) : sat E w (pers ψ * R) :=
  h.mono fun I h' hp' => by rw [pers_star_p] at hp' ⊢; exact ⟨k I hp'.1, hp'.2⟩
theorem sat.pers_dup {φ : PP} (h : sat E w (pers φ * R)) : sat E w (pers φ * (pers φ * R)) := by
  rw [← star_assoc, ← Hold.pers_dup]; exact h
/-- A fact that stays follows from what stays. -/
theorem sat.pers_new {φ ψ : PP} (h : sat E w (pers φ * R)) (k : ∀ I, φ.p I → ψ.p I) : sat E w (pers ψ * (pers φ * R)) :=
  h.pers_dup.pers_mono k

/-- A new block. -/
theorem sat.alloc (h : sat E w R) (o : Obj) : sat E (w.alloc o) (pts w.heap.size o * R) := by
  obtain ⟨e, I, h', ha, hb, hp⟩ := h
  have hlt : ∀ (b : Nat) (x : Obj), w.heap[b]? = some x → b < w.heap.size := fun b x hx => (Array.getElem?_eq_some_iff.1 hx).1
  have hn : h' w.heap.size = none := by
    cases hh : h' w.heap.size with
    | none => rfl
    | some x => have := hlt _ _ (hb _ _ hh); omega
  have keep : ∀ (b : Nat) (x : Obj), w.heap[b]? = some x → (w.alloc o).heap[b]? = some x := fun b x hx => by
    have hl := hlt b x hx
    show (w.heap.push o)[b]? = _
    rw [Array.getElem?_push, if_neg (by omega)]; exact hx
  have hd : Hp.disj (Hp.one w.heap.size o) h' := fun n => by
    by_cases hn' : n = w.heap.size
    · subst hn'; exact .inr hn
    · exact .inl (by simp [Hp.one, hn'])
  refine ⟨e, I, Hp.join (Hp.one w.heap.size o) h', fun b x hI => ?_, fun b x hj => ?_, _, h', hd, rfl, rfl, hp⟩
  · obtain ⟨h1, h2⟩ := ha b x hI
    have hl := hlt b x h2
    exact ⟨by simp [Hp.join, Hp.one, h1]; omega, keep b x h2⟩
  · by_cases hn' : b = w.heap.size
    · subst hn'
      simp [Hp.join, Hp.one] at hj
      subst hj
      show (w.heap.push o)[w.heap.size]? = _
      simp
    · simp [Hp.join, Hp.one, hn'] at hj
      exact keep b x (hb b x hj)

theorem sat.set {b : Nat} {o : Obj} (h : sat E w (pts b o * R)) (o' : Obj) : sat E (w.putObj b o') (pts b o' * R) := by
  have hg := h.pts_get
  obtain ⟨e, I, h', ha, hb, h1, h2, hd, rfl, rfl, hp⟩ := h
  have hd2 : h2 b = none := by
    rcases hd b with h | h
    · simp [Hp.one] at h
    · exact h
  have hlt := (Array.getElem?_eq_some_iff.1 hg).1
  have keep : ∀ (n : Nat) (x : Obj), n ≠ b → w.heap[n]? = some x → (w.putObj b o').heap[n]? = some x := fun n x hn hx => by
    show (w.heap.setIfInBounds b o')[n]? = _
    rw [Array.getElem?_setIfInBounds_ne (by omega)]; exact hx
  refine ⟨e, I, Hp.join (Hp.one b o') h2, fun n x hI => ?_, fun n x hj => ?_, _, h2, fun n => ?_, rfl, rfl, hp⟩
  · obtain ⟨k1, k2⟩ := ha n x hI
    have hn : n ≠ b := by rintro rfl; simp [Hp.join, Hp.one] at k1
    simp [Hp.join, Hp.one, hn] at k1
    exact ⟨by simp [Hp.join, Hp.one, hn, k1], keep n x hn k2⟩
  · by_cases hn : n = b
    · subst hn
      simp [Hp.join, Hp.one] at hj
      subst hj
      show (w.heap.setIfInBounds n o')[n]? = _
      simp [hlt]
    · simp [Hp.join, Hp.one, hn] at hj
      exact keep n x hn (hb n x (by simp [Hp.join, Hp.one, hn, hj]))
  · by_cases hn : n = b
    · subst hn; exact .inr hd2
    · exact .inl (by simp [Hp.one, hn])

/-- What is owned may be let stay for ever. -/
theorem sat.freeze {b : Nat} {o : Obj} (h : sat E w (pts b o * R)) : sat E w (imm b o * R) := by
  have hg := h.pts_get
  obtain ⟨e, I, h', ha, hb, h1, h2, hd, rfl, rfl, hp⟩ := h
  have hd2 : h2 b = none := by
    rcases hd b with h | h
    · simp [Hp.one] at h
    · exact h
  have hI0 : ∀ x, I b = some x → False := fun x hx => by
    have := (ha b x hx).1
    simp [Hp.join, Hp.one] at this
  refine ⟨e, fun n => if n = b then some o else I n, h2, fun n x hI => ?_, fun n x hj => ?_, ?_⟩
  · by_cases hn : n = b
    · subst hn; simp at hI; subst hI; exact ⟨hd2, hg⟩
    · simp [hn] at hI
      obtain ⟨k1, k2⟩ := ha n x hI
      simp [Hp.join, Hp.one, hn] at k1
      exact ⟨k1, k2⟩
  · have hn : n ≠ b := by rintro rfl; rw [hd2] at hj; cases hj
    exact hb n x (by simp [Hp.join, Hp.one, hn, hj])
  · rw [imm_star_p]
    refine ⟨by simp, R.mono (fun n x hx => ?_) hp⟩
    by_cases hn : n = b
    · subst hn; exact (hI0 x hx).elim
    · simp [hn, hx]

theorem sat.drew (h : sat E w P) : sat E w.drew P := h

/-- At the start all that there is stays. -/
theorem sat.start (w : World) : sat (env w) w (old w) :=
  ⟨rfl, fun b => w.heap[b]?, Hp.none, fun _ _ h => ⟨rfl, h⟩, fun _ _ h => by simp [Hp.none] at h, fun _ _ h => h, rfl⟩

theorem sat.below {w0 w : World} (h : sat (env w0) w (old w0 * R)) : Go.RowKit.Below w0.heap.size w0 w := by
  have hb : ∀ k, k < w0.heap.size → w.heap[k]? = w0.heap[k]? := fun k hk => by
    have h1 : w0.heap[k]? = some w0.heap[k] := Array.getElem?_eq_getElem hk
    rw [h1]; exact h.old_get h1
  have he := h.1
  simp only [env, World0.mk.injEq] at he
  refine ⟨he.1, he.2.1, he.2.2, ?_, hb⟩
  rcases Nat.eq_zero_or_pos w0.heap.size with h0 | h0
  · omega
  · have h0' : w0.heap.size - 1 < w0.heap.size := by omega
    have h1 := (hb (w0.heap.size - 1) h0').trans (Array.getElem?_eq_getElem h0')
    have := (Array.getElem?_eq_some_iff.1 h1).1
    omega

/-! ### Finding a part by its shape -/
class Split (P Q : HP) (R : outParam HP) : Prop where eq : P = Q * R
instance (priority := 1100) Split.here (Q R : HP) : Split (Q * R) Q R := ⟨rfl⟩
instance (priority := 1050) Split.there (Q R : HP) : Split (R * Q) Q R := ⟨star_comm _ _⟩
instance (priority := 900) Split.right (P1 P2 Q R : HP) [h : Split P2 Q R] : Split (P1 * P2) Q (P1 * R) := ⟨by rw [h.eq, star_left_comm]⟩
instance (priority := 800) Split.left (P1 P2 Q R : HP) [h : Split P1 Q R] : Split (P1 * P2) Q (R * P2) := ⟨by rw [h.eq, star_assoc]⟩
instance (priority := 100) Split.all (P : HP) : Split P P emp := ⟨(star_emp P).symm⟩
theorem sat.split (h : sat E w P) (Q : HP) [s : Split P Q R] : sat E w (Q * R) := h.perm s.eq

/-- The block b is owned, and holds o. -/
class Own (P : HP) (b : Nat) (o : outParam Obj) (R : outParam HP) : Prop where eq : P = pts b o * R
instance (priority := 1100) Own.here (b : Nat) (o : Obj) (R : HP) : Own (pts b o * R) b o R := ⟨rfl⟩
instance (priority := 1050) Own.there (b : Nat) (o : Obj) (R : HP) : Own (R * pts b o) b o R := ⟨star_comm _ _⟩
instance (priority := 900) Own.right (P1 P2 : HP) (b : Nat) (o : Obj) (R : HP) [h : Own P2 b o R] : Own (P1 * P2) b o (P1 * R) := ⟨by rw [h.eq, star_left_comm]⟩
instance (priority := 800) Own.left (P1 P2 : HP) (b : Nat) (o : Obj) (R : HP) [h : Own P1 b o R] : Own (P1 * P2) b o (R * P2) := ⟨by rw [h.eq, star_assoc]⟩
instance (priority := 100) Own.all (b : Nat) (o : Obj) : Own (pts b o) b o emp := ⟨(star_emp _).symm⟩
theorem sat.own (h : sat E w P) (b : Nat) {o : Obj} [s : Own P b o R] : sat E w (pts b o * R) := h.perm s.eq

/-- The block b reads o, owned or staying. -/
class Has (P : HP) (b : Nat) (o : outParam Obj) : Prop where get : ∀ {E : World0} {w : World}, sat E w P → w.heap[b]? = some o
instance (priority := 1000) Has.pts (b : Nat) (o : Obj) : Has (pts b o) b o := ⟨fun h => (h.perm (star_emp _).symm).pts_get⟩
instance (priority := 1000) Has.imm (b : Nat) (o : Obj) : Has (imm b o) b o := ⟨fun h => (h.perm (star_emp _).symm).imm_get⟩
theorem sat.whole (h : sat E w P) : sat E w (P * Hold.emp) := h.perm (star_emp P).symm
instance (priority := 900) Has.left (P Q : HP) (b : Nat) (o : Obj) [i : Has P b o] : Has (P * Q) b o := ⟨fun h => i.get h.drop'⟩
instance (priority := 800) Has.right (P Q : HP) (b : Nat) (o : Obj) [i : Has Q b o] : Has (P * Q) b o := ⟨fun h => i.get h.drop⟩
theorem sat.has (h : sat E w P) {b : Nat} {o : Obj} [i : Has P b o] : w.heap[b]? = some o := i.get h

/-- All that was there at w0 stays. -/
class Old (P : HP) (w0 : outParam World) : Prop where eq : ∃ R, P = old w0 * R
instance (priority := 1000) Old.self (w0 : World) : Old (old w0) w0 := ⟨emp, (star_emp _).symm⟩
instance (priority := 900) Old.left (P Q : HP) (w0 : World) [i : Old P w0] : Old (P * Q) w0 := ⟨by obtain ⟨R, h⟩ := i.eq; exact ⟨R * Q, by rw [h, star_assoc]⟩⟩
instance (priority := 800) Old.right (P Q : HP) (w0 : World) [i : Old Q w0] : Old (P * Q) w0 := ⟨by obtain ⟨R, h⟩ := i.eq; exact ⟨P * R, by rw [h, star_left_comm]⟩⟩
end Hold
