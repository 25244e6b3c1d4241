/-
  What TopPages keeps in mind. No program in sight.
-/
import Derived.Test.YtcjklbhobmkalaaDskF
import Derived.Test.YtcjklbhobmkalaaWalT
import Derived.Test.YtcjklbhobmkalaaOpens
set_option linter.all false
set_option maxRecDepth 100000
namespace Go.Proofs.Ytcjklbhobmkalaa
open Go Hold Go.ChangeShapes Go.WideShapes
structure Kept (P : Pg) (gs : List (List Int)) (want : Bs) (i : Nat) : Prop where
  ok : POk P gs
  d : P.dirty = []
  w : P.S.W = []
  size : P.S.size = 20
  len : P.S.L.length = 60
  g : P.S.groups ≤ i
  h0 : P.hits = 0
  m0 : P.misses = 0
  wl : want.length = 39
  v : ∀ n, n < 39 → (P.S.view n)[7]? = want[n]?
structure In (P Q : Pg) (gs : List (List Int)) (want : Bs) (k : Nat) : Prop where
  ok : POk Q gs
  s : Q.S = P.S
  dl : Q.dirty.length ≤ k
  wl : want.length = 39
  v : ∀ n, n < 39 → (Q.page n)[7]? = want[n]?
theorem Kept.pages {P : Pg} {gs : List (List Int)} {want : Bs} {i : Nat} (k : Kept P gs want i) : P.S.pages = 39 := by
  have := k.size; have := k.len; unfold Lg.pages; omega
theorem Kept.start : Kept (newP (newL 60 20) 2) [] (List.replicate 39 0) 0 := by
  have i := newL_inv (n := 60) (size := 20) (by omega) (by omega) (by omega)
  refine ⟨newP_ok i (by omega) (by omega), rfl, rfl, rfl, by simp [newP, newL], by simp [newP, newL], rfl, rfl, by simp, fun n hn => ?_⟩
  have hpl : (newP (newL 60 20) 2).S.place n = 21 + n := by show (newL 60 20).place n = _; unfold Lg.place; simp [newL, lookA]
  unfold Lg.view
  rw [hpl]
  show ((List.replicate 60 zeros).getD _ _)[7]? = _
  rw [List.getD_eq_getElem?_getD, List.getElem?_replicate, if_pos (by omega), List.getElem?_replicate, if_pos (by omega)]
  rfl
theorem Kept.inn {P : Pg} {gs : List (List Int)} {want : Bs} {i : Nat} (k : Kept P gs want i) : In P P gs want 0 :=
  ⟨k.ok, rfl, by rw [k.d]; simp, k.wl, fun n hn => by unfold Pg.page; rw [k.d]; exact k.v n hn⟩
theorem In.write {P Q : Pg} {gs gs0 : List (List Int)} {want w0 : Bs} {k i : Nat} (kp : Kept P gs0 w0 i) (h : In P Q gs want k) (hk : k < 100) {n : Nat} (hn : n < 39) {b : Bs} (hb : b.length = 256) {x : UInt8} (hx : b[7]? = some x) :
    writeE Q n b = 0 ∧ In P (writeT Q n b) gs (want.set n x) (k + 1) := by
  have hpg : Q.S.pages = 39 := by rw [h.s]; exact kp.pages
  have hdl := h.dl
  have he : writeE Q n b = 0 := by
    unfold writeE lookE
    rw [if_neg (by rw [if_neg (by omega)]; simp), if_neg (by omega), if_neg (by omega)]
  refine ⟨he, h.ok.write he, h.s, ?_, by rw [List.length_set]; exact h.wl, fun m hm => ?_⟩
  · show (putB Q.dirty n b).length ≤ k + 1
    rw [putB_len]; split <;> omega
  · show (((lookB (putB Q.dirty n b) m).getD (Q.S.view m)))[7]? = _
    rw [lookB_put, List.getElem?_set]
    by_cases e : n = m
    · subst e
      rw [if_pos rfl, if_pos rfl, if_pos (by rw [h.wl]; omega)]
      exact hx
    · rw [if_neg (by omega), if_neg e]
      exact h.v m hm
theorem In.com {P Q : Pg} {gs gs0 : List (List Int)} {want w0 : Bs} {k i : Nat} (kp : Kept P gs0 w0 i) (h : In P Q gs want k) (hk : k ≤ 15) :
    comE Q.S Q.dirty = 0 ∧ (Q.dirty.length = 0 → (comS Q.S Q.dirty).W.length = 0) ∧ Q.dirty.length + (if Q.dirty.length = 0 then 0 else 2) ≤ (comS Q.S Q.dirty).W.length ∧ (comS Q.S Q.dirty).W.length ≤ 2000 ∧ (comS Q.S Q.dirty).groups ≤ i + 1 ∧ (comS Q.S Q.dirty).L.length = 60 ∧
    (∀ n, n < 39 → ((comS Q.S Q.dirty).view n)[7]? = want[n]?) ∧ (comS Q.S Q.dirty).size = 20 := by
  have hpg : Q.S.pages = 39 := by rw [h.s]; exact kp.pages
  have hw0 : Q.S.W = [] := by rw [h.s]; exact kp.w
  have hg0 : Q.S.groups ≤ i := by rw [h.s]; exact kp.g
  have hs0 : Q.S.size = 20 := by rw [h.s]; exact kp.size
  have hl0 : Q.S.L.length = 60 := by rw [h.s]; exact kp.len
  have hdl := h.dl
  by_cases hd : Q.dirty.length = 0
  · have hd0 := List.length_eq_zero_iff.1 hd
    obtain ⟨c1, c2⟩ := com_nil Q.S
    rw [hd0, c1, c2, hw0]
    refine ⟨rfl, fun _ => rfl, by simp, by simp, by omega, hl0, fun n hn => ?_, hs0⟩
    have := h.v n hn
    unfold Pg.page at this
    rw [hd0] at this
    exact this
  · have hco := com_ok h.ok.i (ps := Q.dirty) (by omega) (by omega) (fun p hp => (h.ok.da p hp).1) ⟨h.ok.dn, fun p hp => (h.ok.da p hp).2⟩ (by omega)
    have g1 := hco.w1; have g2 := hco.w2; have g3 := hco.l; have g4 := hco.g
    rw [hw0] at g1 g2
    simp only [List.length_nil] at g1 g2
    refine ⟨hco.e, fun e => absurd e hd, by rw [if_neg hd]; omega, by omega, by omega, by omega, fun n hn => ?_, by rw [com_size]; exact hs0⟩
    rw [h.ok.i.com_view (by omega), if_pos hco.e]
    exact h.v n hn
theorem In.next {P Q : Pg} {gs gs0 : List (List Int)} {want w0 : Bs} {k i : Nat} (kp : Kept P gs0 w0 i) (h : In P Q gs want k) (hk : k ≤ 15) :
    ∃ gs', LInv (comS Q.S Q.dirty) gs' ∧ Kept (newP (ofL (comS Q.S Q.dirty) (comS Q.S Q.dirty).L) 2) gs' want (i + 1) := by
  obtain ⟨c1, c2, c3, c4, c5, c6, c7, c8⟩ := h.com kp hk
  obtain ⟨gs', i'⟩ := h.ok.i.com Q.dirty
  have i2 := i'.alike.inv i'
  exact ⟨gs', i', newP_ok i2 (by omega) (by omega), rfl, rfl, c8, c6, c5, rfl, rfl, h.wl, c7⟩
/-- A slice of slices of bytes. -/
theorem any_u8 (z : Int) : ∃ y : UInt8, Value.int .u8 (IntKind.u8.wrap z) = bv y := by
  refine ⟨UInt8.ofNat (z % 256).toNat, ?_⟩
  rw [← bv_of, IntKind.wrap_u8, IntKind.wrap_u8]
  congr 1
  omega
section
variable {W : World} {H : Type} {enc : TypeId × Value → H} {r : Reach} {b0 : Nat} {v : Value} {d : DataW H} {p : List MemPlace}
structure Row1 (H : HP) (q : Value × Bs) : Prop where
  rd : Rds H q.1 q.2.length (q.2.map bv)
  len : q.2.length ≤ 9223372036854775807
theorem open_rows (hv : Value.okWide prog W r b0 22 v) (h : DataW.Trod enc prog W 0 (fun _ => true) true 22 v d p) (_hw : ∀ n ∈ d.weights prog 22, n ≤ 140737488351232) :
    ∃ l : List (Value × Bs), Rds (old W) v l.length (l.map (·.1)) ∧ l.length ≤ 9223372036854775807 ∧ ∀ q ∈ l, Row1 (old W) q := by
  obtain ⟨l, h1, h2⟩ := open_elems (t := 22) (e := 33) (k := 1) (cells := fun x : {q : Value × Bs // Row1 (old W) q} => [x.1.1]) (by kernel_rfl) (by kernel_rfl) (by omega) (fun _ => rfl) (fun {n cs D} hd => by
    obtain ⟨v, l, e1, g1, g2⟩ := elems_of (t := 33) (e := 5) (cells := fun b : UInt8 => [bv b]) (k := 1) (by kernel_rfl) (by kernel_rfl) (by omega) (fun _ => rfl) (fun {n cs D} hd => by
      obtain ⟨z, hz, _, hwf⟩ := DataW.trod_int (t := 5) (k := .u8) (by kernel_rfl) hd
      obtain ⟨b, hb⟩ := u8_wf hwf
      exact ⟨b, by rw [hz, hb]⟩) hd
    rw [fm_one bv] at g1
    exact ⟨⟨(v, l), ⟨g1, g2⟩⟩, e1⟩) hv h
  refine ⟨l.map (·.1), ?_, by simpa using h2, ?_⟩
  · rw [List.length_map, List.map_map]
    rw [fm_one (fun x : {q : Value × Bs // Row1 (old W) q} => x.1.1)] at h1
    exact h1
  · intro q hq
    obtain ⟨y, _, rfl⟩ := List.mem_map.1 hq
    exact y.2
end
end Go.Proofs.Ytcjklbhobmkalaa
