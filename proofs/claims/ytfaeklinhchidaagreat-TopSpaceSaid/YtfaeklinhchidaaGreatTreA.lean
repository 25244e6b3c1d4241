/-
  Nodes as they stand in memory; how many bytes they have.
-/
import Derived.Test.YtfaeklinhchidaaGreatTrpF
import Derived.Test.YtfaeklinhchidaaGreatTests
import Derived.Test.YtfaeklinhchidaaGreatPB
set_option linter.all false
set_option maxRecDepth 100000
namespace Go.Proofs.YtfaeklinhchidaaGreat
open Go Hold
variable {E : World0} {w : World} {H R X : HP} {K : Value → World → Prop}
/-- An entry as it stands. -/
structure Ev where
  ka : Option Addr
  kc : Nat
  va : Option Addr
  vc : Nat
  e : En
def Ev.kv (x : Ev) : Value := .slice x.ka x.e.k.length x.kc
def Ev.vv (x : Ev) : Value := .slice x.va x.e.v.length x.vc
def ecells (x : Ev) : List Value := [x.kv, x.vv, .int .i64 x.e.pg]
def elv (xs : List Ev) : List Value := xs.flatMap ecells
def esv (xs : List Ev) : List En := xs.map (·.e)
def nv (leaf : Bool) (lv : Value) : Value := .agg [.bool leaf, lv].toArray
structure EvR (H : HP) (x : Ev) : Prop where
  k : Rds H x.kv x.e.k.length (x.e.k.map bv)
  v : Rds H x.vv x.e.v.length (x.e.v.map bv)
def evJ (J : Hp) (x : Ev) : Prop := RdS J x.kv x.e.k.length (x.e.k.map bv) ∧ RdS J x.vv x.e.v.length (x.e.v.map bv)
theorem EvR.of {H : HP} {x : Ev} (h : ∀ (E : World0) (w : World), sat E w H → evJ (hp w) x) : EvR H x := ⟨fun E w hs => (h E w hs).1, fun E w hs => (h E w hs).2⟩
theorem EvR.at_ {H : HP} {x : Ev} (h : EvR H x) {E : World0} {w : World} (hs : sat E w H) : evJ (hp w) x := ⟨h.k E w hs, h.v E w hs⟩
/-- What stays of entries. -/
def evP (xs : List Ev) : PP := ⟨fun I => ∀ x ∈ xs, evJ I x, fun hI h x hx => ⟨(h x hx).1.mono hI, (h x hx).2.mono hI⟩⟩
theorem evP_R {xs : List Ev} : ∀ x ∈ xs, EvR (pers (evP xs)) x := fun x hx => .of fun E w hs => (hs.whole).pers_get x hx
theorem EvR.right {H X : HP} {x : Ev} (h : EvR H x) : EvR (X * H) x := ⟨h.k.right, h.v.right⟩
theorem EvR.left {H X : HP} {x : Ev} (h : EvR H x) : EvR (H * X) x := ⟨h.k.left, h.v.left⟩
def Few (xs : List Ev) : Prop := xs.length ≤ 1000 ∧ ∀ x ∈ xs, x.e.k.length ≤ 1000 ∧ x.e.v.length ≤ 1000
theorem ecells_len (x : Ev) : (ecells x).length = 3 := rfl
theorem elv_len (xs : List Ev) : (elv xs).length = xs.length * 3 := fm_length ecells_len xs
theorem elv_at {xs : List Ev} {i : Nat} (h : i < xs.length) : ((elv xs).drop (i * 3)).take 3 = ecells xs[i] := fm_at ecells_len (List.getElem?_eq_getElem h)
theorem elv_one (xs : List Ev) : ∀ x ∈ elv xs, x.oneCell' = true := by
  intro x hx
  unfold elv at hx
  obtain ⟨y, _, h2⟩ := List.mem_flatMap.1 hx
  simp only [ecells, List.mem_cons, List.not_mem_nil, or_false] at h2
  rcases h2 with rfl | rfl | rfl <;> rfl
theorem elv_app (xs ys : List Ev) : elv (xs ++ ys) = elv xs ++ elv ys := by unfold elv; simp
/-- An element is read. -/
theorem ld_ev (h : sat E w H) {a : Option Addr} {c i : Nat} {xs : List Ev} (hl : Rds H (.slice a xs.length c) xs.length (elv xs)) (hi : i < xs.length) :
    ∃ b o, a = some ⟨b, o, none⟩ ∧ ∀ {K : Value → World → Prop}, K (.agg (ecells xs[i]).toArray) w → ldv prog (Instr.loadAt 67 (.pointer (some ⟨b, o + i * 3, none⟩))) w K := by
  obtain ⟨b, o, ha, _⟩ := win_cell (hl.win h) (j := i * 3) (by rw [elv_len]; omega)
  subst ha
  exact ⟨b, o, rfl, fun k => ld_el h hl (i * 3) rfl _ (ecells_len _) (elv_at hi) k⟩
theorem size_spec (h : sat E w H) {leaf : Bool} {lv : Value} {x : Ev} {n : Nd} (hn : n.leaf = leaf) (hk : x.e.k.length ≤ 1000) (hv : x.e.v.length ≤ 1000) (k : ∀ w', sat E w' H → K (.int .i64 (n.one x.e)) w') :
    Calls prog 97 #[nv leaf lv, .agg (ecells x).toArray] w (Ret K) := by
  subst hn
  refine c97 ?_
  unfold B97
  refine box_sl h fun n0 w h => ?_
  have h : sat E w (pts n0 (.cells [Value.bool n.leaf, lv].toArray 63 (0, 0)) * H) := h
  refine box_sl h fun e0 w h => ?_
  have h : sat E w (pts e0 (.cells [x.kv, x.vv, .int .i64 x.e.pg].toArray 67 (0, 0)) * (pts n0 (.cells [Value.bool n.leaf, lv].toArray 63 (0, 0)) * H)) := h
  simp only [↓opsA, opsB, if_true, if_false, ↓reduceIte]
  refine ld_in (b := n0) (v := .bool n.leaf) h rfl ?_
  unfold Nd.one at k
  refine cd_split (fun hb => ?_) (fun hb => ?_)
  · rw [if_pos hb] at k
    refine ld_in (b := e0) (v := x.kv) h rfl ?_
    unfold Ev.kv
    simp only [↓opsA, opsB, if_true, if_false, ↓reduceIte]
    refine ld_in (b := e0) (v := x.vv) h rfl ?_
    unfold Ev.vv
    simp only [↓opsA, opsB, if_true, if_false, ↓reduceIte]
    rw [i64_of (n := (x.e.k.length : Int) + (x.e.v.length : Int)) (by omega) (by omega), i64_of (by omega) (by omega)]
    exact (k _ h.drop.drop)
  · rw [if_neg (by simp [hb])] at k
    refine ld_in (b := e0) (v := x.kv) h rfl ?_
    unfold Ev.kv
    simp only [↓opsA, opsB, if_true, if_false, ↓reduceIte]
    rw [i64_of (by omega) (by omega)]
    exact (k _ h.drop.drop)
theorem sum_take {α : Type} {f : α → Nat} {l : List α} {i : Nat} (h : i < l.length) : ((l.take (i + 1)).map f).sum = ((l.take i).map f).sum + f l[i] := by
  rw [List.take_succ_eq_append_getElem h, List.map_append, List.sum_append]; simp
theorem sum_le {α : Type} {f : α → Nat} {m : Nat} : ∀ {l : List α}, (∀ x ∈ l, f x ≤ m) → (l.map f).sum ≤ l.length * m
  | [], _ => by simp
  | x :: l, h => by
    have ih := sum_le (f := f) (l := l) (fun y hy => h y (List.mem_cons_of_mem _ hy))
    have := h x (by simp)
    simp only [List.map_cons, List.sum_cons, List.length_cons, Nat.add_mul]; omega
theorem few_sum {xs : List Ev} (hf : Few xs) (n : Nd) (i : Nat) : (((esv xs).take i).map n.one).sum ≤ 3000000 := by
  have h1 : ∀ e ∈ (esv xs).take i, n.one e ≤ 2003 := by
    intro e he
    obtain ⟨x, hx, rfl⟩ := List.mem_map.1 (List.mem_of_mem_take he)
    have := hf.2 x hx
    unfold Nd.one; split <;> omega
  have h2 := sum_le h1
  have h3 : ((esv xs).take i).length ≤ 1000 := by rw [List.length_take, esv, List.length_map]; have := hf.1; omega
  have := Nat.mul_le_mul_right 2003 h3
  omega
theorem bytes_spec (h : sat E w H) {leaf : Bool} {lv : Value} {xs : List Ev} (hl : Rds H lv xs.length (elv xs)) (hf : Few xs) (k : ∀ w', sat E w' H → K (.int .i64 (⟨leaf, esv xs⟩ : Nd).bytes) w') :
    Calls prog 62 #[nv leaf lv] w (Ret K) := by
  obtain ⟨a, c, rfl, hc, hl, _⟩ := hl.shape h
  have hf1 := hf.1
  refine c62 ?_
  unfold B62
  refine box_sl h fun n0 w h => ?_
  have h : sat E w (pts n0 (.cells [Value.bool leaf, .slice a xs.length c].toArray 63 (0, 0)) * H) := h
  simp only [↓opsA, opsB, if_true, if_false, ↓reduceIte]
  refine ld_in (b := n0) (v := .slice a xs.length c) h rfl ?_
  simp only [↓opsA, opsB, if_true, if_false, ↓reduceIte]
  refine lp_nat (fun q σ w => ∃ i : Nat, σ = [.int .i64 (((esv xs).take i).map (⟨leaf, esv xs⟩ : Nd).one).sum, .int .i64 i] ∧ q = xs.length - i ∧ i ≤ xs.length ∧ sat E w (pts n0 (.cells [Value.bool leaf, .slice a xs.length c].toArray 63 (0, 0)) * H)) xs.length ⟨0, rfl, rfl, by omega, h⟩ ?_
  clear h
  rintro q σ w again ⟨i, rfl, rfl, hi, h⟩ hag
  try simp only [↓opsA, opsB, if_true, if_false, ↓reduceIte]
  refine cd_dec (fun hlt => ?_) (fun hge => ?_)
  · have hlt : i < xs.length := by omega
    obtain ⟨b, o, rfl, hld⟩ := ld_ev h.drop hl hlt
    rw [o_index (by omega) (by omega)]
    simp only [Int.toNat_natCast]
    refine hld ?_
    refine alloc_sl h fun e0 w h => ?_
    have h : sat E w (pts e0 (.cells [Value.slice none 0 0, .slice none 0 0, .int .i64 0].toArray 67 (0, 0)) * (pts n0 (.cells [Value.bool leaf, .slice (some ⟨b, o, none⟩) xs.length c].toArray 63 (0, 0)) * H)) := h
    refine store_all (b := e0) h rfl rfl (by simp [ecells, Ev.kv, Ev.vv, Value.oneCell']) fun w h => ?_
    refine ld_agg (b := n0) h rfl ?_
    refine ld_agg (b := e0) h rfl ?_
    have hm := hf.2 xs[i] (List.getElem_mem _)
    refine size_spec (n := ⟨leaf, esv xs⟩) h rfl hm.1 hm.2 fun w h => ?_
    try simp only [↓opsA, opsB, if_true, if_false, ↓reduceIte]
    have e1 := sum_take (f := (⟨leaf, esv xs⟩ : Nd).one) (l := esv xs) (i := i) (by unfold esv; rw [List.length_map]; omega)
    have e2 := few_sum hf ⟨leaf, esv xs⟩ (i + 1)
    have e3 : (esv xs)[i]'(by unfold esv; rw [List.length_map]; omega) = xs[i].e := by unfold esv; simp
    rw [e3] at e1
    rw [i64_of (by omega) (by omega), i64_of (by omega) (by omega)]
    refine hag (xs.length - (i + 1)) _ _ (by omega) ⟨i + 1, ?_, rfl, by omega, h.drop⟩
    rw [e1]; rfl
  · have : i = xs.length := by omega
    subst this
    have e1 : (esv xs).take xs.length = esv xs := List.take_of_length_le (by unfold esv; simp)
    rw [e1]
    exact k w h.drop
theorem bytes_le {xs : List Ev} (hf : Few xs) (leaf : Bool) : (⟨leaf, esv xs⟩ : Nd).bytes ≤ 3000000 := by
  have := few_sum hf ⟨leaf, esv xs⟩ (esv xs).length
  rw [List.take_length] at this
  exact this
theorem poor_spec (h : sat E w H) {leaf : Bool} {lv : Value} {xs : List Ev} (hl : Rds H lv xs.length (elv xs)) (hf : Few xs) (k : ∀ w', sat E w' H → K (.bool (⟨leaf, esv xs⟩ : Nd).poor) w') :
    Calls prog 61 #[nv leaf lv] w (Ret K) := by
  obtain ⟨a, c, rfl, hc, hl, _⟩ := hl.shape h
  refine c61 ?_
  unfold B61
  refine box_sl h fun n0 w h => ?_
  have h : sat E w (pts n0 (.cells [Value.bool leaf, .slice a xs.length c].toArray 63 (0, 0)) * H) := h
  refine ld_agg (b := n0) h rfl ?_
  refine bytes_spec h hl.right hf fun w h => ?_
  try simp only [↓opsA, opsB, if_true, if_false, ↓reduceIte]
  unfold Nd.poor at k
  have hlen : (⟨leaf, esv xs⟩ : Nd).l.length = xs.length := by simp [esv]
  rw [hlen] at k
  by_cases h1 : (⟨leaf, esv xs⟩ : Nd).bytes < 56
  · have h1' : ((⟨leaf, esv xs⟩ : Nd).bytes : Int) < 56 := by omega
    simp only [h1, decide_true, Bool.true_or] at k
    simp only [h1', ↓opsA, opsB, if_true, if_false, ↓reduceIte]
    exact k w h.drop
  · have h1' : ¬ ((⟨leaf, esv xs⟩ : Nd).bytes : Int) < 56 := by omega
    simp only [h1, decide_false, Bool.false_or] at k
    simp only [h1', ↓opsA, opsB, if_true, if_false, ↓reduceIte]
    refine ld_in (b := n0) (v := .bool leaf) h rfl ?_
    simp only [↓opsA, opsB, if_true, if_false, ↓reduceIte]
    cases leaf
    · simp only [↓opsA, opsB, if_true, if_false, ↓reduceIte]
      refine ld_in (b := n0) (v := .slice a xs.length c) h rfl ?_
      simp only [↓opsA, opsB, if_true, if_false, ↓reduceIte]
      simp only [Bool.not_false, Bool.true_and] at k
      have e : decide ((xs.length : Int) < 2) = decide (xs.length < 2) := decide_eq_decide.2 (by omega)
      rw [e]
      exact k w h.drop
    · simp only [↓opsA, opsB, if_true, if_false, ↓reduceIte]
      simp only [Bool.not_true, Bool.false_and] at k
      exact k w h.drop
end Go.Proofs.YtfaeklinhchidaaGreat
