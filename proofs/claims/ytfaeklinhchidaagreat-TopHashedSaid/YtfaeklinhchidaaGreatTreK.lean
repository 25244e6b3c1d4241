/-
  Where too many entries are cut.
-/
import Derived.Test.YtfaeklinhchidaaGreatTreD
import Derived.Test.YtfaeklinhchidaaGreatIns
set_option linter.all false
set_option maxRecDepth 100000
namespace Go.Proofs.YtfaeklinhchidaaGreat
open Go Hold
variable {E : World0} {w : World} {H R X : HP} {K : Value → World → Prop}
theorem rds_takeE {H : HP} {a : Option Addr} {n c c' : Nat} {xs : List Ev} {i : Nat} (h : Rds H (.slice a n c) n (elv xs)) (hi : i ≤ c') : Rds H (.slice a i c') i (elv (xs.take i)) := fun E w hs => by
  obtain ⟨a', c2, e, hc, hw⟩ := h E w hs
  cases e
  refine ⟨_, _, rfl, hi, ?_⟩
  have := win_take hw (i * 3)
  rcases hw with h0 | ⟨b, o, cs, e, fr, rfl, hb, hv⟩
  · left
    have hl := congrArg List.length h0
    rw [elv_len] at hl
    have : xs = [] := List.eq_nil_of_length_eq_zero (by simp at hl; omega)
    subst this; simp [elv]
  · refine .inr ⟨b, o, cs, e, fr, rfl, hb, fun j v hj => hv j v ?_⟩
    have e1 : elv xs = elv (xs.take i) ++ elv (xs.drop i) := by rw [← elv_app, List.take_append_drop]
    have hlt := (List.getElem?_eq_some_iff.1 hj).1
    rw [e1, List.getElem?_append_left hlt]; exact hj
theorem rds_dropE {H : HP} {b o n c c' l : Nat} {xs : List Ev} {i : Nat} (h : Rds H (.slice (some ⟨b, o, none⟩) n c) n (elv xs)) (hl : l = (xs.drop i).length) (hi : l ≤ c') (hx : i ≤ xs.length) : Rds H (.slice (some ⟨b, o + i * 3, none⟩) l c') l (elv (xs.drop i)) := fun E w hs => by
  obtain ⟨a', c2, e, hc, hw⟩ := h E w hs
  cases e
  refine ⟨_, _, rfl, hi, ?_⟩
  rcases hw with h0 | ⟨b, o, cs, e, fr, hab, hb, hv⟩
  · left
    have hl := congrArg List.length h0
    rw [elv_len] at hl
    have : xs = [] := List.eq_nil_of_length_eq_zero (by simp at hl; omega)
    subst this; simp [elv]
  · cases hab
    refine .inr ⟨_, _, cs, e, fr, rfl, hb, fun j v hj => ?_⟩
    have e1 : elv xs = elv (xs.take i) ++ elv (xs.drop i) := by rw [← elv_app, List.take_append_drop]
    have := hv (i * 3 + j) v (by
      rw [e1, List.getElem?_append_right (by rw [elv_len, List.length_take]; omega), elv_len, List.length_take, show min i xs.length = i by omega, Nat.add_sub_cancel_left]
      exact hj)
    rwa [← Nat.add_assoc] at this
theorem esv_take (xs : List Ev) (i : Nat) : esv (xs.take i) = (esv xs).take i := by unfold esv; rw [List.map_take]
theorem esv_drop (xs : List Ev) (i : Nat) : esv (xs.drop i) = (esv xs).drop i := by unfold esv; rw [List.map_drop]
theorem esv_len (xs : List Ev) : (esv xs).length = xs.length := by simp [esv]
theorem esv_at (xs : List Ev) {i : Nat} (h : i < xs.length) : (esv xs)[i]'(by rw [esv_len]; exact h) = xs[i].e := List.getElem_map (fun x : Ev => x.e)
theorem half_spec (h : sat E w H) {leaf : Bool} {lv : Value} {xs : List Ev} (hl : Rds H lv xs.length (elv xs)) (hf : Few xs) (h1 : 1 ≤ xs.length) (k : ∀ w', sat E w' H → K (.int .i64 (halfP ⟨leaf, esv xs⟩)) w') :
    Calls prog 118 #[nv leaf lv] w (Ret K) := by
  obtain ⟨a, c, rfl, hc, hl, _⟩ := hl.shape h
  have hf1 := hf.1
  refine c118 ?_
  unfold B118
  refine box_sl h fun n0 w h => ?_
  have h : sat E w (pts n0 (.cells [Value.bool leaf, .slice a xs.length c].toArray 63 (0, 0)) * H) := h
  refine ld_agg (b := n0) h rfl ?_
  refine bytes_spec h hl.right hf fun w h => ?_
  try simp only [↓opsA, opsB, if_true, if_false, ↓reduceIte]
  refine ld_in (b := n0) (v := .slice a xs.length c) h rfl ?_
  refine ld_in (b := n0) (v := .slice a xs.length c) h rfl ?_
  try simp only [↓opsA, opsB, if_true, if_false, ↓reduceIte]
  rw [i64_of (n := (xs.length : Int) - 1) (by omega) (by omega), show (xs.length : Int) - 1 = ((xs.length - 1 : Nat) : Int) by omega, o_slice_h (by omega) (by omega), cutA_no]
  simp only [Int.toNat_natCast]
  try simp only [↓opsA, opsB, if_true, if_false, ↓reduceIte]
  have hbl := bytes_le hf leaf
  have hdl : (esv xs).dropLast.length = xs.length - 1 := by rw [List.length_dropLast, esv_len]
  refine lp_nat (fun q σ w => ∃ i s best at_ : Nat, σ = [.int .i64 s, .int .i64 best, .int .i64 at_, .int .i64 i] ∧ q = xs.length - 1 - i ∧ i ≤ xs.length - 1 ∧ s = (((esv xs).take i).map (⟨leaf, esv xs⟩ : Nd).one).sum ∧
    halfGo (⟨leaf, esv xs⟩ : Nd).bytes (⟨leaf, esv xs⟩ : Nd).one ((esv xs).dropLast.drop i) i s best at_ = halfP ⟨leaf, esv xs⟩ ∧
    sat E w (pts n0 (.cells [Value.bool leaf, .slice a xs.length c].toArray 63 (0, 0)) * H)) (xs.length - 1) ⟨0, 0, 506, 1, rfl, rfl, by omega, rfl, rfl, h⟩ ?_
  clear h
  rintro q σ w again ⟨i, s, best, at_, rfl, rfl, hi, hs, hgo, h⟩ hag
  try simp only [↓opsA, opsB, if_true, if_false, ↓reduceIte]
  refine cd_dec (fun hlt => ?_) (fun hge => ?_)
  · have hlt : i < xs.length - 1 := by omega
    have hlt2 : i < xs.length := by omega
    have e1 := sum_take (f := (⟨leaf, esv xs⟩ : Nd).one) (l := esv xs) (i := i) (by rw [esv_len]; omega)
    have e2 : (((esv xs).take (i + 1)).map (⟨leaf, esv xs⟩ : Nd).one).sum ≤ (⟨leaf, esv xs⟩ : Nd).bytes := sum_part ⟨leaf, esv xs⟩ (i := i + 1)
    rw [esv_at xs hlt2] at e1
    have hd : (esv xs).dropLast.drop i = xs[i].e :: (esv xs).dropLast.drop (i + 1) := by
      rw [List.drop_eq_getElem_cons (by rw [hdl]; omega), List.getElem_dropLast, esv_at xs hlt2]
    rw [hd, halfGo] at hgo
    obtain ⟨b, o, rfl, hld⟩ := ld_ev h.drop hl hlt2
    have hs1 : (((esv xs).take (i + 1)).map (⟨leaf, esv xs⟩ : Nd).one).sum = s + (⟨leaf, esv xs⟩ : Nd).one xs[i].e := by rw [e1, hs]
    rw [hs1] at e2
    refine jn_cut (fun σ w => ∃ best at_ : Nat, σ = [.int .i64 ((s + (⟨leaf, esv xs⟩ : Nd).one xs[i].e : Nat) : Int), .int .i64 best, .int .i64 at_] ∧
      halfGo (⟨leaf, esv xs⟩ : Nd).bytes (⟨leaf, esv xs⟩ : Nd).one ((esv xs).dropLast.drop (i + 1)) (i + 1) (s + (⟨leaf, esv xs⟩ : Nd).one xs[i].e) best at_ = halfP ⟨leaf, esv xs⟩ ∧
      sat E w (pts n0 (.cells [Value.bool leaf, .slice (some ⟨b, o, none⟩) xs.length c].toArray 63 (0, 0)) * H)) ?_ ?_
    · intro kk hk
      clear hag
      rw [o_index (by omega) (by omega)]
      simp only [Int.toNat_natCast]
      refine hld ?_
      refine alloc_sl h fun e0 w h => ?_
      have h : sat E w (pts e0 (.cells [Value.slice none 0 0, .slice none 0 0, .int .i64 0].toArray 67 (0, 0)) * (pts n0 (.cells [Value.bool leaf, .slice (some ⟨b, o, none⟩) xs.length c].toArray 63 (0, 0)) * H)) := h
      refine store_all (b := e0) h rfl rfl (by simp [ecells, Ev.kv, Ev.vv, Value.oneCell']) fun w h => ?_
      refine ld_agg (b := n0) h rfl ?_
      refine ld_agg (b := e0) h rfl ?_
      have hm := hf.2 xs[i] (List.getElem_mem _)
      refine size_spec (n := ⟨leaf, esv xs⟩) h rfl hm.1 hm.2 fun w h => ?_
      generalize (⟨leaf, esv xs⟩ : Nd).one xs[i].e = u at *
      generalize (⟨leaf, esv xs⟩ : Nd).bytes = all at *
      try simp only [↓opsA, opsB, if_true, if_false, ↓reduceIte]
      rw [i64_of (n := (s : Int) + u) (by omega) (by omega), i64_of (n := (all : Int) - (s + u)) (by omega) (by omega)]
      have em : max ((s : Int) + u) ((all : Int) - (s + u)) = ((max (s + u) (all - (s + u)) : Nat) : Int) := by omega
      rw [em]
      by_cases hlt3 : max (s + u) (all - (s + u)) < best
      · rw [if_pos hlt3] at hgo
        have hlt4 : ((max (s + u) (all - (s + u)) : Nat) : Int) < (best : Int) := by omega
        simp only [hlt4, ↓opsA, opsB, if_true, if_false, ↓reduceIte]
        rw [i64_of (n := (i : Int) + 1) (by omega) (by omega)]
        exact hk _ _ ⟨max (s + u) (all - (s + u)), i + 1, rfl, hgo, h.drop⟩
      · rw [if_neg hlt3] at hgo
        have hlt4 : ¬ ((max (s + u) (all - (s + u)) : Nat) : Int) < (best : Int) := by omega
        simp only [hlt4, ↓opsA, opsB, if_true, if_false, ↓reduceIte]
        exact hk _ _ ⟨best, at_, rfl, hgo, h.drop⟩
    · clear h
      rintro σ w ⟨best, at_, rfl, hgo, h⟩
      simp only [↓opsA, opsB, if_true, if_false, ↓reduceIte]
      rw [i64_of (n := (i : Int) + 1) (by omega) (by omega)]
      exact hag (xs.length - 1 - (i + 1)) _ _ (by omega) ⟨i + 1, _, best, at_, rfl, rfl, by omega, hs1.symm, hgo, h⟩
  · have : i = xs.length - 1 := by omega
    rw [List.drop_eq_nil_of_le (by omega)] at hgo
    have hgo : at_ = halfP ⟨leaf, esv xs⟩ := hgo
    rw [hgo]
    exact k w h.drop
end Go.Proofs.YtfaeklinhchidaaGreat
