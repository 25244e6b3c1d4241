/-
  What holds of every chain that was made by these calls; two tests in a row.
-/
import Derived.Test.YtjeiojibnmfibaaDoorAudT
set_option linter.all false
set_option maxRecDepth 10000
namespace Go.Proofs.YtjeiojibnmfibaaDoor
open Go Hold
variable {E : World0} {w : World} {H R X : HP} {K : Value → World → Prop}
theorem two_tests {a b c : Int} {k : Value → World → Prop} :
    (pvv prog (binOp .lss 3 (.int .i64 a) (.int .i64 b)) w fun t_7 w => gate (some (t_7, true)) (fun K => K (.int .i64 a) w) w fun t_8 w => gate (some (t_7, true)) (fun K => pvv prog (binOp .lss 3 t_8 (.int .i64 c)) w K) w fun t_9 w => pv prog (oPick t_7 t_9 (.bool false)) w fun t_10 w => k t_10 w) = k (.bool (decide (a < b ∧ a < c))) w := by
  rw [o_lss]
  by_cases h1 : a < b
  · by_cases h2 : a < c
    · simp only [h1, h2, and_self, ↓o_nil, ↓o_field, ↓o_add, ↓o_sub, ↓o_mul, ↓o_lss, ↓o_leq, ↓o_gtr, ↓o_geq, ↓o_not, ↓o_pick, ↓o_eqInt, ↓o_neInt, ↓o_eqBool, ↓o_neBool, ↓o_eqPtr, ↓o_nePtr, ↓o_eqPtr', ↓o_eqSl, ↓o_neSl, ↓o_eqStr, ↓o_neStr, ↓o_len, ↓o_lenS, ↓o_min, ↓o_max, ↓o_extract, ↓o_convInt, ↓cd_true, ↓cd_false, ↓gate_tt, ↓gate_ff, ↓gate_tf, ↓gate_ft, ↓gate_undef, ↓o_bind, ↓stay_v, ↓pop_cons, ↓fin_nil, Option.isNone_none, Option.isNone_some, Bool.not_true, Bool.not_false, Nat.zero_add, decide_true, decide_false, if_true, if_false, Bool.false_eq_true, ↓reduceIte]
    · simp only [h1, h2, and_false, ↓o_nil, ↓o_field, ↓o_add, ↓o_sub, ↓o_mul, ↓o_lss, ↓o_leq, ↓o_gtr, ↓o_geq, ↓o_not, ↓o_pick, ↓o_eqInt, ↓o_neInt, ↓o_eqBool, ↓o_neBool, ↓o_eqPtr, ↓o_nePtr, ↓o_eqPtr', ↓o_eqSl, ↓o_neSl, ↓o_eqStr, ↓o_neStr, ↓o_len, ↓o_lenS, ↓o_min, ↓o_max, ↓o_extract, ↓o_convInt, ↓cd_true, ↓cd_false, ↓gate_tt, ↓gate_ff, ↓gate_tf, ↓gate_ft, ↓gate_undef, ↓o_bind, ↓stay_v, ↓pop_cons, ↓fin_nil, Option.isNone_none, Option.isNone_some, Bool.not_true, Bool.not_false, Nat.zero_add, decide_true, decide_false, if_true, if_false, Bool.false_eq_true, ↓reduceIte]
  · simp only [h1, false_and, ↓o_nil, ↓o_field, ↓o_add, ↓o_sub, ↓o_mul, ↓o_lss, ↓o_leq, ↓o_gtr, ↓o_geq, ↓o_not, ↓o_pick, ↓o_eqInt, ↓o_neInt, ↓o_eqBool, ↓o_neBool, ↓o_eqPtr, ↓o_nePtr, ↓o_eqPtr', ↓o_eqSl, ↓o_neSl, ↓o_eqStr, ↓o_neStr, ↓o_len, ↓o_lenS, ↓o_min, ↓o_max, ↓o_extract, ↓o_convInt, ↓cd_true, ↓cd_false, ↓gate_tt, ↓gate_ff, ↓gate_tf, ↓gate_ft, ↓gate_undef, ↓o_bind, ↓stay_v, ↓pop_cons, ↓fin_nil, Option.isNone_none, Option.isNone_some, Bool.not_true, Bool.not_false, Nat.zero_add, decide_true, decide_false, if_true, if_false, Bool.false_eq_true, ↓reduceIte]
theorem st_no {P : Program} {s : Sem Value} {v : Value} {b want : Bool} {A : Prop} (h : b ≠ want) (k : A) : stv P (some (.bool b, want)) s v w A := ⟨fun hw => by simp [wantedG] at hw; exact absurd hw h, k⟩
theorem deeds_at {l : List Deed} {i : Nat} {x : Deed} (h : l[i]? = some x) : ((l.flatMap dcells).drop (i * 5)).take 5 = dcells x := fm_at (k := 5) (cells := dcells) (fun _ => rfl) h
structure Risen (s : Ch) : Prop where
  num : ∀ (i : Nat) (x : Evt), s.l[i]? = some x → x.n = s.bn + i + 1 ∧ x.t ≤ s.last
  up : ∀ (i : Nat) (x y : Evt), s.l[i]? = some x → s.l[i + 1]? = some y → x.t ≤ y.t
theorem inv_new : Risen newS := ⟨fun i x h => by simp [newS] at h, fun i x y h => by simp [newS] at h⟩
theorem inv_add {s : Ch} {t : Int} {a b : List UInt8} (h : Risen s) : Risen (addS s t a b).1 := by
  unfold addS
  split
  · exact h
  · split
    · exact h
    · split
      · exact h
      · rename_i ht
        split
        · exact h
        · refine ⟨fun i x hx => ?_, fun i x y hx hy => ?_⟩
          · simp only at hx ⊢
            by_cases hi : i < s.l.length
            · rw [List.getElem?_append_left hi] at hx
              obtain ⟨h1, h2⟩ := h.num i x hx
              exact ⟨h1, by omega⟩
            · rw [List.getElem?_append_right (by omega)] at hx
              have hlt := (List.getElem?_eq_some_iff.1 hx).1
              simp at hlt
              have hi2 : i = s.l.length := by omega
              subst hi2
              simp at hx
              subst hx
              exact ⟨rfl, Int.le_refl _⟩
          · simp only at hx hy
            have hlt := (List.getElem?_eq_some_iff.1 hy).1
            simp at hlt
            rw [List.getElem?_append_left (by omega)] at hx
            by_cases hi : i + 1 < s.l.length
            · rw [List.getElem?_append_left hi] at hy
              exact h.up i x y hx hy
            · have hi2 : i + 1 = s.l.length := by omega
              rw [List.getElem?_append_right (by omega), hi2] at hy
              simp at hy
              subst hy
              have := (h.num i x hx).2
              show x.t ≤ t
              omega
theorem inv_do {s : Ch} {x : Deed} (h : Risen s) : Risen (doS s x) := by
  unfold doS
  split
  · exact inv_add h
  · split
    · exact ⟨h.num, h.up⟩
    · split
      · unfold pruneS
        split
        · exact h
        · rename_i hn
          refine ⟨fun i y hy => ?_, fun i y z hy hz => ?_⟩
          · simp only [List.getElem?_drop] at hy
            obtain ⟨h1, h2⟩ := h.num _ y hy
            refine ⟨?_, h2⟩
            simp only
            omega
          · simp only [List.getElem?_drop] at hy hz
            exact h.up _ y z hy (by rw [← hz]; congr 1)
      · exact h
structure Right (s : Ch) : Prop where
  hd : links s.bh s.l = s.hd
  ah : s.bn ≤ s.an → links s.bh (s.l.take (s.an - s.bn).toNat) = s.ah
theorem Right.ok {s : Ch} (h : Right s) : verifyS s = 0 := by
  unfold verifyS
  rw [if_neg]
  rintro (⟨h1, h2⟩ | h2)
  · exact h2 (h.ah h1)
  · exact h2 h.hd
theorem right_new : Right newS := ⟨rfl, fun _ => rfl⟩
theorem links_append (h : List UInt8) (a b : List Evt) : links h (a ++ b) = links (links h a) b := by unfold links; rw [List.foldl_append]
theorem right_anchor {s : Ch} {m : Nat} (ok : Ok s m) (h : Right s) : Right (anchorS s) :=
  ⟨h.hd, fun _ => by
    show links s.bh (s.l.take (s.bn + s.l.length - s.bn).toNat) = s.hd
    rw [show (s.bn + (s.l.length : Int) - s.bn).toNat = s.l.length by omega, List.take_length]
    exact h.hd⟩
theorem right_prune {s : Ch} {m : Nat} {n : Int} (ok : Ok s m) (h : Right s) : Right (pruneS s n).1 := by
  unfold pruneS
  split
  · exact h
  · have := ok.le
    refine ⟨?_, fun hb => ?_⟩
    · show links (links s.bh (s.l.take (n - s.bn).toNat)) (s.l.drop (n - s.bn).toNat) = s.hd
      rw [← links_append, List.take_append_drop]
      exact h.hd
    · show links (links s.bh (s.l.take (n - s.bn).toNat)) ((s.l.drop (n - s.bn).toNat).take (s.an - n).toNat) = s.ah
      have e : s.l.take (n - s.bn).toNat ++ (s.l.drop (n - s.bn).toNat).take (s.an - n).toNat = s.l.take (s.an - s.bn).toNat := by
        rw [← List.take_add]
        congr 1
        omega
      rw [← links_append, e]
      exact h.ah (by omega)
theorem right_do {s : Ch} {m : Nat} {x : Deed} (ok : Ok s m) (h : Right s) : Right (doS s x) := by
  unfold doS
  split
  · unfold addS
    split
    · exact h
    · split
      · exact h
      · split
        · exact h
        · split
          · exact h
          · have := ok.le
            refine ⟨?_, fun hb => ?_⟩
            · show links s.bh (s.l ++ [_]) = nx s.hd _
              rw [links_append, h.hd]; rfl
            · show links s.bh ((s.l ++ [_]).take (s.an - s.bn).toNat) = s.ah
              rw [List.take_append_of_le_length (by omega)]
              exact h.ah hb
  · split
    · exact right_anchor ok h
    · split
      · exact right_prune ok h
      · exact h
theorem evs_cell {l : List Evt} {i f : Nat} {x : Evt} {v : Value} (h : l[i]? = some x) (hf : (ecells x)[f]? = some v) : (evs l)[i * 4 + f]? = some v := take_cell (evs_at h) hf
end Go.Proofs.YtjeiojibnmfibaaDoor
