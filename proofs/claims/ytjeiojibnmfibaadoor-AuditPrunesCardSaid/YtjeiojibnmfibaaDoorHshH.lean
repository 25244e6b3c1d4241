/-
  mix, whole.
-/
import Derived.Test.YtjeiojibnmfibaaDoorHshG
set_option linter.all false
set_option maxRecDepth 10000
namespace Go.Proofs.YtjeiojibnmfibaaDoor
open Go Hold
variable {E : World0} {w : World} {H R : HP} {K : Value → World → Prop}
theorem take_drop_set {α : Type} {x y : List α} {n i : Nat} {v : α} (hx : x.length = n) (hy : y.length = n) (hi : i < n) (hv : x[i]? = some v) : (x.take i ++ y.drop i).set i v = x.take (i + 1) ++ y.drop (i + 1) := by
  apply List.ext_getElem?
  intro j
  rw [List.getElem?_set, List.getElem?_append, List.getElem?_append]
  simp only [List.length_append, List.length_take, List.length_drop, List.getElem?_take, List.getElem?_drop, hx, hy]
  by_cases h1 : i = j
  · subst h1
    have : i < min i n + (n - i) := by omega
    have h3 : i < min (i + 1) n := by omega
    simp [this, h3, hv]
  · rw [if_neg h1]
    by_cases h2 : j < i
    · have h3 : j < min i n := by omega
      have h4 : j < min (i + 1) n := by omega
      have h5 : j < i + 1 := by omega
      simp [h3, h4, h2, h5]
    · have h3 : ¬ j < min i n := by omega
      have h4 : ¬ j < min (i + 1) n := by omega
      rw [if_neg h3, if_neg h4]
      congr 1; omega
theorem take_drop_get {α : Type} {x y : List α} {n i : Nat} (hx : x.length = n) (hi : i < n) : (x.take i ++ y.drop i)[i]? = y[i]? := by
  rw [List.getElem?_append_right (by simp; omega)]
  simp only [List.length_take, List.getElem?_drop]
  congr 1; omega
theorem wv_one (l : List UInt32) : ∀ x ∈ l.map wv, x.oneCell' = true := by
  intro x hx
  obtain ⟨b, _, rfl⟩ := List.mem_map.1 hx
  rfl
theorem St.len (v : St) : v.list.length = 8 := rfl
theorem St.add_get (x y : St) : ∀ {i : Nat}, i < 8 → (x.add y).list.getD i 0 = x.list.getD i 0 + y.list.getD i 0
  | 0, _ => rfl
  | 1, _ => rfl
  | 2, _ => rfl
  | 3, _ => rfl
  | 4, _ => rfl
  | 5, _ => rfl
  | 6, _ => rfl
  | 7, _ => rfl
  | n + 8, h => by omega
theorem mix_spec (h : sat E w H) {st : St} {bk : Nat} {ek : TypeId} {frk : Nat × Nat} {ks : List UInt32} (hks : ks.length = 64) [hbk : Has H bk (.cells (ks.map wv).toArray ek frk)] {vb : Value} {b : List UInt8} (hb : Rds H vb b.length (b.map bv)) (hbl : 64 ≤ b.length)
    (hK : ∀ w, sat E w H → K (.agg ((mix ks st b).list.map wv).toArray) w) :
    Calls prog 68 #[.agg (st.list.map wv).toArray, .pointer (some ⟨bk, 0, none⟩), vb] w (Ret K) := by
  obtain ⟨bb, o, c, rfl, hc, hb⟩ := hb.opened h (by simp; omega)
  refine c68 ?_
  unfold B68
  refine box_sl h fun b1 w h => ?_
  refine alloc_sl h fun b2 w h => ?_
  refine alloc_sl h fun b3 w h => ?_
  have h : sat E w (pts b3 (.cells (List.replicate 64 (wv 0)).toArray 121 (0, 0)) * (pts b2 (.cells (List.replicate 8 (wv 0)).toArray 107 (0, 0)) * (pts b1 (.cells (st.list.map wv).toArray 107 (0, 0)) * H))) := h
  refine lp_nat (fun m σ w => ∃ i : Nat, σ = [.int .i64 i] ∧ m = 64 - i ∧ i ≤ 64 ∧
    sat E w (pts b3 (.cells ((sched b i).map wv ++ List.replicate (64 - i) (wv 0)).toArray 121 (0, 0)) * (pts b2 (.cells (List.replicate 8 (wv 0)).toArray 107 (0, 0)) * (pts b1 (.cells (st.list.map wv).toArray 107 (0, 0)) * H)))) 64 ⟨0, rfl, rfl, by omega, h⟩ ?_
  rintro m σ w again ⟨i, rfl, rfl, hi, h⟩ hag
  have hb' : Rds (pts b3 (.cells ((sched b i).map wv ++ List.replicate (64 - i) (wv 0)).toArray 121 (0, 0)) * (pts b2 (.cells (List.replicate 8 (wv 0)).toArray 107 (0, 0)) * (pts b1 (.cells (st.list.map wv).toArray 107 (0, 0)) * H))) _ _ _ := hb.right.right.right
  rw [pop_cons, fin_nil, o_lss]
  refine cd_dec (fun hlt => ?_) (fun hge => ?_)
  · have hlt : i < 64 := by omega
    refine jn_cut (fun σ w => σ = [] ∧ sat E w (pts b3 (.cells ((sched b (i + 1)).map wv ++ List.replicate (64 - (i + 1)) (wv 0)).toArray 121 (0, 0)) * (pts b2 (.cells (List.replicate 8 (wv 0)).toArray 107 (0, 0)) * (pts b1 (.cells (st.list.map wv).toArray 107 (0, 0)) * H)))) ?_ ?_
    · intro kk hk
      rw [o_lss]
      by_cases h16 : (i : Int) < 16
      · rw [decide_eq_true h16, cd_true]
        refine mix_early h hlt h16 (sched_length b i) hb' hbl fun w h => hk _ _ ⟨rfl, ?_⟩
        have h16' : i < 16 := by omega
        have e : sched b (i + 1) = sched b i ++ [word b i] := by simp [sched, h16']
        rw [e]; exact h
      · rw [decide_eq_false h16, cd_false]
        refine mix_late h hlt h16 (sched_length b i) fun w h => hk _ _ ⟨rfl, ?_⟩
        have h16' : ¬ i < 16 := by omega
        have e : sched b (i + 1) = sched b i ++ [wNext (sched b i) i] := by simp [sched, h16']
        rw [e]; exact h
    · rintro σ w ⟨rfl, h⟩
      simp only [↓o_nil, ↓o_field, ↓o_add, ↓o_sub, ↓o_mul, ↓o_lss, ↓o_leq, ↓o_gtr, ↓o_geq, ↓o_not, ↓o_pick, ↓o_eqInt, ↓o_neInt, ↓o_eqBool, ↓o_neBool, ↓o_eqPtr, ↓o_nePtr, ↓o_eqPtr', ↓o_eqSl, ↓o_neSl, ↓o_eqStr, ↓o_neStr, ↓o_len, ↓o_lenS, ↓o_min, ↓o_max, ↓o_extract, ↓o_convInt, ↓cd_true, ↓cd_false, ↓gate_tt, ↓gate_ff, ↓gate_tf, ↓gate_ft, ↓gate_undef, ↓o_bind, ↓stay_v, ↓pop_cons, ↓fin_nil, Option.isNone_none, Option.isNone_some, Bool.not_true, Bool.not_false, Nat.zero_add, decide_true, decide_false, if_true, if_false, Bool.false_eq_true, ↓reduceIte]
      rw [i64_of (by omega) (by omega)]
      exact hag _ _ _ (by omega) ⟨i + 1, rfl, rfl, by omega, h⟩
  · have hi64 : i = 64 := by omega
    subst hi64
    have h : sat E w (pts b3 (.cells ((sched b 64).map wv).toArray 121 (0, 0)) * (pts b2 (.cells (List.replicate 8 (wv 0)).toArray 107 (0, 0)) * (pts b1 (.cells (st.list.map wv).toArray 107 (0, 0)) * H))) := by
      simpa using h
    refine ld_agg h (by simp [St.len]) ?_
    refine alloc_sl h fun b4 w h => ?_
    have h : sat E w (pts b4 (.cells (List.replicate 8 (wv 0)).toArray 107 (0, 0)) * (pts b3 (.cells ((sched b 64).map wv).toArray 121 (0, 0)) * (pts b2 (.cells (List.replicate 8 (wv 0)).toArray 107 (0, 0)) * (pts b1 (.cells (st.list.map wv).toArray 107 (0, 0)) * H)))) := h
    refine storeN_sl (b := b4) h (aggC_107).size (vs := st.list.map wv) (by simp [Value.cells]) (by simp [St.len]) (wv_one _) (by simp) fun w h => ?_
    have h : sat E w (pts b4 (.cells (st.list.map wv).toArray 107 (0, 0)) * (pts b3 (.cells ((sched b 64).map wv).toArray 121 (0, 0)) * (pts b2 (.cells (List.replicate 8 (wv 0)).toArray 107 (0, 0)) * (pts b1 (.cells (st.list.map wv).toArray 107 (0, 0)) * H)))) := h
    refine lp_nat (fun m σ w => ∃ i : Nat, σ = [.int .i64 i] ∧ m = 64 - i ∧ i ≤ 64 ∧
      sat E w (pts b4 (.cells ((Go.Proofs.YtjeiojibnmfibaaDoor.rounds ks (sched b 64) st i).list.map wv).toArray 107 (0, 0)) * (pts b3 (.cells ((sched b 64).map wv).toArray 121 (0, 0)) * (pts b2 (.cells (List.replicate 8 (wv 0)).toArray 107 (0, 0)) * (pts b1 (.cells (st.list.map wv).toArray 107 (0, 0)) * H))))) 64 ⟨0, rfl, rfl, by omega, h⟩ ?_
    rintro m σ w again ⟨i, rfl, rfl, hi, h⟩ hag
    rw [pop_cons, fin_nil, o_lss]
    refine cd_dec (fun hlt => ?_) (fun hge => ?_)
    · refine mix_round h (by omega) hks (sched_length b 64) fun w h => ?_
      exact hag _ _ _ (by omega) ⟨i + 1, rfl, rfl, by omega, h⟩
    · have hi64 : i = 64 := by omega
      subst hi64
      refine lp_nat (fun m σ w => ∃ i : Nat, σ = [.int .i64 i] ∧ m = 8 - i ∧ i ≤ 8 ∧
        sat E w (pts b1 (.cells (((mix ks st b).list.take i ++ st.list.drop i).map wv).toArray 107 (0, 0)) * (pts b4 (.cells ((Go.Proofs.YtjeiojibnmfibaaDoor.rounds ks (sched b 64) st 64).list.map wv).toArray 107 (0, 0)) * (pts b3 (.cells ((sched b 64).map wv).toArray 121 (0, 0)) * (pts b2 (.cells (List.replicate 8 (wv 0)).toArray 107 (0, 0)) * H))))) 8 ⟨0, rfl, rfl, by omega, ?_⟩ ?_
      · have := h.own b1
        exact this
      rintro m σ w again ⟨i, rfl, rfl, hi, h⟩ hag
      rw [pop_cons, fin_nil, o_lss]
      refine cd_dec (fun hlt => ?_) (fun hge => ?_)
      · have hlt : i < 8 := by omega
        have ix : ∀ {b : Nat} {w : World} {K : Value → World → Prop}, pvv prog (Instr.indexAt 107 (.pointer (some ⟨b, 0, none⟩)) (.int .i64 (i : Int))) w K = K (.pointer (some ⟨b, i, none⟩)) w := fun {b w K} => by
          rw [o_indexA (by omega) (by omega)]; simp
        refine dr_sl h fun w h _ => ?_
        simp only [↓o_nil, ↓o_field, ↓o_add, ↓o_sub, ↓o_mul, ↓o_lss, ↓o_leq, ↓o_gtr, ↓o_geq, ↓o_not, ↓o_pick, ↓o_eqInt, ↓o_neInt, ↓o_eqBool, ↓o_neBool, ↓o_eqPtr, ↓o_nePtr, ↓o_eqPtr', ↓o_eqSl, ↓o_neSl, ↓o_eqStr, ↓o_neStr, ↓o_len, ↓o_lenS, ↓o_min, ↓o_max, ↓o_extract, ↓o_convInt, ↓cd_true, ↓cd_false, ↓gate_tt, ↓gate_ff, ↓gate_tf, ↓gate_ft, ↓gate_undef, ↓o_bind, ↓stay_v, ↓pop_cons, ↓fin_nil, Option.isNone_none, Option.isNone_some, Bool.not_true, Bool.not_false, Nat.zero_add, decide_true, decide_false, if_true, if_false, Bool.false_eq_true, ↓reduceIte, ix]
        have g1 : (((mix ks st b).list.take i ++ st.list.drop i).map wv)[i]? = some (wv (st.list.getD i 0)) := by
          rw [List.getElem?_map, take_drop_get (St.len _) hlt, ← List.getElem?_map]
          exact getwv' (by rw [St.len]; exact hlt)
        refine ld_in (b := b1) h g1 ?_
        refine ld_in (b := b4) h (getwv' (by rw [St.len]; exact hlt)) ?_
        rw [o_addW]
        try rw [ix]
        refine store_sl (b := b1) h rfl (by simp [St.len]; omega) fun w h => ?_
        try rw [o_add]
        rw [i64_of (by omega) (by omega)]
        refine hag _ _ _ (by omega) ⟨i + 1, rfl, rfl, by omega, ?_⟩
        have e : (mix ks st b).list.getD i 0 = st.list.getD i 0 + (Go.Proofs.YtjeiojibnmfibaaDoor.rounds ks (sched b 64) st 64).list.getD i 0 := St.add_get _ _ hlt
        have e2 : (((mix ks st b).list.take i ++ st.list.drop i).map wv).set i (wv (st.list.getD i 0 + (Go.Proofs.YtjeiojibnmfibaaDoor.rounds ks (sched b 64) st 64).list.getD i 0)) = ((mix ks st b).list.take (i + 1) ++ st.list.drop (i + 1)).map wv := by
          rw [← List.map_set]
          congr 1
          refine take_drop_set (St.len _) (St.len _) hlt ?_
          rw [← e]
          have hl : i < (mix ks st b).list.length := by rw [St.len]; exact hlt
          simp [List.getD_eq_getElem?_getD, hl]
        rw [e2] at h
        exact h
      · have hi8 : i = 8 := by omega
        subst hi8
        have e : (mix ks st b).list.take 8 ++ st.list.drop 8 = (mix ks st b).list := rfl
        rw [e] at h
        refine ld_agg (b := b1) h (by simp [St.len]) ?_
        refine storeN_sl (b := b2) h (aggC_107).size (vs := (mix ks st b).list.map wv) (by simp [Value.cells]) (by simp [St.len]) (wv_one _) (by simp) fun w h => ?_
        have h : sat E w (pts b2 (.cells ((mix ks st b).list.map wv).toArray 107 (0, 0)) * (pts b1 (.cells ((mix ks st b).list.map wv).toArray 107 (0, 0)) * (pts b4 (.cells ((Go.Proofs.YtjeiojibnmfibaaDoor.rounds ks (sched b 64) st 64).list.map wv).toArray 107 (0, 0)) * (pts b3 (.cells ((sched b 64).map wv).toArray 121 (0, 0)) * H)))) := h
        exact res_agg (b := b2) h (by simp [St.len]) (hK _ h.drop.drop.drop.drop)
end Go.Proofs.YtjeiojibnmfibaaDoor
