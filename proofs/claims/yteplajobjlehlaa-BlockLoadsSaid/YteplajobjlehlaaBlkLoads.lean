/-
  BlockLoads: an image is a disk, or is refused; it stays: for every list of sizes and every byte the law returns true.
-/
import Derived.Test.YteplajobjlehlaaBlkP
import Derived.Test.YteplajobjlehlaaBlkV
import Derived.Test.YteplajobjlehlaaLaw
import Derived.Test.YteplajobjlehlaaRows
set_option linter.all false
set_option maxRecDepth 100000
namespace Go.Proofs.Yteplajobjlehlaa.Loads
open Go Hold Go.ChangeShapes Go.WideShapes Go.ChangeAt Go.RowKit
variable {E : World0} {w : World} {H R : HP} {K : Value → World → Prop}

/-- Is an image one of blocks? -/
def bad (L : List (List UInt8)) : Option Nat := if L.length < 1 ∨ 1024 < L.length then some 2 else if L.all (fun l => l.length == 256) then none else some 3

theorem Rds.len {v : Value} {n : Nat} {xs : List Value} (h : Rds H v n xs) (hs : sat E w H) : ∃ a c, v = .slice a n c := let ⟨a, c, e, _⟩ := h E w hs; ⟨a, c, e⟩

theorem isBad_spec {l : List UInt8} {v : Value} (hv : RdS (hp w) v l.length (l.map bv)) (k : K (.bool !(decide (l.length = 256))) w) : Calls prog 50 #[v] w (Ret K) := by
  obtain ⟨a, c, rfl, _⟩ := hv
  refine c50 ?_
  unfold B50
  simp only [↓o_nil, ↓o_field, ↓o_add, ↓o_sub, ↓o_mul, ↓o_lss, ↓o_leq, ↓o_gtr, ↓o_geq, ↓o_not, ↓o_pick, ↓o_eqInt, ↓o_neInt, ↓o_eqBool, ↓o_neBool, ↓o_eqPtr, ↓o_nePtr, ↓o_eqPtr', ↓o_eqSl, ↓o_neSl, ↓o_eqStr, ↓o_neStr, ↓o_len, ↓o_lenS, ↓o_min, ↓o_max, ↓o_extract, ↓o_convInt, ↓cd_true, ↓cd_false, ↓gate_tt, ↓gate_ff, ↓gate_tf, ↓gate_ft, ↓gate_undef, ↓pop_cons, ↓fin_nil, Option.isNone_none, Option.isNone_some, Bool.not_true, Bool.not_false, Nat.zero_add, decide_true, decide_false, if_true, if_false, Bool.false_eq_true, ↓reduceIte]
  have e : decide ((l.length : Int) = 256) = decide (l.length = 256) := by congr 1; apply propext; omega
  rw [e]
  exact k
theorem Index_spec (h : sat E w H) {v : Value} {L : List (List UInt8)} (hv : Rdd H v L) (hL : L.length ≤ 1024)
    (k : ∀ (n : Int) w', sat E w' H → (0 ≤ n ↔ ¬ L.all (fun l => l.length == 256) = true) → K (.int .i64 n) w') : Calls prog 58 #[v, .func (.func 50) #[] #[]] w (Ret K) := by
  obtain ⟨vs, hv, hvl, hva⟩ := hv
  obtain ⟨a, c, rfl, hc, hv, _⟩ := hv.shape h
  refine c58 ?_
  unfold B58
  simp only [↓o_nil, ↓o_field, ↓o_add, ↓o_sub, ↓o_mul, ↓o_lss, ↓o_leq, ↓o_gtr, ↓o_geq, ↓o_not, ↓o_pick, ↓o_eqInt, ↓o_neInt, ↓o_eqBool, ↓o_neBool, ↓o_eqPtr, ↓o_nePtr, ↓o_eqPtr', ↓o_eqSl, ↓o_neSl, ↓o_eqStr, ↓o_neStr, ↓o_len, ↓o_lenS, ↓o_min, ↓o_max, ↓o_extract, ↓o_convInt, ↓cd_true, ↓cd_false, ↓gate_tt, ↓gate_ff, ↓gate_tf, ↓gate_ft, ↓gate_undef, ↓pop_cons, ↓fin_nil, Option.isNone_none, Option.isNone_some, Bool.not_true, Bool.not_false, Nat.zero_add, decide_true, decide_false, if_true, if_false, Bool.false_eq_true, ↓reduceIte]
  refine lp_nat (fun n σ w => ∃ i : Nat, σ = [.int .i64 i] ∧ n = L.length - i ∧ i ≤ L.length ∧ (∀ j (hj : j < L.length), j < i → L[j].length = 256) ∧ sat E w H) L.length ⟨0, rfl, rfl, by omega, fun j _ hj => by omega, h⟩ ?_
  rintro n σ w again ⟨i, rfl, rfl, hi, hall, h⟩ hag
  simp only [↓o_nil, ↓o_field, ↓o_add, ↓o_sub, ↓o_mul, ↓o_lss, ↓o_leq, ↓o_gtr, ↓o_geq, ↓o_not, ↓o_pick, ↓o_eqInt, ↓o_neInt, ↓o_eqBool, ↓o_neBool, ↓o_eqPtr, ↓o_nePtr, ↓o_eqPtr', ↓o_eqSl, ↓o_neSl, ↓o_eqStr, ↓o_neStr, ↓o_len, ↓o_lenS, ↓o_min, ↓o_max, ↓o_extract, ↓o_convInt, ↓cd_true, ↓cd_false, ↓gate_tt, ↓gate_ff, ↓gate_tf, ↓gate_ft, ↓gate_undef, ↓pop_cons, ↓fin_nil, Option.isNone_none, Option.isNone_some, Bool.not_true, Bool.not_false, Nat.zero_add, decide_true, decide_false, if_true, if_false, Bool.false_eq_true, ↓reduceIte]
  refine cd_dec (fun hlt => ?_) (fun hge => ?_)
  · have hlt : i < L.length := by omega
    obtain ⟨b1, o1, rfl, hb1⟩ := win_cell (hv.win h) (j := i) (by omega)
    rw [o_index (by omega) (by omega)]
    simp only [Int.toNat_natCast, Nat.mul_one]
    refine ld_cell hb1 ?_
    refine oCall_body Try.func50 (by kernel_rfl) (by kernel_rfl) ?_
    refine isBad_spec (hva i vs[i] L[i] (List.getElem?_eq_getElem (by omega)) (List.getElem?_eq_getElem hlt) E w h) ?_
    by_cases hb : L[i].length = 256
    · simp only [hb, ↓o_nil, ↓o_field, ↓o_add, ↓o_sub, ↓o_mul, ↓o_lss, ↓o_leq, ↓o_gtr, ↓o_geq, ↓o_not, ↓o_pick, ↓o_eqInt, ↓o_neInt, ↓o_eqBool, ↓o_neBool, ↓o_eqPtr, ↓o_nePtr, ↓o_eqPtr', ↓o_eqSl, ↓o_neSl, ↓o_eqStr, ↓o_neStr, ↓o_len, ↓o_lenS, ↓o_min, ↓o_max, ↓o_extract, ↓o_convInt, ↓cd_true, ↓cd_false, ↓gate_tt, ↓gate_ff, ↓gate_tf, ↓gate_ft, ↓gate_undef, ↓pop_cons, ↓fin_nil, Option.isNone_none, Option.isNone_some, Bool.not_true, Bool.not_false, Nat.zero_add, decide_true, decide_false, if_true, if_false, Bool.false_eq_true, ↓reduceIte]
      rw [i64_of (by omega) (by omega)]
      refine hag _ _ _ (by omega) ⟨i + 1, rfl, rfl, by omega, fun j hj hji => ?_, h⟩
      rcases Nat.lt_or_ge j i with hh | hh
      · exact hall j hj hh
      · have : j = i := by omega
        subst this; exact hb
    · simp only [hb, ↓o_nil, ↓o_field, ↓o_add, ↓o_sub, ↓o_mul, ↓o_lss, ↓o_leq, ↓o_gtr, ↓o_geq, ↓o_not, ↓o_pick, ↓o_eqInt, ↓o_neInt, ↓o_eqBool, ↓o_neBool, ↓o_eqPtr, ↓o_nePtr, ↓o_eqPtr', ↓o_eqSl, ↓o_neSl, ↓o_eqStr, ↓o_neStr, ↓o_len, ↓o_lenS, ↓o_min, ↓o_max, ↓o_extract, ↓o_convInt, ↓cd_true, ↓cd_false, ↓gate_tt, ↓gate_ff, ↓gate_tf, ↓gate_ft, ↓gate_undef, ↓pop_cons, ↓fin_nil, Option.isNone_none, Option.isNone_some, Bool.not_true, Bool.not_false, Nat.zero_add, decide_true, decide_false, if_true, if_false, Bool.false_eq_true, ↓reduceIte]
      refine k i w h ⟨fun _ ha => hb ?_, fun _ => by omega⟩
      have := List.all_eq_true.1 ha L[i] (List.getElem_mem hlt)
      simpa using this
  · refine k (-1) w h ⟨fun hh => by omega, fun hh => absurd ?_ hh⟩
    refine List.all_eq_true.2 fun l hl => ?_
    obtain ⟨j, hj, rfl⟩ := List.mem_iff_getElem.1 hl
    simpa using hall j hj (by omega)

theorem Load_spec (h : sat E w H) {v : Value} {L : List (List UInt8)} (hv : Rdd H v L)
    (k0 : ∀ e w', bad L = some e → sat E w' H → K (.tuple #[.pointer none, .int .i64 e]) w')
    (k1 : ∀ d w', bad L = none → sat E w' (dsk d L [] * H) → K (.tuple #[.pointer (some ⟨d, 0, none⟩), .int .i64 0]) w') : Calls prog 32 #[v] w (Ret K) := by
  have hv0 := hv
  obtain ⟨vs, hv, hvl, hva⟩ := hv
  obtain ⟨a, c, rfl, hc, hv, _⟩ := hv.shape h
  refine c32 ?_
  unfold B32
  simp only [↓o_nil, ↓o_field, ↓o_add, ↓o_sub, ↓o_mul, ↓o_lss, ↓o_leq, ↓o_gtr, ↓o_geq, ↓o_not, ↓o_pick, ↓o_eqInt, ↓o_neInt, ↓o_eqBool, ↓o_neBool, ↓o_eqPtr, ↓o_nePtr, ↓o_eqPtr', ↓o_eqSl, ↓o_neSl, ↓o_eqStr, ↓o_neStr, ↓o_len, ↓o_lenS, ↓o_min, ↓o_max, ↓o_extract, ↓o_convInt, ↓cd_true, ↓cd_false, ↓gate_tt, ↓gate_ff, ↓gate_tf, ↓gate_ft, ↓gate_undef, ↓pop_cons, ↓fin_nil, Option.isNone_none, Option.isNone_some, Bool.not_true, Bool.not_false, Nat.zero_add, decide_true, decide_false, if_true, if_false, Bool.false_eq_true, ↓reduceIte]
  by_cases h1 : (L.length : Int) < 1
  · simp only [h1, ↓o_nil, ↓o_field, ↓o_add, ↓o_sub, ↓o_mul, ↓o_lss, ↓o_leq, ↓o_gtr, ↓o_geq, ↓o_not, ↓o_pick, ↓o_eqInt, ↓o_neInt, ↓o_eqBool, ↓o_neBool, ↓o_eqPtr, ↓o_nePtr, ↓o_eqPtr', ↓o_eqSl, ↓o_neSl, ↓o_eqStr, ↓o_neStr, ↓o_len, ↓o_lenS, ↓o_min, ↓o_max, ↓o_extract, ↓o_convInt, ↓cd_true, ↓cd_false, ↓gate_tt, ↓gate_ff, ↓gate_tf, ↓gate_ft, ↓gate_undef, ↓pop_cons, ↓fin_nil, Option.isNone_none, Option.isNone_some, Bool.not_true, Bool.not_false, Nat.zero_add, decide_true, decide_false, if_true, if_false, Bool.false_eq_true, ↓reduceIte]
    exact k0 2 w (by unfold bad; rw [if_pos (by omega)]) h
  · simp only [h1, ↓o_nil, ↓o_field, ↓o_add, ↓o_sub, ↓o_mul, ↓o_lss, ↓o_leq, ↓o_gtr, ↓o_geq, ↓o_not, ↓o_pick, ↓o_eqInt, ↓o_neInt, ↓o_eqBool, ↓o_neBool, ↓o_eqPtr, ↓o_nePtr, ↓o_eqPtr', ↓o_eqSl, ↓o_neSl, ↓o_eqStr, ↓o_neStr, ↓o_len, ↓o_lenS, ↓o_min, ↓o_max, ↓o_extract, ↓o_convInt, ↓cd_true, ↓cd_false, ↓gate_tt, ↓gate_ff, ↓gate_tf, ↓gate_ft, ↓gate_undef, ↓pop_cons, ↓fin_nil, Option.isNone_none, Option.isNone_some, Bool.not_true, Bool.not_false, Nat.zero_add, decide_true, decide_false, if_true, if_false, Bool.false_eq_true, ↓reduceIte]
    by_cases h2 : (1024 : Int) < L.length
    · simp only [h2, ↓o_nil, ↓o_field, ↓o_add, ↓o_sub, ↓o_mul, ↓o_lss, ↓o_leq, ↓o_gtr, ↓o_geq, ↓o_not, ↓o_pick, ↓o_eqInt, ↓o_neInt, ↓o_eqBool, ↓o_neBool, ↓o_eqPtr, ↓o_nePtr, ↓o_eqPtr', ↓o_eqSl, ↓o_neSl, ↓o_eqStr, ↓o_neStr, ↓o_len, ↓o_lenS, ↓o_min, ↓o_max, ↓o_extract, ↓o_convInt, ↓cd_true, ↓cd_false, ↓gate_tt, ↓gate_ff, ↓gate_tf, ↓gate_ft, ↓gate_undef, ↓pop_cons, ↓fin_nil, Option.isNone_none, Option.isNone_some, Bool.not_true, Bool.not_false, Nat.zero_add, decide_true, decide_false, if_true, if_false, Bool.false_eq_true, ↓reduceIte]
      exact k0 2 w (by unfold bad; rw [if_pos (by omega)]) h
    · simp only [h2, ↓o_nil, ↓o_field, ↓o_add, ↓o_sub, ↓o_mul, ↓o_lss, ↓o_leq, ↓o_gtr, ↓o_geq, ↓o_not, ↓o_pick, ↓o_eqInt, ↓o_neInt, ↓o_eqBool, ↓o_neBool, ↓o_eqPtr, ↓o_nePtr, ↓o_eqPtr', ↓o_eqSl, ↓o_neSl, ↓o_eqStr, ↓o_neStr, ↓o_len, ↓o_lenS, ↓o_min, ↓o_max, ↓o_extract, ↓o_convInt, ↓cd_true, ↓cd_false, ↓gate_tt, ↓gate_ff, ↓gate_tf, ↓gate_ft, ↓gate_undef, ↓pop_cons, ↓fin_nil, Option.isNone_none, Option.isNone_some, Bool.not_true, Bool.not_false, Nat.zero_add, decide_true, decide_false, if_true, if_false, Bool.false_eq_true, ↓reduceIte]
      refine c49 ?_
      unfold B49
      refine Index_spec h hv0 (by omega) fun n w h hn => ?_
      simp only [↓o_nil, ↓o_field, ↓o_add, ↓o_sub, ↓o_mul, ↓o_lss, ↓o_leq, ↓o_gtr, ↓o_geq, ↓o_not, ↓o_pick, ↓o_eqInt, ↓o_neInt, ↓o_eqBool, ↓o_neBool, ↓o_eqPtr, ↓o_nePtr, ↓o_eqPtr', ↓o_eqSl, ↓o_neSl, ↓o_eqStr, ↓o_neStr, ↓o_len, ↓o_lenS, ↓o_min, ↓o_max, ↓o_extract, ↓o_convInt, ↓cd_true, ↓cd_false, ↓gate_tt, ↓gate_ff, ↓gate_tf, ↓gate_ft, ↓gate_undef, ↓pop_cons, ↓fin_nil, Option.isNone_none, Option.isNone_some, Bool.not_true, Bool.not_false, Nat.zero_add, decide_true, decide_false, if_true, if_false, Bool.false_eq_true, ↓reduceIte]
      by_cases h3 : 0 ≤ n
      · simp only [h3, ↓o_nil, ↓o_field, ↓o_add, ↓o_sub, ↓o_mul, ↓o_lss, ↓o_leq, ↓o_gtr, ↓o_geq, ↓o_not, ↓o_pick, ↓o_eqInt, ↓o_neInt, ↓o_eqBool, ↓o_neBool, ↓o_eqPtr, ↓o_nePtr, ↓o_eqPtr', ↓o_eqSl, ↓o_neSl, ↓o_eqStr, ↓o_neStr, ↓o_len, ↓o_lenS, ↓o_min, ↓o_max, ↓o_extract, ↓o_convInt, ↓cd_true, ↓cd_false, ↓gate_tt, ↓gate_ff, ↓gate_tf, ↓gate_ft, ↓gate_undef, ↓pop_cons, ↓fin_nil, Option.isNone_none, Option.isNone_some, Bool.not_true, Bool.not_false, Nat.zero_add, decide_true, decide_false, if_true, if_false, Bool.false_eq_true, ↓reduceIte]
        exact k0 3 w (by unfold bad; rw [if_neg (by omega), if_neg (hn.1 h3)]) h
      · simp only [h3, ↓o_nil, ↓o_field, ↓o_add, ↓o_sub, ↓o_mul, ↓o_lss, ↓o_leq, ↓o_gtr, ↓o_geq, ↓o_not, ↓o_pick, ↓o_eqInt, ↓o_neInt, ↓o_eqBool, ↓o_neBool, ↓o_eqPtr, ↓o_nePtr, ↓o_eqPtr', ↓o_eqSl, ↓o_neSl, ↓o_eqStr, ↓o_neStr, ↓o_len, ↓o_lenS, ↓o_min, ↓o_max, ↓o_extract, ↓o_convInt, ↓cd_true, ↓cd_false, ↓gate_tt, ↓gate_ff, ↓gate_tf, ↓gate_ft, ↓gate_undef, ↓pop_cons, ↓fin_nil, Option.isNone_none, Option.isNone_some, Bool.not_true, Bool.not_false, Nat.zero_add, decide_true, decide_false, if_true, if_false, Bool.false_eq_true, ↓reduceIte]
        have hall : L.all (fun l => l.length == 256) = true := Classical.byContradiction fun hh => h3 (hn.2 hh)
        refine copied_spec h hv0 (by omega) (fun l hl => by have := List.all_eq_true.1 hall l hl; simp at this; omega) fun ov us w _ h => ?_
        obtain ⟨ao, co, rfl, _, _, _⟩ := osl_shape h
        refine pvv_of (v := .agg #[.slice ao L.length co, .slice none 0 0, .int .i64 0]) (fun _ => by kernel_rfl) ?_
        refine box_sl h fun d w h => ?_
        have h : sat E w (pts d (.cells [Value.slice ao L.length co, .slice none 0 0, .int .i64 0].toArray 79 (0, 0)) * _) := h
        refine k1 d w (by unfold bad; rw [if_neg (by omega), if_pos hall]) ?_
        have h := osl_nil h 81 2
        have h : sat E _ (pers (immAll (List.map (·.2) ([] : List (Int × Value))) (List.map (·.2) ([] : List (Int × List UInt8)))) * _) := immAll_nil h
        exact dsk_shut (lv := .slice ao L.length co) (wv := .slice none 0 0) (vs := us) (ws := []) d L [] rfl h
theorem rLoad_spec (h : sat E w H) {v : Value} {L : List (List UInt8)} (hv : Rdd H v L)
    (k0 : ∀ e w', bad L = some e → sat E w' H → K (.tuple #[.pointer none, .int .i64 e]) w')
    (k1 : ∀ r w', bad L = none → sat E w' (rdsk r L [] * H) → K (.tuple #[.pointer (some ⟨r, 0, none⟩), .int .i64 0]) w') : Calls prog 33 #[v] w (Ret K) := by
  have hv0 := hv
  obtain ⟨vs, hv, hvl, hva⟩ := hv
  obtain ⟨a, c, rfl, hc, hv, _⟩ := hv.shape h
  refine c33 ?_
  unfold B33
  simp only [↓o_nil, ↓o_field, ↓o_add, ↓o_sub, ↓o_mul, ↓o_lss, ↓o_leq, ↓o_gtr, ↓o_geq, ↓o_not, ↓o_pick, ↓o_eqInt, ↓o_neInt, ↓o_eqBool, ↓o_neBool, ↓o_eqPtr, ↓o_nePtr, ↓o_eqPtr', ↓o_eqSl, ↓o_neSl, ↓o_eqStr, ↓o_neStr, ↓o_len, ↓o_lenS, ↓o_min, ↓o_max, ↓o_extract, ↓o_convInt, ↓cd_true, ↓cd_false, ↓gate_tt, ↓gate_ff, ↓gate_tf, ↓gate_ft, ↓gate_undef, ↓pop_cons, ↓fin_nil, Option.isNone_none, Option.isNone_some, Bool.not_true, Bool.not_false, Nat.zero_add, decide_true, decide_false, if_true, if_false, Bool.false_eq_true, ↓reduceIte]
  by_cases h1 : (L.length : Int) < 1
  · simp only [h1, ↓o_nil, ↓o_field, ↓o_add, ↓o_sub, ↓o_mul, ↓o_lss, ↓o_leq, ↓o_gtr, ↓o_geq, ↓o_not, ↓o_pick, ↓o_eqInt, ↓o_neInt, ↓o_eqBool, ↓o_neBool, ↓o_eqPtr, ↓o_nePtr, ↓o_eqPtr', ↓o_eqSl, ↓o_neSl, ↓o_eqStr, ↓o_neStr, ↓o_len, ↓o_lenS, ↓o_min, ↓o_max, ↓o_extract, ↓o_convInt, ↓cd_true, ↓cd_false, ↓gate_tt, ↓gate_ff, ↓gate_tf, ↓gate_ft, ↓gate_undef, ↓pop_cons, ↓fin_nil, Option.isNone_none, Option.isNone_some, Bool.not_true, Bool.not_false, Nat.zero_add, decide_true, decide_false, if_true, if_false, Bool.false_eq_true, ↓reduceIte]
    exact k0 2 w (by unfold bad; rw [if_pos (by omega)]) h
  · simp only [h1, ↓o_nil, ↓o_field, ↓o_add, ↓o_sub, ↓o_mul, ↓o_lss, ↓o_leq, ↓o_gtr, ↓o_geq, ↓o_not, ↓o_pick, ↓o_eqInt, ↓o_neInt, ↓o_eqBool, ↓o_neBool, ↓o_eqPtr, ↓o_nePtr, ↓o_eqPtr', ↓o_eqSl, ↓o_neSl, ↓o_eqStr, ↓o_neStr, ↓o_len, ↓o_lenS, ↓o_min, ↓o_max, ↓o_extract, ↓o_convInt, ↓cd_true, ↓cd_false, ↓gate_tt, ↓gate_ff, ↓gate_tf, ↓gate_ft, ↓gate_undef, ↓pop_cons, ↓fin_nil, Option.isNone_none, Option.isNone_some, Bool.not_true, Bool.not_false, Nat.zero_add, decide_true, decide_false, if_true, if_false, Bool.false_eq_true, ↓reduceIte]
    by_cases h2 : (1024 : Int) < L.length
    · simp only [h2, ↓o_nil, ↓o_field, ↓o_add, ↓o_sub, ↓o_mul, ↓o_lss, ↓o_leq, ↓o_gtr, ↓o_geq, ↓o_not, ↓o_pick, ↓o_eqInt, ↓o_neInt, ↓o_eqBool, ↓o_neBool, ↓o_eqPtr, ↓o_nePtr, ↓o_eqPtr', ↓o_eqSl, ↓o_neSl, ↓o_eqStr, ↓o_neStr, ↓o_len, ↓o_lenS, ↓o_min, ↓o_max, ↓o_extract, ↓o_convInt, ↓cd_true, ↓cd_false, ↓gate_tt, ↓gate_ff, ↓gate_tf, ↓gate_ft, ↓gate_undef, ↓pop_cons, ↓fin_nil, Option.isNone_none, Option.isNone_some, Bool.not_true, Bool.not_false, Nat.zero_add, decide_true, decide_false, if_true, if_false, Bool.false_eq_true, ↓reduceIte]
      exact k0 2 w (by unfold bad; rw [if_pos (by omega)]) h
    · simp only [h2, ↓o_nil, ↓o_field, ↓o_add, ↓o_sub, ↓o_mul, ↓o_lss, ↓o_leq, ↓o_gtr, ↓o_geq, ↓o_not, ↓o_pick, ↓o_eqInt, ↓o_neInt, ↓o_eqBool, ↓o_neBool, ↓o_eqPtr, ↓o_nePtr, ↓o_eqPtr', ↓o_eqSl, ↓o_neSl, ↓o_eqStr, ↓o_neStr, ↓o_len, ↓o_lenS, ↓o_min, ↓o_max, ↓o_extract, ↓o_convInt, ↓cd_true, ↓cd_false, ↓gate_tt, ↓gate_ff, ↓gate_tf, ↓gate_ft, ↓gate_undef, ↓pop_cons, ↓fin_nil, Option.isNone_none, Option.isNone_some, Bool.not_true, Bool.not_false, Nat.zero_add, decide_true, decide_false, if_true, if_false, Bool.false_eq_true, ↓reduceIte]
      refine lp_nat (fun n σ w => ∃ i : Nat, σ = [.int .i64 i] ∧ n = L.length - i ∧ i ≤ L.length ∧ (∀ j (hj : j < L.length), j < i → L[j].length = 256) ∧ sat E w H) L.length ⟨0, rfl, rfl, by omega, fun j _ hj => by omega, h⟩ ?_
      rintro n σ w again ⟨i, rfl, rfl, hi, hall, h⟩ hag
      simp only [↓o_nil, ↓o_field, ↓o_add, ↓o_sub, ↓o_mul, ↓o_lss, ↓o_leq, ↓o_gtr, ↓o_geq, ↓o_not, ↓o_pick, ↓o_eqInt, ↓o_neInt, ↓o_eqBool, ↓o_neBool, ↓o_eqPtr, ↓o_nePtr, ↓o_eqPtr', ↓o_eqSl, ↓o_neSl, ↓o_eqStr, ↓o_neStr, ↓o_len, ↓o_lenS, ↓o_min, ↓o_max, ↓o_extract, ↓o_convInt, ↓cd_true, ↓cd_false, ↓gate_tt, ↓gate_ff, ↓gate_tf, ↓gate_ft, ↓gate_undef, ↓pop_cons, ↓fin_nil, Option.isNone_none, Option.isNone_some, Bool.not_true, Bool.not_false, Nat.zero_add, decide_true, decide_false, if_true, if_false, Bool.false_eq_true, ↓reduceIte]
      refine cd_dec (fun hlt => ?_) (fun hge => ?_)
      · have hlt : i < L.length := by omega
        obtain ⟨b1, o1, rfl, hb1⟩ := win_cell (hv.win h) (j := i) (by omega)
        rw [o_index (by omega) (by omega)]
        simp only [Int.toNat_natCast, Nat.mul_one]
        refine ld_cell hb1 ?_
        obtain ⟨a3, c3, e3, _⟩ := hva i vs[i] L[i] (List.getElem?_eq_getElem (by omega)) (List.getElem?_eq_getElem hlt) E w h
        rw [e3]
        simp only [↓o_nil, ↓o_field, ↓o_add, ↓o_sub, ↓o_mul, ↓o_lss, ↓o_leq, ↓o_gtr, ↓o_geq, ↓o_not, ↓o_pick, ↓o_eqInt, ↓o_neInt, ↓o_eqBool, ↓o_neBool, ↓o_eqPtr, ↓o_nePtr, ↓o_eqPtr', ↓o_eqSl, ↓o_neSl, ↓o_eqStr, ↓o_neStr, ↓o_len, ↓o_lenS, ↓o_min, ↓o_max, ↓o_extract, ↓o_convInt, ↓cd_true, ↓cd_false, ↓gate_tt, ↓gate_ff, ↓gate_tf, ↓gate_ft, ↓gate_undef, ↓pop_cons, ↓fin_nil, Option.isNone_none, Option.isNone_some, Bool.not_true, Bool.not_false, Nat.zero_add, decide_true, decide_false, if_true, if_false, Bool.false_eq_true, ↓reduceIte]
        by_cases hb : L[i].length = 256
        · have hb' : (L[i].length : Int) = 256 := by omega
          simp only [hb', ↓o_nil, ↓o_field, ↓o_add, ↓o_sub, ↓o_mul, ↓o_lss, ↓o_leq, ↓o_gtr, ↓o_geq, ↓o_not, ↓o_pick, ↓o_eqInt, ↓o_neInt, ↓o_eqBool, ↓o_neBool, ↓o_eqPtr, ↓o_nePtr, ↓o_eqPtr', ↓o_eqSl, ↓o_neSl, ↓o_eqStr, ↓o_neStr, ↓o_len, ↓o_lenS, ↓o_min, ↓o_max, ↓o_extract, ↓o_convInt, ↓cd_true, ↓cd_false, ↓gate_tt, ↓gate_ff, ↓gate_tf, ↓gate_ft, ↓gate_undef, ↓pop_cons, ↓fin_nil, Option.isNone_none, Option.isNone_some, Bool.not_true, Bool.not_false, Nat.zero_add, decide_true, decide_false, if_true, if_false, Bool.false_eq_true, ↓reduceIte]
          rw [i64_of (by omega) (by omega)]
          refine hag _ _ _ (by omega) ⟨i + 1, rfl, rfl, by omega, fun j hj hji => ?_, h⟩
          rcases Nat.lt_or_ge j i with hh | hh
          · exact hall j hj hh
          · have : j = i := by omega
            subst this; exact hb
        · have hb' : ¬ (L[i].length : Int) = 256 := by omega
          simp only [hb', ↓o_nil, ↓o_field, ↓o_add, ↓o_sub, ↓o_mul, ↓o_lss, ↓o_leq, ↓o_gtr, ↓o_geq, ↓o_not, ↓o_pick, ↓o_eqInt, ↓o_neInt, ↓o_eqBool, ↓o_neBool, ↓o_eqPtr, ↓o_nePtr, ↓o_eqPtr', ↓o_eqSl, ↓o_neSl, ↓o_eqStr, ↓o_neStr, ↓o_len, ↓o_lenS, ↓o_min, ↓o_max, ↓o_extract, ↓o_convInt, ↓cd_true, ↓cd_false, ↓gate_tt, ↓gate_ff, ↓gate_tf, ↓gate_ft, ↓gate_undef, ↓pop_cons, ↓fin_nil, Option.isNone_none, Option.isNone_some, Bool.not_true, Bool.not_false, Nat.zero_add, decide_true, decide_false, if_true, if_false, Bool.false_eq_true, ↓reduceIte]
          refine k0 3 w ?_ h
          unfold bad
          rw [if_neg (by omega), if_neg]
          intro ha
          have := List.all_eq_true.1 ha L[i] (List.getElem_mem hlt)
          exact hb (by simpa using this)
      · have hall' : L.all (fun l => l.length == 256) = true := by
          refine List.all_eq_true.2 fun l hl => ?_
          obtain ⟨j, hj, rfl⟩ := List.mem_iff_getElem.1 hl
          simpa using hall j hj (by omega)
        refine CopyAll_spec h hv0 (by omega) (fun l hl => by have := List.all_eq_true.1 hall' l hl; simp at this; omega) fun ov us w h => ?_
        obtain ⟨ao, co, rfl, _, _, _⟩ := osl_shape h
        refine pvv_of (v := .agg #[.slice ao L.length co, .slice none 0 0]) (fun _ => by kernel_rfl) ?_
        refine box_sl h fun d w h => ?_
        have h : sat E w (pts d (.cells [Value.slice ao L.length co, .slice none 0 0].toArray 50 (0, 0)) * _) := h
        refine k1 d w (by unfold bad; rw [if_neg (by omega), if_pos hall']) ?_
        have h := osl_nil h 52 2
        have h : sat E _ (pers (immAll (List.map (·.2) ([] : List (Int × Value))) (List.map (·.2) ([] : List (Int × List UInt8)))) * _) := immAll_nil h
        exact rdsk_shut (fv := .slice ao L.length co) (lv := .slice none 0 0) (vs := us) (ws := []) d L [] rfl rfl rfl h

/-! ### Rows of one's own -/
def rows : List Value → List (List Value) → HP
  | v :: vs, xs :: xss => osl 5 1 v xs.length xs * rows vs xss
  | _, _ => Hold.emp
theorem rows_set : ∀ (vs : List Value) (xss : List (List Value)) (i : Nat) (h1 : i < vs.length) (h2 : i < xss.length) (xs : List Value), rows vs (xss.set i xs) = osl 5 1 vs[i] xs.length xs * rows (vs.eraseIdx i) (xss.eraseIdx i)
  | v :: vs, ys :: xss, 0, _, _, xs => rfl
  | v :: vs, ys :: xss, i + 1, h1, h2, xs => by
    have := rows_set vs xss i (by simpa using h1) (by simpa using h2) xs
    simp only [List.set_cons_succ, rows, List.getElem_cons_succ, List.eraseIdx_cons_succ, this]
    exact star_left_comm _ _ _
  | [], _, i, h1, _, _ => by simp at h1
  | _ :: _, [], i, _, h2, _ => by simp at h2
theorem rows_at (vs : List Value) (xss : List (List Value)) (i : Nat) (h1 : i < vs.length) (h2 : i < xss.length) : rows vs xss = osl 5 1 vs[i] xss[i].length xss[i] * rows (vs.eraseIdx i) (xss.eraseIdx i) := by
  have := rows_set vs xss i h1 h2 xss[i]
  rwa [List.set_getElem_self] at this
theorem rows_snoc : ∀ (vs : List Value) (xss : List (List Value)) (v : Value) (xs : List Value), vs.length = xss.length → rows (vs ++ [v]) (xss ++ [xs]) = rows vs xss * osl 5 1 v xs.length xs
  | [], [], v, xs, _ => by simp [rows, star_emp, emp_star]
  | u :: vs, ys :: xss, v, xs, h => by
    have := rows_snoc vs xss v xs (by simpa using h)
    simp only [List.cons_append, rows, this, star_assoc]
  | [], _ :: _, _, _, h => by simp at h
  | _ :: _, [], _, _, h => by simp at h
def bcells (L : List (List UInt8)) : List (List Value) := L.map fun l => l.map bv
theorem bcells_length (L : List (List UInt8)) : (bcells L).length = L.length := by simp [bcells]
theorem rows_rds (vs : List Value) (L : List (List UInt8)) (i : Nat) (u : Value) (l : List UInt8) (h1 : vs[i]? = some u) (h2 : L[i]? = some l) : Rds (rows vs (bcells L)) u l.length (l.map bv) := by
  obtain ⟨a1, rfl⟩ := List.getElem?_eq_some_iff.1 h1
  obtain ⟨a2, rfl⟩ := List.getElem?_eq_some_iff.1 h2
  rw [rows_at vs (bcells L) i a1 (by rw [bcells_length]; exact a2)]
  have := Rds.own (H := osl 5 1 vs[i] ((bcells L)[i]'(by rw [bcells_length]; exact a2)).length ((bcells L)[i]'(by rw [bcells_length]; exact a2)) * rows (vs.eraseIdx i) ((bcells L).eraseIdx i)) (v := vs[i])
  simpa [bcells] using this

/-- The image's rows, written over. -/
theorem wr_loop {rest : World → Prop} {H R R1 : HP} {iv : Value} {m : Nat} {vs : List Value} {xss : List (List Value)} (x : Int) (hm : m ≤ 1000) (hs : ∀ xs ∈ xss, xs.length ≤ 1000) (hl : vs.length = m) (hl2 : xss.length = m) (h : sat E w H) [s1 : OwnS H iv 32 1 m vs R1] [s2 : Split R1 (rows vs xss) R]
    (k : ∀ w', sat E w' R → rest w') :
    lp (fun σ w again_35 => pop σ fun i_34 σ => fin σ <|
      pv prog (oBi .len #[30] 3 #[false] #[iv]) w fun t_36 w =>
      pvv prog (binOp .lss 3 i_34 t_36) w fun t_37 w =>
      cd t_37 (
        lp (fun σ w again_39 => pop σ fun k_38 σ => fin σ <|
          pvv prog (Instr.indexAt 30 iv i_34) w fun t_40 w =>
          ldv prog (Instr.loadAt 32 t_40) w fun t_41 w =>
          pv prog (oBi .len #[32] 3 #[false] #[t_41]) w fun t_42 w =>
          pvv prog (binOp .lss 3 k_38 t_42) w fun t_43 w =>
          cd t_43 (
            pvv prog (Instr.indexAt 30 iv i_34) w fun t_44 w =>
            ldv prog (Instr.loadAt 32 t_44) w fun t_45 w =>
            pvv prog (Instr.indexAt 32 t_45 k_38) w fun t_47 w =>
            efu prog (Instr.storeAt 5 t_47 (.int .u8 (IntKind.u8.wrap (x + 1)))) w fun u_48 w =>
            pvv prog (binOp .add 3 k_38 (.int .i64 1)) w fun t_49 w =>
            again_39 [t_49] w) <|
          pvv prog (binOp .add 3 i_34 (.int .i64 1)) w fun t_50 w =>
          again_35 [t_50] w) [(.int .i64 0)] w) <|
      rest w) [(.int .i64 0)] w := by
  have h := h.perm s1.eq
  rw [s2.eq] at h
  obtain ⟨a, c, rfl, hc, hvl, ha⟩ := osl_shape h
  refine lp_nat (fun n σ w => ∃ (i : Nat) (xss : List (List Value)), σ = [.int .i64 i] ∧ n = m - i ∧ i ≤ m ∧ xss.length = m ∧ (∀ xs ∈ xss, xs.length ≤ 1000) ∧
    sat E w (osl 32 1 (.slice a m c) m vs * (rows vs xss * R))) m ⟨0, xss, rfl, rfl, by omega, hl2, hs, h⟩ ?_
  rintro n σ w again ⟨i, xss, rfl, rfl, hi, hl2, hs, h⟩ hag
  simp only [↓o_nil, ↓o_field, ↓o_add, ↓o_sub, ↓o_mul, ↓o_lss, ↓o_leq, ↓o_gtr, ↓o_geq, ↓o_not, ↓o_pick, ↓o_eqInt, ↓o_neInt, ↓o_eqBool, ↓o_neBool, ↓o_eqPtr, ↓o_nePtr, ↓o_eqPtr', ↓o_eqSl, ↓o_neSl, ↓o_eqStr, ↓o_neStr, ↓o_len, ↓o_lenS, ↓o_min, ↓o_max, ↓o_extract, ↓o_convInt, ↓cd_true, ↓cd_false, ↓gate_tt, ↓gate_ff, ↓gate_tf, ↓gate_ft, ↓gate_undef, ↓pop_cons, ↓fin_nil, Option.isNone_none, Option.isNone_some, Bool.not_true, Bool.not_false, Nat.zero_add, decide_true, decide_false, if_true, if_false, Bool.false_eq_true, ↓reduceIte]
  refine cd_dec (fun hlt => ?_) (fun hge => ?_)
  · have hlt : i < m := by omega
    obtain ⟨ba, rfl⟩ := ha (by omega)
    rw [rows_at vs xss i (by omega) (by omega)] at h
    have hlen := hs xss[i] (List.getElem_mem (by omega))
    refine lp_nat (fun n σ w => ∃ (j : Nat) (xs : List Value), σ = [.int .i64 j] ∧ n = xss[i].length - j ∧ j ≤ xss[i].length ∧ xs.length = xss[i].length ∧
      sat E w (osl 32 1 (.slice (some ⟨ba, 0, none⟩) m c) m vs * (osl 5 1 vs[i] xss[i].length xs * rows (vs.eraseIdx i) (xss.eraseIdx i) * R))) xss[i].length ⟨0, _, rfl, rfl, by omega, rfl, h⟩ ?_
    rintro n σ w again2 ⟨j, xs, rfl, rfl, hj, hxs, h⟩ hag2
    have hcell : ∀ {w : World}, sat E w (osl 32 1 (.slice (some ⟨ba, 0, none⟩) m c) m vs * (osl 5 1 vs[i] xss[i].length xs * rows (vs.eraseIdx i) (xss.eraseIdx i) * R)) → w.cell? ⟨ba, i, none⟩ = some vs[i] := fun {w} h => by
      have := (Rds.own (v := .slice (some ⟨ba, 0, none⟩) m c) |>.win h).cell ba 0 rfl i _ (List.getElem?_eq_getElem (by omega))
      simpa using this
    obtain ⟨av, cv, ev, hcv, _, hav⟩ := osl_shape (h.owns vs[i])
    simp only [↓o_nil, ↓o_field, ↓o_add, ↓o_sub, ↓o_mul, ↓o_lss, ↓o_leq, ↓o_gtr, ↓o_geq, ↓o_not, ↓o_pick, ↓o_eqInt, ↓o_neInt, ↓o_eqBool, ↓o_neBool, ↓o_eqPtr, ↓o_nePtr, ↓o_eqPtr', ↓o_eqSl, ↓o_neSl, ↓o_eqStr, ↓o_neStr, ↓o_len, ↓o_lenS, ↓o_min, ↓o_max, ↓o_extract, ↓o_convInt, ↓cd_true, ↓cd_false, ↓gate_tt, ↓gate_ff, ↓gate_tf, ↓gate_ft, ↓gate_undef, ↓pop_cons, ↓fin_nil, Option.isNone_none, Option.isNone_some, Bool.not_true, Bool.not_false, Nat.zero_add, decide_true, decide_false, if_true, if_false, Bool.false_eq_true, ↓reduceIte]
    rw [o_index (by omega) (by omega)]
    simp only [Int.toNat_natCast, Nat.mul_one, Nat.zero_add]
    refine ld_cell (hcell h) ?_
    rw [ev]
    simp only [↓o_nil, ↓o_field, ↓o_add, ↓o_sub, ↓o_mul, ↓o_lss, ↓o_leq, ↓o_gtr, ↓o_geq, ↓o_not, ↓o_pick, ↓o_eqInt, ↓o_neInt, ↓o_eqBool, ↓o_neBool, ↓o_eqPtr, ↓o_nePtr, ↓o_eqPtr', ↓o_eqSl, ↓o_neSl, ↓o_eqStr, ↓o_neStr, ↓o_len, ↓o_lenS, ↓o_min, ↓o_max, ↓o_extract, ↓o_convInt, ↓cd_true, ↓cd_false, ↓gate_tt, ↓gate_ff, ↓gate_tf, ↓gate_ft, ↓gate_undef, ↓pop_cons, ↓fin_nil, Option.isNone_none, Option.isNone_some, Bool.not_true, Bool.not_false, Nat.zero_add, decide_true, decide_false, if_true, if_false, Bool.false_eq_true, ↓reduceIte]
    refine cd_dec (fun hjl => ?_) (fun hjl => ?_)
    · have hjl : j < xss[i].length := by omega
      obtain ⟨bv2, rfl⟩ := hav (by omega)
      rw [o_index (by omega) (by omega)]
      simp only [Int.toNat_natCast, Nat.mul_one, Nat.zero_add]
      refine ld_cell (hcell h) ?_
      rw [ev]
      rw [o_index (by omega) (by omega)]
      simp only [Int.toNat_natCast, Nat.mul_one, Nat.zero_add]
      rw [ev] at h
      refine osl_store h (c := cv) hjl rfl fun w h => ?_
      rw [i64_of (by omega) (by omega)]
      rw [← ev] at h
      exact hag2 _ _ _ (by omega) ⟨j + 1, xs.set j (.int .u8 (IntKind.u8.wrap (x + 1))), rfl, rfl, by omega, by simpa using hxs, h.perm (by ac_rfl)⟩
    · rw [i64_of (by omega) (by omega)]
      refine hag _ _ _ (by omega) ⟨i + 1, xss.set i xs, rfl, rfl, by omega, by simpa using hl2, fun ys hy => ?_, ?_⟩
      · rcases List.mem_or_eq_of_mem_set hy with hy | rfl
        · exact hs ys hy
        · omega
      · rw [rows_set vs xss i (by omega) (by omega), hxs]
        exact h
  · exact k w h.drop.drop

theorem rds_nil {H : HP} : Rds H (.slice none 0 0) 0 [] := fun E w _ => ⟨none, 0, rfl, Nat.le_refl _, .inl rfl⟩
theorem rdd_nil {H : HP} : Rdd H (.slice none 0 0) [] := ⟨[], rds_nil, rfl, fun i u l h => by simp at h⟩
theorem rdd_of2 (h : sat E w H) {lv : Value} {R1 R2 : HP} (us : List Value) (L : List (List UInt8)) [s1 : OwnS H lv 32 1 L.length us R1] [s2 : Split H (pers (immAll us L)) R2] : Rdd H lv L :=
  ⟨us, Rds.own, ((h.split (pers (immAll us L))).pers_get).1, fun i u l h1 h2 => Rds.under (immAll_rds h1 h2)⟩
theorem Count_nil (k : K (.int .i64 0) w) : Calls prog 22 #[.pointer none] w (Ret K) := by
  refine c22 ?_
  unfold B22
  simp only [↓o_nil, ↓o_field, ↓o_add, ↓o_sub, ↓o_mul, ↓o_lss, ↓o_leq, ↓o_gtr, ↓o_geq, ↓o_not, ↓o_pick, ↓o_eqInt, ↓o_neInt, ↓o_eqBool, ↓o_neBool, ↓o_eqPtr, ↓o_nePtr, ↓o_eqPtr', ↓o_eqSl, ↓o_neSl, ↓o_eqStr, ↓o_neStr, ↓o_len, ↓o_lenS, ↓o_min, ↓o_max, ↓o_extract, ↓o_convInt, ↓cd_true, ↓cd_false, ↓gate_tt, ↓gate_ff, ↓gate_tf, ↓gate_ft, ↓gate_undef, ↓pop_cons, ↓fin_nil, Option.isNone_none, Option.isNone_some, Bool.not_true, Bool.not_false, Nat.zero_add, decide_true, decide_false, if_true, if_false, Bool.false_eq_true, ↓reduceIte]
  exact k
theorem Rdd.under2 {H0 H1 R1 : HP} {v : Value} {L : List (List UInt8)} (h : Rdd H1 v L) [s : Split H0 H1 R1] : Rdd H0 v L := Rdd.under h
theorem tail_spec {im : Value} {m : Nat} {vs : List Value} {L : List (List UInt8)} (x : UInt8) (hm : m ≤ 30) (hvs : vs.length = m) (hL : L.length = m) (hl3 : ∀ l ∈ L, l.length ≤ 300)
    (h : sat E w (osl 32 1 im m vs * (rows vs (bcells L) * H))) (k : ∀ w', sat E w' H → K (.bool true) w') :
    Calls prog 32 #[im] w (Ret fun t_15 w =>
    pvv prog (Instr.extract t_15 0) w fun t_16 w =>
    pvv prog (Instr.extract t_15 1) w fun t_17 w =>
    Calls prog 33 #[im] w (Ret fun t_18 w =>
    pvv prog (Instr.extract t_18 0) w fun t_19 w =>
    pvv prog (Instr.extract t_18 1) w fun t_20 w =>
    Calls prog 13 #[] w (Ret fun t_21 w =>
    pvv prog (Op.unary .not t_21) w fun t_22 w =>
    gate (some (t_22, false)) (fun K => K t_17 w) w fun t_23 w =>
    gate (some (t_22, false)) (fun K => K t_20 w) w fun t_24 w =>
    gate (some (t_22, false)) (fun K => pvv prog (oEq .neq 34 (.tmp 47) (.tmp 48) t_23 t_24) w K) w fun t_25 w =>
    pv prog (oPick t_22 (.bool true) t_25) w fun t_26 w =>
    gate (some (t_26, false)) (fun K => K t_16 w) w fun t_27 w =>
    gate (some (t_26, false)) (fun K => pvv prog (oEq .eql 25 (.tmp 52) (.const (.pointer none)) t_27 (.pointer none)) w K) w fun t_28 w =>
    gate (some (t_26, false)) (fun K => K t_19 w) w fun t_29 w =>
    gate (some (t_26, false)) (fun K => pvv prog (oEq .eql 26 (.tmp 54) (.const (.pointer none)) t_29 (.pointer none)) w K) w fun t_30 w =>
    gate (some (t_26, false)) (fun K => pvv prog (oEq .neq 4 (.tmp 53) (.tmp 55) t_28 t_30) w K) w fun t_31 w =>
    pv prog (oPick t_26 (.bool true) t_31) w fun t_32 w =>
    cd t_32 (
      K (.bool false) w) <|
    Calls prog 28 #[t_19] w (Ret fun t_33 w =>
    lp (fun σ w again_35 => pop σ fun i_34 σ => fin σ <|
      pv prog (oBi .len #[30] 3 #[false] #[im]) w fun t_36 w =>
      pvv prog (binOp .lss 3 i_34 t_36) w fun t_37 w =>
      cd t_37 (
        lp (fun σ w again_39 => pop σ fun k_38 σ => fin σ <|
          pvv prog (Instr.indexAt 30 im i_34) w fun t_40 w =>
          ldv prog (Instr.loadAt 32 t_40) w fun t_41 w =>
          pv prog (oBi .len #[32] 3 #[false] #[t_41]) w fun t_42 w =>
          pvv prog (binOp .lss 3 k_38 t_42) w fun t_43 w =>
          cd t_43 (
            pvv prog (Instr.indexAt 30 im i_34) w fun t_44 w =>
            ldv prog (Instr.loadAt 32 t_44) w fun t_45 w =>
            pvv prog (binOp .add 5 (.int .u8 x.toNat) (.int .u8 1)) w fun t_46 w =>
            pvv prog (Instr.indexAt 32 t_45 k_38) w fun t_47 w =>
            efu prog (Instr.storeAt 5 t_47 t_46) w fun u_48 w =>
            pvv prog (binOp .add 3 k_38 (.int .i64 1)) w fun t_49 w =>
            again_39 [t_49] w) <|
          pvv prog (binOp .add 3 i_34 (.int .i64 1)) w fun t_50 w =>
          again_35 [t_50] w) [(.int .i64 0)] w) <|
      Calls prog 14 #[t_16] w (Ret fun t_51 w =>
      Calls prog 27 #[t_51, t_33] w (Ret fun t_52 w =>
      gate (some (t_52, true)) (fun K => K t_16 w) w fun t_53 w =>
      gate (some (t_52, true)) (fun K => Calls prog 22 #[t_53] w (Ret K)) w fun t_54 w =>
      gate (some (t_52, true)) (fun K => pvv prog (oEq .eql 3 (.tmp 89) (.const (.int .i64 0)) t_54 (.int .i64 0)) w K) w fun t_55 w =>
      pv prog (oPick t_52 t_55 (.bool false)) w fun t_56 w =>
      K t_56 w))) [(.int .i64 0)] w)))) := by
  have hrdd : Rdd (osl 32 1 im m vs * (rows vs (bcells L) * H)) im L := ⟨vs, by rw [hL]; exact Rds.own, by omega, fun i u l h1 h2 => Rds.under (rows_rds vs L i u l h1 h2)⟩
  have hb3 : ∀ xs ∈ bcells L, xs.length ≤ 1000 := fun xs hxs => by
    obtain ⟨l, hl, rfl⟩ := List.mem_map.1 hxs
    have := hl3 l hl
    simp; omega
  have hb4 : (bcells L).length = m := by rw [bcells_length, hL]
  refine Load_spec h hrdd (fun e w he h => ?_) (fun d w he h => ?_)
  · simp only [↓o_nil, ↓o_field, ↓o_add, ↓o_sub, ↓o_mul, ↓o_lss, ↓o_leq, ↓o_gtr, ↓o_geq, ↓o_not, ↓o_pick, ↓o_eqInt, ↓o_neInt, ↓o_eqBool, ↓o_neBool, ↓o_eqPtr, ↓o_nePtr, ↓o_eqPtr', ↓o_eqSl, ↓o_neSl, ↓o_eqStr, ↓o_neStr, ↓o_len, ↓o_lenS, ↓o_min, ↓o_max, ↓o_extract, ↓o_convInt, ↓cd_true, ↓cd_false, ↓gate_tt, ↓gate_ff, ↓gate_tf, ↓gate_ft, ↓gate_undef, ↓pop_cons, ↓fin_nil, Option.isNone_none, Option.isNone_some, Bool.not_true, Bool.not_false, Nat.zero_add, decide_true, decide_false, if_true, if_false, Bool.false_eq_true, ↓reduceIte]
    refine rLoad_spec h hrdd (fun e' w he' h => ?_) (fun d w he' h => ?_)
    · have ee : e' = e := by rw [he] at he'; exact (Option.some.inj he').symm
      subst ee
      simp only [↓o_nil, ↓o_field, ↓o_add, ↓o_sub, ↓o_mul, ↓o_lss, ↓o_leq, ↓o_gtr, ↓o_geq, ↓o_not, ↓o_pick, ↓o_eqInt, ↓o_neInt, ↓o_eqBool, ↓o_neBool, ↓o_eqPtr, ↓o_nePtr, ↓o_eqPtr', ↓o_eqSl, ↓o_neSl, ↓o_eqStr, ↓o_neStr, ↓o_len, ↓o_lenS, ↓o_min, ↓o_max, ↓o_extract, ↓o_convInt, ↓cd_true, ↓cd_false, ↓gate_tt, ↓gate_ff, ↓gate_tf, ↓gate_ft, ↓gate_undef, ↓pop_cons, ↓fin_nil, Option.isNone_none, Option.isNone_some, Bool.not_true, Bool.not_false, Nat.zero_add, decide_true, decide_false, if_true, if_false, Bool.false_eq_true, ↓reduceIte]
      refine live_spec h fun w h => ?_
      simp only [↓o_nil, ↓o_field, ↓o_add, ↓o_sub, ↓o_mul, ↓o_lss, ↓o_leq, ↓o_gtr, ↓o_geq, ↓o_not, ↓o_pick, ↓o_eqInt, ↓o_neInt, ↓o_eqBool, ↓o_neBool, ↓o_eqPtr, ↓o_nePtr, ↓o_eqPtr', ↓o_eqSl, ↓o_neSl, ↓o_eqStr, ↓o_neStr, ↓o_len, ↓o_lenS, ↓o_min, ↓o_max, ↓o_extract, ↓o_convInt, ↓cd_true, ↓cd_false, ↓gate_tt, ↓gate_ff, ↓gate_tf, ↓gate_ft, ↓gate_undef, ↓pop_cons, ↓fin_nil, Option.isNone_none, Option.isNone_some, Bool.not_true, Bool.not_false, Nat.zero_add, decide_true, decide_false, if_true, if_false, Bool.false_eq_true, ↓reduceIte, Option.isNone_none, bne_self_eq_false, beq_self_eq_true, Bool.not_true]
      refine rImage_nil ?_
      refine wr_loop (H := osl 32 1 im m vs * (rows vs (bcells L) * H)) (iv := im) (m := m) (vs := vs) (xss := bcells L) x.toNat (by omega) hb3 hvs hb4 h fun w h => ?_
      refine Image_nil ?_
      refine SameAll_spec h rdd_nil rdd_nil (by simp) (by simp) fun w h => ?_
      simp only [↓o_nil, ↓o_field, ↓o_add, ↓o_sub, ↓o_mul, ↓o_lss, ↓o_leq, ↓o_gtr, ↓o_geq, ↓o_not, ↓o_pick, ↓o_eqInt, ↓o_neInt, ↓o_eqBool, ↓o_neBool, ↓o_eqPtr, ↓o_nePtr, ↓o_eqPtr', ↓o_eqSl, ↓o_neSl, ↓o_eqStr, ↓o_neStr, ↓o_len, ↓o_lenS, ↓o_min, ↓o_max, ↓o_extract, ↓o_convInt, ↓cd_true, ↓cd_false, ↓gate_tt, ↓gate_ff, ↓gate_tf, ↓gate_ft, ↓gate_undef, ↓pop_cons, ↓fin_nil, Option.isNone_none, Option.isNone_some, Bool.not_true, Bool.not_false, Nat.zero_add, decide_true, decide_false, if_true, if_false, Bool.false_eq_true, ↓reduceIte]
      refine Count_nil ?_
      simp only [↓o_nil, ↓o_field, ↓o_add, ↓o_sub, ↓o_mul, ↓o_lss, ↓o_leq, ↓o_gtr, ↓o_geq, ↓o_not, ↓o_pick, ↓o_eqInt, ↓o_neInt, ↓o_eqBool, ↓o_neBool, ↓o_eqPtr, ↓o_nePtr, ↓o_eqPtr', ↓o_eqSl, ↓o_neSl, ↓o_eqStr, ↓o_neStr, ↓o_len, ↓o_lenS, ↓o_min, ↓o_max, ↓o_extract, ↓o_convInt, ↓cd_true, ↓cd_false, ↓gate_tt, ↓gate_ff, ↓gate_tf, ↓gate_ft, ↓gate_undef, ↓pop_cons, ↓fin_nil, Option.isNone_none, Option.isNone_some, Bool.not_true, Bool.not_false, Nat.zero_add, decide_true, decide_false, if_true, if_false, Bool.false_eq_true, ↓reduceIte]
      exact k w h
    · rw [he] at he'; cases he'
  · simp only [↓o_nil, ↓o_field, ↓o_add, ↓o_sub, ↓o_mul, ↓o_lss, ↓o_leq, ↓o_gtr, ↓o_geq, ↓o_not, ↓o_pick, ↓o_eqInt, ↓o_neInt, ↓o_eqBool, ↓o_neBool, ↓o_eqPtr, ↓o_nePtr, ↓o_eqPtr', ↓o_eqSl, ↓o_neSl, ↓o_eqStr, ↓o_neStr, ↓o_len, ↓o_lenS, ↓o_min, ↓o_max, ↓o_extract, ↓o_convInt, ↓cd_true, ↓cd_false, ↓gate_tt, ↓gate_ff, ↓gate_tf, ↓gate_ft, ↓gate_undef, ↓pop_cons, ↓fin_nil, Option.isNone_none, Option.isNone_some, Bool.not_true, Bool.not_false, Nat.zero_add, decide_true, decide_false, if_true, if_false, Bool.false_eq_true, ↓reduceIte]
    refine rLoad_spec h (Rdd.under2 hrdd) (fun e' w he' h => ?_) (fun r w he' h => ?_)
    · rw [he] at he'; cases he'
    · simp only [↓o_nil, ↓o_field, ↓o_add, ↓o_sub, ↓o_mul, ↓o_lss, ↓o_leq, ↓o_gtr, ↓o_geq, ↓o_not, ↓o_pick, ↓o_eqInt, ↓o_neInt, ↓o_eqBool, ↓o_neBool, ↓o_eqPtr, ↓o_nePtr, ↓o_eqPtr', ↓o_eqSl, ↓o_neSl, ↓o_eqStr, ↓o_neStr, ↓o_len, ↓o_lenS, ↓o_min, ↓o_max, ↓o_extract, ↓o_convInt, ↓cd_true, ↓cd_false, ↓gate_tt, ↓gate_ff, ↓gate_tf, ↓gate_ft, ↓gate_undef, ↓pop_cons, ↓fin_nil, Option.isNone_none, Option.isNone_some, Bool.not_true, Bool.not_false, Nat.zero_add, decide_true, decide_false, if_true, if_false, Bool.false_eq_true, ↓reduceIte]
      refine live_spec h fun w h => ?_
      simp only [↓o_nil, ↓o_field, ↓o_add, ↓o_sub, ↓o_mul, ↓o_lss, ↓o_leq, ↓o_gtr, ↓o_geq, ↓o_not, ↓o_pick, ↓o_eqInt, ↓o_neInt, ↓o_eqBool, ↓o_neBool, ↓o_eqPtr, ↓o_nePtr, ↓o_eqPtr', ↓o_eqSl, ↓o_neSl, ↓o_eqStr, ↓o_neStr, ↓o_len, ↓o_lenS, ↓o_min, ↓o_max, ↓o_extract, ↓o_convInt, ↓cd_true, ↓cd_false, ↓gate_tt, ↓gate_ff, ↓gate_tf, ↓gate_ft, ↓gate_undef, ↓pop_cons, ↓fin_nil, Option.isNone_none, Option.isNone_some, Bool.not_true, Bool.not_false, Nat.zero_add, decide_true, decide_false, if_true, if_false, Bool.false_eq_true, ↓reduceIte, Option.isNone_some, bne_self_eq_false, beq_self_eq_true, Bool.not_true]
      have hwf : Wf L [] := by
        unfold bad at he
        split at he
        · cases he
        · split at he
          · rename_i h1 h2
            exact ⟨by omega, by omega, fun l hl => by have := List.all_eq_true.1 h2 l hl; simpa using this, fun p hp => by simp at hp⟩
          · cases he
      refine rImage_spec h hwf (by simp) fun vw us w h => ?_
      refine wr_loop (iv := im) (m := m) (vs := vs) (xss := bcells L) x.toNat (by omega) hb3 hvs hb4 h fun w h => ?_
      refine Image_spec h hwf fun vw2 us2 w h => ?_
      rw [show redo L [] = L from rfl] at h
      refine SameAll_spec h (v := vw2) (u := vw) (L := L) (M := L) (rdd_of2 h us2 L) (rdd_of2 h us L) (by omega) (fun l hl => by have := hl3 l hl; omega) fun w h => ?_
      simp only [↓o_nil, ↓o_field, ↓o_add, ↓o_sub, ↓o_mul, ↓o_lss, ↓o_leq, ↓o_gtr, ↓o_geq, ↓o_not, ↓o_pick, ↓o_eqInt, ↓o_neInt, ↓o_eqBool, ↓o_neBool, ↓o_eqPtr, ↓o_nePtr, ↓o_eqPtr', ↓o_eqSl, ↓o_neSl, ↓o_eqStr, ↓o_neStr, ↓o_len, ↓o_lenS, ↓o_min, ↓o_max, ↓o_extract, ↓o_convInt, ↓cd_true, ↓cd_false, ↓gate_tt, ↓gate_ff, ↓gate_tf, ↓gate_ft, ↓gate_undef, ↓pop_cons, ↓fin_nil, Option.isNone_none, Option.isNone_some, Bool.not_true, Bool.not_false, Nat.zero_add, decide_true, decide_false, if_true, if_false, Bool.false_eq_true, ↓reduceIte]
      refine Count_spec h ?_
      have hz : ((List.length ([] : List (Int × List UInt8)) : Nat) : Int) = 0 := rfl
      simp only [hz, ↓o_nil, ↓o_field, ↓o_add, ↓o_sub, ↓o_mul, ↓o_lss, ↓o_leq, ↓o_gtr, ↓o_geq, ↓o_not, ↓o_pick, ↓o_eqInt, ↓o_neInt, ↓o_eqBool, ↓o_neBool, ↓o_eqPtr, ↓o_nePtr, ↓o_eqPtr', ↓o_eqSl, ↓o_neSl, ↓o_eqStr, ↓o_neStr, ↓o_len, ↓o_lenS, ↓o_min, ↓o_max, ↓o_extract, ↓o_convInt, ↓cd_true, ↓cd_false, ↓gate_tt, ↓gate_ff, ↓gate_tf, ↓gate_ft, ↓gate_undef, ↓pop_cons, ↓fin_nil, Option.isNone_none, Option.isNone_some, Bool.not_true, Bool.not_false, Nat.zero_add, decide_true, decide_false, if_true, if_false, Bool.false_eq_true, ↓reduceIte]
      exact k w (h.split H).drop'
theorem Loads_spec (h : sat E w H) {sv : Value} (xs : List Int) (hl : Rds H sv xs.length (xs.map iv)) (hm : xs.length ≤ 9223372036854775807) (x : UInt8) (k : ∀ w', sat E w' H → K (.bool true) w') :
    Calls prog 7 #[sv, bv x] w (Ret K) := by
  obtain ⟨a, c, rfl, hc, hl, ha⟩ := hl.shape h
  refine c7 ?_
  unfold B7
  refine lp_nat (fun n σ w => ∃ (i : Nat) (im : Value) (vs : List Value) (L : List (List UInt8)), σ = [im, .int .i64 i] ∧ n = 30 - i ∧ i ≤ 30 ∧ vs.length = i ∧ L.length = i ∧ (∀ l ∈ L, l.length ≤ 300) ∧
    sat E w (osl 32 1 im i vs * (rows vs (bcells L) * H))) 30 ⟨0, _, [], [], rfl, rfl, by omega, rfl, rfl, by simp, ?_⟩ ?_
  · have := osl_nil h 32 1
    simpa [rows, bcells, emp_star] using this
  rintro n σ w again ⟨i, im, vs, L, rfl, rfl, hi, hvs, hL, hl3, h⟩ hag
  have final : ∀ (K' : Value → World → Prop), K' = K → Rdd (osl 32 1 im i vs * (rows vs (bcells L) * H)) im L := fun _ _ =>
    ⟨vs, by rw [hL]; exact Rds.own, by omega, fun i u l h1 h2 => Rds.under (rows_rds vs L i u l h1 h2)⟩
  have hrdd := final K rfl
  have hx := x.toNat_lt
  simp only [↓o_nil, ↓o_field, ↓o_add, ↓o_sub, ↓o_mul, ↓o_lss, ↓o_leq, ↓o_gtr, ↓o_geq, ↓o_not, ↓o_pick, ↓o_eqInt, ↓o_neInt, ↓o_eqBool, ↓o_neBool, ↓o_eqPtr, ↓o_nePtr, ↓o_eqPtr', ↓o_eqSl, ↓o_neSl, ↓o_eqStr, ↓o_neStr, ↓o_len, ↓o_lenS, ↓o_min, ↓o_max, ↓o_extract, ↓o_convInt, ↓cd_true, ↓cd_false, ↓gate_tt, ↓gate_ff, ↓gate_tf, ↓gate_ft, ↓gate_undef, ↓pop_cons, ↓fin_nil, Option.isNone_none, Option.isNone_some, Bool.not_true, Bool.not_false, Nat.zero_add, decide_true, decide_false, if_true, if_false, Bool.false_eq_true, ↓reduceIte]
  by_cases hgo : (i : Int) < (xs.length : Nat) ∧ i < 30
  · obtain ⟨hlt, h30⟩ := hgo
    have h30 : (i : Int) < 30 := by omega
    simp only [hlt, h30, ↓o_nil, ↓o_field, ↓o_add, ↓o_sub, ↓o_mul, ↓o_lss, ↓o_leq, ↓o_gtr, ↓o_geq, ↓o_not, ↓o_pick, ↓o_eqInt, ↓o_neInt, ↓o_eqBool, ↓o_neBool, ↓o_eqPtr, ↓o_nePtr, ↓o_eqPtr', ↓o_eqSl, ↓o_neSl, ↓o_eqStr, ↓o_neStr, ↓o_len, ↓o_lenS, ↓o_min, ↓o_max, ↓o_extract, ↓o_convInt, ↓cd_true, ↓cd_false, ↓gate_tt, ↓gate_ff, ↓gate_tf, ↓gate_ft, ↓gate_undef, ↓pop_cons, ↓fin_nil, Option.isNone_none, Option.isNone_some, Bool.not_true, Bool.not_false, Nat.zero_add, decide_true, decide_false, if_true, if_false, Bool.false_eq_true, ↓reduceIte]
    have hlt : i < xs.length := by omega
    obtain ⟨b1, o1, rfl, hb1⟩ := win_cell (hl.win h.drop.drop) (j := i) (by simp; omega)
    rw [o_index (by omega) (by omega)]
    simp only [Int.toNat_natCast, Nat.mul_one]
    refine ld_cell hb1 ?_
    simp only [List.getElem_map, iv]
    refine pvv_of (v := Dd.val ⟨0, xs[i], x⟩) (fun _ => by kernel_rfl) ?_
    refine bytes_spec h ⟨0, xs[i], x⟩ fun v w h => ?_
    obtain ⟨av, cv, rfl, _, _, _⟩ := osl_shape h
    refine buildSlice_sl (e := 32) (cs := #[.slice av (Dd.bytes ⟨0, xs[i], x⟩).length cv]) h (fun w => by kernel_rfl) fun b2 w h => ?_
    refine append_sl h [.slice av (Dd.bytes ⟨0, xs[i], x⟩).length cv] rfl (.inr ⟨b2, 0, _, 32, (0, 0), rfl, h.pts_get, fun j v hj => by simpa using hj⟩) (by simp [Value.oneCell']) (by omega) (by omega) fun im' w h => ?_
    rw [i64_of (by omega) (by omega)]
    refine hag _ _ _ (by omega) ⟨i + 1, im', vs ++ [.slice av (Dd.bytes ⟨0, xs[i], x⟩).length cv], L ++ [Dd.bytes ⟨0, xs[i], x⟩], rfl, rfl, by omega, by simp [hvs], by simp [hL], fun l hll => ?_, (h.lose b2).perm ?_⟩
    · rcases List.mem_append.1 hll with hll | hll
      · exact hl3 l hll
      · simp at hll; subst hll; rw [Dd.bytes_length]; exact Dd.size_le _
    · rw [show bcells (L ++ [Dd.bytes ⟨0, xs[i], x⟩]) = bcells L ++ [(Dd.bytes ⟨0, xs[i], x⟩).map bv] by simp [bcells]]
      rw [rows_snoc vs (bcells L) _ _ (by rw [bcells_length]; omega)]
      rw [List.length_map]
      ac_rfl
  · skip
    by_cases h1 : (i : Int) < (xs.length : Nat)
    · have h2 : ¬ (i : Int) < 30 := by omega
      simp only [h1, h2, ↓o_nil, ↓o_field, ↓o_add, ↓o_sub, ↓o_mul, ↓o_lss, ↓o_leq, ↓o_gtr, ↓o_geq, ↓o_not, ↓o_pick, ↓o_eqInt, ↓o_neInt, ↓o_eqBool, ↓o_neBool, ↓o_eqPtr, ↓o_nePtr, ↓o_eqPtr', ↓o_eqSl, ↓o_neSl, ↓o_eqStr, ↓o_neStr, ↓o_len, ↓o_lenS, ↓o_min, ↓o_max, ↓o_extract, ↓o_convInt, ↓cd_true, ↓cd_false, ↓gate_tt, ↓gate_ff, ↓gate_tf, ↓gate_ft, ↓gate_undef, ↓pop_cons, ↓fin_nil, Option.isNone_none, Option.isNone_some, Bool.not_true, Bool.not_false, Nat.zero_add, decide_true, decide_false, if_true, if_false, Bool.false_eq_true, ↓reduceIte]
      exact tail_spec x hi hvs hL hl3 h k
    · simp only [h1, ↓o_nil, ↓o_field, ↓o_add, ↓o_sub, ↓o_mul, ↓o_lss, ↓o_leq, ↓o_gtr, ↓o_geq, ↓o_not, ↓o_pick, ↓o_eqInt, ↓o_neInt, ↓o_eqBool, ↓o_neBool, ↓o_eqPtr, ↓o_nePtr, ↓o_eqPtr', ↓o_eqSl, ↓o_neSl, ↓o_eqStr, ↓o_neStr, ↓o_len, ↓o_lenS, ↓o_min, ↓o_max, ↓o_extract, ↓o_convInt, ↓cd_true, ↓cd_false, ↓gate_tt, ↓gate_ff, ↓gate_tf, ↓gate_ft, ↓gate_undef, ↓pop_cons, ↓fin_nil, Option.isNone_none, Option.isNone_some, Bool.not_true, Bool.not_false, Nat.zero_add, decide_true, decide_false, if_true, if_false, Bool.false_eq_true, ↓reduceIte]
      exact tail_spec x hi hvs hL hl3 h k
theorem walk (W : World) {H : Type} (enc : TypeId × Value → H) (args : Array Value) (ds : List (DataW H)) (ps : List MemPlace)
    (hval : ∀ (j : Nat) t v, Try.f7.params.toList[j]? = some t → args.toList[j]? = some v → ∃ base, Value.okWide Try.checked.prog W .any base t v)
    (hA : DataW.TrodAll enc Try.checked.prog W 0 (fun _ => true) true Try.f7.params.toList args.toList ds ps) :
    Calls Try.checked.prog 7 args W (Ret fun v W' => v = .bool true ∧ Below W.heap.size W W') := by
  rw [show Try.f7.params.toList = [42, 5] by kernel_rfl] at hval hA
  obtain ⟨v0, vs0, d0, ds0, p0, q0, hargs, rfl, rfl, h0, r0'⟩ := trodAll_cons hA
  obtain ⟨v1, vs1, d1, ds1, p1, q1, rfl, rfl, rfl, h1, r1'⟩ := trodAll_cons r0'
  obtain ⟨rfl, rfl, rfl⟩ := trodAll_nil r1'
  obtain rfl : args = #[v0, v1] := by cases args; simp_all
  obtain ⟨b0, o0⟩ := hval 0 42 v0 rfl rfl
  obtain ⟨b1, o1⟩ := hval 1 5 v1 rfl rfl
  obtain ⟨x0, rx0, mx0⟩ := open_i64s o0 h0
  obtain ⟨x1, rfl⟩ := open_u8 o1 h1
  exact Loads_spec (sat.start W) x0 rx0 mx0 x1 fun w' h => ⟨rfl, sat.below (h.whole)⟩

theorem lifted (os : Os) (started : os.Started) (H : Type) (enc : TypeId × Value → H) :
    ReturnsInHanded {} Try.checked os 7 .any (Rows.blockLoadsSpec.pre6 enc Try.prog Try.f7 Rows.blockLoadsRow.domain false) (Rows.blockLoadsSpec.post enc Try.prog Try.f7 false true false false) := by
  refine law_lifted (C := Try.checked) (tb := 4) (by kernel_rfl) started (by kernel_rfl) Try.func7
    (ChangeSpec.witness6 (enc := enc) (C := Try.checked) false ⟨#[], #[.slice none 0 0, .int .u8 0], []⟩ 8 (by kernel_rfl) (by kernel_rfl) (by kernel_rfl) (by kernel_rfl))
    (by kernel_rfl) (by kernel_rfl) (by kernel_rfl) (by kernel_rfl) rfl ?_ ?_
  · intro ds hd
    rw [show Try.f7.params.toList = [42, 5] by kernel_rfl] at hd
    match ds, hd with
    | [a0, a1], _ => rfl
  · exact fun W args ds ps => walk W enc args ds ps

theorem proved : Rows.BlockLoadsSaid :=
  OpenClaim.holds_of_wide 7 Try.f7 rfl rfl rfl rfl rfl rfl rfl ⟨rfl, rfl, rfl, rfl, rfl⟩ rfl rfl rfl rfl rfl (by kernel_rfl) Try.func7 (by kernel_rfl)
    (of_decide_eq_true (by kernel_rfl)) (by unfold Func.isWrapper; first | (rw [if_pos (by decide +kernel)]; kernel_rfl) | (rw [if_neg (by decide +kernel)]; exact ⟨rfl, rfl⟩))
    (fun os started H enc _ => lifted os started H enc)
#print axioms proved
end Go.Proofs.Yteplajobjlehlaa.Loads
