/-
  BlockCuts: a cut has just the first writes, and one cut and the next part in one block at most: for every deeds and every place the law returns true.
-/
import Derived.Test.YteplajobjlehlaaBlkP
import Derived.Test.YteplajobjlehlaaBlkV
import Derived.Test.YteplajobjlehlaaLaw
import Derived.Test.YteplajobjlehlaaRows
set_option linter.all false
set_option maxRecDepth 100000
namespace Go.Proofs.Yteplajobjlehlaa.Cuts
open Go Hold Go.ChangeShapes Go.WideShapes Go.ChangeAt Go.RowKit
variable {E : World0} {w : World} {H R : HP} {K : Value → World → Prop}

theorem rds_nil {H : HP} : Rds H (.slice none 0 0) 0 [] := fun E w _ => ⟨none, 0, rfl, Nat.le_refl _, .inl rfl⟩
theorem rdd_nil {H : HP} : Rdd H (.slice none 0 0) [] := ⟨[], rds_nil, rfl, fun i u l h => by simp at h⟩
theorem rdd_of2 (h : sat E w H) {lv : Value} {R1 R2 : HP} (us : List Value) (L : List (List UInt8)) [s1 : OwnS H lv 32 1 L.length us R1] [s2 : Split H (pers (immAll us L)) R2] : Rdd H lv L :=
  ⟨us, Rds.own, ((h.split (pers (immAll us L))).pers_get).1, fun i u l h1 h2 => Rds.under (immAll_rds h1 h2)⟩
theorem Count_nil (k : K (.int .i64 0) w) : Calls prog 22 #[.pointer none] w (Ret K) := by
  refine c22 ?_
  unfold B22
  simp only [↓o_nil, ↓o_field, ↓o_add, ↓o_sub, ↓o_mul, ↓o_lss, ↓o_leq, ↓o_gtr, ↓o_geq, ↓o_not, ↓o_pick, ↓o_eqInt, ↓o_neInt, ↓o_eqBool, ↓o_neBool, ↓o_eqPtr, ↓o_nePtr, ↓o_eqPtr', ↓o_eqSl, ↓o_neSl, ↓o_eqStr, ↓o_neStr, ↓o_len, ↓o_lenS, ↓o_min, ↓o_max, ↓o_extract, ↓o_convInt, ↓cd_true, ↓cd_false, ↓gate_tt, ↓gate_ff, ↓gate_tf, ↓gate_ft, ↓gate_undef, ↓pop_cons, ↓fin_nil, Option.isNone_none, Option.isNone_some, Bool.not_true, Bool.not_false, Nat.zero_add, decide_true, decide_false, if_true, if_false, Bool.false_eq_true, ↓reduceIte]
  exact k
theorem rCut_range {d : Nat} {L : List (List UInt8)} {W : List (Int × List UInt8)} (h : sat E w H) [s : RdkS H d L W R] {n : Int} (hn : n < 0 ∨ (W.length : Int) < n)
    (k : K (.tuple #[.pointer none, .int .i64 2]) w) : Calls prog 34 #[.pointer (some ⟨d, 0, none⟩), .int .i64 n] w (Ret K) := by
  obtain ⟨lv, vs, wv, ws, e, hd⟩ := sat_rdsk.1 (h.rdks d)
  obtain ⟨a, c, rfl, hc, hl, ha⟩ := osl_shape hd.drop.drop
  refine c34 ?_
  unfold B34
  by_cases h1 : n < 0
  · simp only [↓o_nil, ↓o_field, ↓o_add, ↓o_sub, ↓o_mul, ↓o_lss, ↓o_leq, ↓o_gtr, ↓o_geq, ↓o_not, ↓o_pick, ↓o_eqInt, ↓o_neInt, ↓o_eqBool, ↓o_neBool, ↓o_eqPtr, ↓o_nePtr, ↓o_eqPtr', ↓o_eqSl, ↓o_neSl, ↓o_eqStr, ↓o_neStr, ↓o_len, ↓o_lenS, ↓o_min, ↓o_max, ↓o_extract, ↓o_convInt, ↓cd_true, ↓cd_false, ↓gate_tt, ↓gate_ff, ↓gate_tf, ↓gate_ft, ↓gate_undef, ↓pop_cons, ↓fin_nil, Option.isNone_none, Option.isNone_some, Bool.not_true, Bool.not_false, Nat.zero_add, decide_true, decide_false, if_true, if_false, Bool.false_eq_true, ↓reduceIte, h1]; exact k
  · have h2 : (W.length : Int) < n := by omega
    simp only [↓o_nil, ↓o_field, ↓o_add, ↓o_sub, ↓o_mul, ↓o_lss, ↓o_leq, ↓o_gtr, ↓o_geq, ↓o_not, ↓o_pick, ↓o_eqInt, ↓o_neInt, ↓o_eqBool, ↓o_neBool, ↓o_eqPtr, ↓o_nePtr, ↓o_eqPtr', ↓o_eqSl, ↓o_neSl, ↓o_eqStr, ↓o_neStr, ↓o_len, ↓o_lenS, ↓o_min, ↓o_max, ↓o_extract, ↓o_convInt, ↓cd_true, ↓cd_false, ↓gate_tt, ↓gate_ff, ↓gate_tf, ↓gate_ft, ↓gate_undef, ↓pop_cons, ↓fin_nil, Option.isNone_none, Option.isNone_some, Bool.not_true, Bool.not_false, Nat.zero_add, decide_true, decide_false, if_true, if_false, Bool.false_eq_true, ↓reduceIte, h1]
    refine ld_at hd ?_
    simp only [↓o_nil, ↓o_field, ↓o_add, ↓o_sub, ↓o_mul, ↓o_lss, ↓o_leq, ↓o_gtr, ↓o_geq, ↓o_not, ↓o_pick, ↓o_eqInt, ↓o_neInt, ↓o_eqBool, ↓o_neBool, ↓o_eqPtr, ↓o_nePtr, ↓o_eqPtr', ↓o_eqSl, ↓o_neSl, ↓o_eqStr, ↓o_neStr, ↓o_len, ↓o_lenS, ↓o_min, ↓o_max, ↓o_extract, ↓o_convInt, ↓cd_true, ↓cd_false, ↓gate_tt, ↓gate_ff, ↓gate_tf, ↓gate_ft, ↓gate_undef, ↓pop_cons, ↓fin_nil, Option.isNone_none, Option.isNone_some, Bool.not_true, Bool.not_false, Nat.zero_add, decide_true, decide_false, if_true, if_false, Bool.false_eq_true, ↓reduceIte, h2]
    exact k
theorem rCut_spec {r : Nat} {F : List (List UInt8)} {V : List (Int × List UInt8)} (h : sat E w H) [s : RdkS H r F V R] (wf : Wf F V) (hV : V.length ≤ 1000000) {n : Nat} (hn : n ≤ V.length)
    (k : ∀ r' w', sat E w' (rdsk r' (redo F (V.take n)) [] * H) → K (.tuple #[.pointer (some ⟨r', 0, none⟩), .int .i64 0]) w') : Calls prog 34 #[.pointer (some ⟨r, 0, none⟩), .int .i64 n] w (Ret K) := by
  obtain ⟨lv, vs, wv, ws, e, hd⟩ := sat_rdsk.1 (h.rdks r)
  obtain ⟨a, c, rfl, hc, hl, ha⟩ := osl_shape hd.drop.drop
  refine c34 ?_
  unfold B34
  have h1 : ¬ (n : Int) < 0 := by omega
  have h2 : ¬ (V.length : Int) < n := by omega
  simp only [↓o_nil, ↓o_field, ↓o_add, ↓o_sub, ↓o_mul, ↓o_lss, ↓o_leq, ↓o_gtr, ↓o_geq, ↓o_not, ↓o_pick, ↓o_eqInt, ↓o_neInt, ↓o_eqBool, ↓o_neBool, ↓o_eqPtr, ↓o_nePtr, ↓o_eqPtr', ↓o_eqSl, ↓o_neSl, ↓o_eqStr, ↓o_neStr, ↓o_len, ↓o_lenS, ↓o_min, ↓o_max, ↓o_extract, ↓o_convInt, ↓cd_true, ↓cd_false, ↓gate_tt, ↓gate_ff, ↓gate_tf, ↓gate_ft, ↓gate_undef, ↓pop_cons, ↓fin_nil, Option.isNone_none, Option.isNone_some, Bool.not_true, Bool.not_false, Nat.zero_add, decide_true, decide_false, if_true, if_false, Bool.false_eq_true, ↓reduceIte, h1]
  refine ld_at hd ?_
  simp only [↓o_nil, ↓o_field, ↓o_add, ↓o_sub, ↓o_mul, ↓o_lss, ↓o_leq, ↓o_gtr, ↓o_geq, ↓o_not, ↓o_pick, ↓o_eqInt, ↓o_neInt, ↓o_eqBool, ↓o_neBool, ↓o_eqPtr, ↓o_nePtr, ↓o_eqPtr', ↓o_eqSl, ↓o_neSl, ↓o_eqStr, ↓o_neStr, ↓o_len, ↓o_lenS, ↓o_min, ↓o_max, ↓o_extract, ↓o_convInt, ↓cd_true, ↓cd_false, ↓gate_tt, ↓gate_ff, ↓gate_tf, ↓gate_ft, ↓gate_undef, ↓pop_cons, ↓fin_nil, Option.isNone_none, Option.isNone_some, Bool.not_true, Bool.not_false, Nat.zero_add, decide_true, decide_false, if_true, if_false, Bool.false_eq_true, ↓reduceIte, h2]
  refine rAt_spec h wf hV hn fun ov us w h => ?_
  obtain ⟨ao, co, rfl, _, _, _⟩ := osl_shape h
  refine pvv_of (v := .agg #[.slice ao F.length co, .slice none 0 0]) (fun _ => by kernel_rfl) ?_
  refine box_sl h fun r2 w h => ?_
  have h : sat E w (pts r2 (.cells [Value.slice ao F.length co, .slice none 0 0].toArray 50 (0, 0)) * _) := h
  refine k r2 w ?_
  have h := osl_nil h 52 2
  have h : sat E _ (pers (immAll (List.map (·.2) ([] : List (Int × Value))) (List.map (·.2) ([] : List (Int × List UInt8)))) * _) := immAll_nil h
  exact rdsk_shut (fv := .slice ao F.length co) (lv := .slice none 0 0) (vs := us) (ws := []) r2 (redo F (V.take n)) [] (redo_length _ _).symm rfl rfl h

theorem undo_wf {n : Nat} {L : List (List UInt8)} {W V : List (Int × List UInt8)} (inv : Inv n L W V) : ∀ k, Wf (undo L (W.drop k)) [] := by
  have key : ∀ (W' : List (Int × List UInt8)), (∀ p ∈ W', p.2.length = 256) → ∀ l ∈ undo L W', l.length = 256 := by
    intro W'
    induction W' with
    | nil => intro _ l hl; exact inv.wf.l l hl
    | cons p r ih =>
      intro hp l hl
      have ih := ih (fun q hq => hp q (List.mem_cons_of_mem _ hq))
      rcases List.mem_or_eq_of_mem_set (show l ∈ (undo L r).set p.1.toNat p.2 from hl) with h | rfl
      · exact ih l h
      · exact hp p (List.mem_cons_self)
  intro k
  refine ⟨by rw [undo_length]; exact inv.wf.pos, by rw [undo_length]; exact inv.wf.le, key _ (fun p hp => (inv.wf.w p (List.mem_of_mem_drop hp)).2.2), fun p hp => by simp at hp⟩

theorem rdd1 {v : Value} {n : Nat} {vs : List Value} (h : sat E w H) {R1 R2 : HP} [s1 : OwnS H v 32 1 n vs R1] (us : List Value) (L : List (List UInt8)) [s2 : Split H (pers (immAll us L)) R2] :
    Rds H v n vs ∧ us.length = L.length ∧ ∀ (i : Nat) (u : Value) (l : List UInt8), us[i]? = some u → L[i]? = some l → Rds H u l.length (l.map bv) :=
  ⟨Rds.own, ((h.split (pers (immAll us L))).pers_get).1, fun i u l h1 h2 => Rds.under (immAll_rds h1 h2)⟩
theorem Cuts_spec (h : sat E w H) {lv : Value} (ds : List Dd) (hl : Rds H lv ds.length (dcells ds)) (hm : ds.length ≤ 9223372036854775807) (q : Int) (hq : -9223372036854775808 ≤ q ∧ q ≤ 9223372036854775807) (k : ∀ w', sat E w' H → K (.bool true) w') :
    Calls prog 8 #[lv, .int .i64 q] w (Ret K) := by
  refine c8 ?_
  unfold B8
  refine play_spec h (n := 5) (by omega) (by omega) hl hm fun d r L W V w inv hW h => ?_
  simp only [↓o_nil, ↓o_field, ↓o_add, ↓o_sub, ↓o_mul, ↓o_lss, ↓o_leq, ↓o_gtr, ↓o_geq, ↓o_not, ↓o_pick, ↓o_eqInt, ↓o_neInt, ↓o_eqBool, ↓o_neBool, ↓o_eqPtr, ↓o_nePtr, ↓o_eqPtr', ↓o_eqSl, ↓o_neSl, ↓o_eqStr, ↓o_neStr, ↓o_len, ↓o_lenS, ↓o_min, ↓o_max, ↓o_extract, ↓o_convInt, ↓cd_true, ↓cd_false, ↓gate_tt, ↓gate_ff, ↓gate_tf, ↓gate_ft, ↓gate_undef, ↓pop_cons, ↓fin_nil, Option.isNone_none, Option.isNone_some, Bool.not_true, Bool.not_false, Nat.zero_add, decide_true, decide_false, if_true, if_false, Bool.false_eq_true, ↓reduceIte]
  refine live_spec h fun w h => ?_
  simp only [↓o_nil, ↓o_field, ↓o_add, ↓o_sub, ↓o_mul, ↓o_lss, ↓o_leq, ↓o_gtr, ↓o_geq, ↓o_not, ↓o_pick, ↓o_eqInt, ↓o_neInt, ↓o_eqBool, ↓o_neBool, ↓o_eqPtr, ↓o_nePtr, ↓o_eqPtr', ↓o_eqSl, ↓o_neSl, ↓o_eqStr, ↓o_neStr, ↓o_len, ↓o_lenS, ↓o_min, ↓o_max, ↓o_extract, ↓o_convInt, ↓cd_true, ↓cd_false, ↓gate_tt, ↓gate_ff, ↓gate_tf, ↓gate_ft, ↓gate_undef, ↓pop_cons, ↓fin_nil, Option.isNone_none, Option.isNone_some, Bool.not_true, Bool.not_false, Nat.zero_add, decide_true, decide_false, if_true, if_false, Bool.false_eq_true, ↓reduceIte]
  have hV := inv.vlen
  have hLl := inv.len
  have hall : undo L (W.drop W.length) = L := by rw [List.drop_length]; rfl
  have hz : ((List.length ([] : List (Int × List UInt8)) : Nat) : Int) = 0 := rfl
  by_cases hk : q < 0 ∨ (W.length : Int) < q
  · refine Cut_range h hk ?_
    simp only [↓o_nil, ↓o_field, ↓o_add, ↓o_sub, ↓o_mul, ↓o_lss, ↓o_leq, ↓o_gtr, ↓o_geq, ↓o_not, ↓o_pick, ↓o_eqInt, ↓o_neInt, ↓o_eqBool, ↓o_neBool, ↓o_eqPtr, ↓o_nePtr, ↓o_eqPtr', ↓o_eqSl, ↓o_neSl, ↓o_eqStr, ↓o_neStr, ↓o_len, ↓o_lenS, ↓o_min, ↓o_max, ↓o_extract, ↓o_convInt, ↓cd_true, ↓cd_false, ↓gate_tt, ↓gate_ff, ↓gate_tf, ↓gate_ft, ↓gate_undef, ↓pop_cons, ↓fin_nil, Option.isNone_none, Option.isNone_some, Bool.not_true, Bool.not_false, Nat.zero_add, decide_true, decide_false, if_true, if_false, Bool.false_eq_true, ↓reduceIte]
    refine rCut_range h (by rw [hV]; exact hk) ?_
    simp only [↓o_nil, ↓o_field, ↓o_add, ↓o_sub, ↓o_mul, ↓o_lss, ↓o_leq, ↓o_gtr, ↓o_geq, ↓o_not, ↓o_pick, ↓o_eqInt, ↓o_neInt, ↓o_eqBool, ↓o_neBool, ↓o_eqPtr, ↓o_nePtr, ↓o_eqPtr', ↓o_eqSl, ↓o_neSl, ↓o_eqStr, ↓o_neStr, ↓o_len, ↓o_lenS, ↓o_min, ↓o_max, ↓o_extract, ↓o_convInt, ↓cd_true, ↓cd_false, ↓gate_tt, ↓gate_ff, ↓gate_tf, ↓gate_ft, ↓gate_undef, ↓pop_cons, ↓fin_nil, Option.isNone_none, Option.isNone_some, Bool.not_true, Bool.not_false, Nat.zero_add, decide_true, decide_false, if_true, if_false, Bool.false_eq_true, ↓reduceIte]
    refine Image_nil ?_
    refine rImage_nil ?_
    refine SameAll_spec h rdd_nil rdd_nil (by simp) (by simp) fun w h => ?_
    simp only [↓o_nil, ↓o_field, ↓o_add, ↓o_sub, ↓o_mul, ↓o_lss, ↓o_leq, ↓o_gtr, ↓o_geq, ↓o_not, ↓o_pick, ↓o_eqInt, ↓o_neInt, ↓o_eqBool, ↓o_neBool, ↓o_eqPtr, ↓o_nePtr, ↓o_eqPtr', ↓o_eqSl, ↓o_neSl, ↓o_eqStr, ↓o_neStr, ↓o_len, ↓o_lenS, ↓o_min, ↓o_max, ↓o_extract, ↓o_convInt, ↓cd_true, ↓cd_false, ↓gate_tt, ↓gate_ff, ↓gate_tf, ↓gate_ft, ↓gate_undef, ↓pop_cons, ↓fin_nil, Option.isNone_none, Option.isNone_some, Bool.not_true, Bool.not_false, Nat.zero_add, decide_true, decide_false, if_true, if_false, Bool.false_eq_true, ↓reduceIte]
    refine Count_nil ?_
    simp only [↓o_nil, ↓o_field, ↓o_add, ↓o_sub, ↓o_mul, ↓o_lss, ↓o_leq, ↓o_gtr, ↓o_geq, ↓o_not, ↓o_pick, ↓o_eqInt, ↓o_neInt, ↓o_eqBool, ↓o_neBool, ↓o_eqPtr, ↓o_nePtr, ↓o_eqPtr', ↓o_eqSl, ↓o_neSl, ↓o_eqStr, ↓o_neStr, ↓o_len, ↓o_lenS, ↓o_min, ↓o_max, ↓o_extract, ↓o_convInt, ↓cd_true, ↓cd_false, ↓gate_tt, ↓gate_ff, ↓gate_tf, ↓gate_ft, ↓gate_undef, ↓pop_cons, ↓fin_nil, Option.isNone_none, Option.isNone_some, Bool.not_true, Bool.not_false, Nat.zero_add, decide_true, decide_false, if_true, if_false, Bool.false_eq_true, ↓reduceIte]
    refine Count_spec h ?_
    refine Cut_spec h inv.wf (by omega) (Nat.le_refl _) fun c2 w h => ?_
    rw [hall] at h
    simp only [↓o_nil, ↓o_field, ↓o_add, ↓o_sub, ↓o_mul, ↓o_lss, ↓o_leq, ↓o_gtr, ↓o_geq, ↓o_not, ↓o_pick, ↓o_eqInt, ↓o_neInt, ↓o_eqBool, ↓o_neBool, ↓o_eqPtr, ↓o_nePtr, ↓o_eqPtr', ↓o_eqSl, ↓o_neSl, ↓o_eqStr, ↓o_neStr, ↓o_len, ↓o_lenS, ↓o_min, ↓o_max, ↓o_extract, ↓o_convInt, ↓cd_true, ↓cd_false, ↓gate_tt, ↓gate_ff, ↓gate_tf, ↓gate_ft, ↓gate_undef, ↓pop_cons, ↓fin_nil, Option.isNone_none, Option.isNone_some, Bool.not_true, Bool.not_false, Nat.zero_add, decide_true, decide_false, if_true, if_false, Bool.false_eq_true, ↓reduceIte]
    refine Same_spec h (by omega) fun w h => ?_
    have t20 : ¬ (2 : Int) = 0 := by decide
    simp only [t20, ↓o_nil, ↓o_field, ↓o_add, ↓o_sub, ↓o_mul, ↓o_lss, ↓o_leq, ↓o_gtr, ↓o_geq, ↓o_not, ↓o_pick, ↓o_eqInt, ↓o_neInt, ↓o_eqBool, ↓o_neBool, ↓o_eqPtr, ↓o_nePtr, ↓o_eqPtr', ↓o_eqSl, ↓o_neSl, ↓o_eqStr, ↓o_neStr, ↓o_len, ↓o_lenS, ↓o_min, ↓o_max, ↓o_extract, ↓o_convInt, ↓cd_true, ↓cd_false, ↓gate_tt, ↓gate_ff, ↓gate_tf, ↓gate_ft, ↓gate_undef, ↓pop_cons, ↓fin_nil, Option.isNone_none, Option.isNone_some, Bool.not_true, Bool.not_false, Nat.zero_add, decide_true, decide_false, if_true, if_false, Bool.false_eq_true, ↓reduceIte]
    exact k w (h.split H).drop'
  · obtain ⟨n, rfl⟩ := Int.eq_ofNat_of_zero_le (show 0 ≤ q by omega)
    have hn : n ≤ W.length := by omega
    have hu := inv.und n hn
    refine Cut_spec h inv.wf (by omega) hn fun c w h => ?_
    simp only [↓o_nil, ↓o_field, ↓o_add, ↓o_sub, ↓o_mul, ↓o_lss, ↓o_leq, ↓o_gtr, ↓o_geq, ↓o_not, ↓o_pick, ↓o_eqInt, ↓o_neInt, ↓o_eqBool, ↓o_neBool, ↓o_eqPtr, ↓o_nePtr, ↓o_eqPtr', ↓o_eqSl, ↓o_neSl, ↓o_eqStr, ↓o_neStr, ↓o_len, ↓o_lenS, ↓o_min, ↓o_max, ↓o_extract, ↓o_convInt, ↓cd_true, ↓cd_false, ↓gate_tt, ↓gate_ff, ↓gate_tf, ↓gate_ft, ↓gate_undef, ↓pop_cons, ↓fin_nil, Option.isNone_none, Option.isNone_some, Bool.not_true, Bool.not_false, Nat.zero_add, decide_true, decide_false, if_true, if_false, Bool.false_eq_true, ↓reduceIte]
    refine rCut_spec h inv.wfv (by omega) (by omega) fun s w h => ?_
    rw [← hu] at h
    simp only [↓o_nil, ↓o_field, ↓o_add, ↓o_sub, ↓o_mul, ↓o_lss, ↓o_leq, ↓o_gtr, ↓o_geq, ↓o_not, ↓o_pick, ↓o_eqInt, ↓o_neInt, ↓o_eqBool, ↓o_neBool, ↓o_eqPtr, ↓o_nePtr, ↓o_eqPtr', ↓o_eqSl, ↓o_neSl, ↓o_eqStr, ↓o_neStr, ↓o_len, ↓o_lenS, ↓o_min, ↓o_max, ↓o_extract, ↓o_convInt, ↓cd_true, ↓cd_false, ↓gate_tt, ↓gate_ff, ↓gate_tf, ↓gate_ft, ↓gate_undef, ↓pop_cons, ↓fin_nil, Option.isNone_none, Option.isNone_some, Bool.not_true, Bool.not_false, Nat.zero_add, decide_true, decide_false, if_true, if_false, Bool.false_eq_true, ↓reduceIte]
    refine Image_spec h (undo_wf inv n) fun va us w h => ?_
    have hwf2 : Wf (undo L (W.drop n)) [] := undo_wf inv n
    refine rImage_spec h hwf2 (by simp) fun vb us2 w h => ?_
    rw [show redo (undo L (W.drop n)) [] = undo L (W.drop n) from rfl] at h
    refine SameAll_spec h (v := va) (u := vb) (rdd_of2 h us (undo L (W.drop n))) (rdd_of2 h us2 (undo L (W.drop n))) (by rw [undo_length]; omega) (fun l hl => by rw [(undo_wf inv n).l l hl]; omega) fun w h => ?_
    simp only [↓o_nil, ↓o_field, ↓o_add, ↓o_sub, ↓o_mul, ↓o_lss, ↓o_leq, ↓o_gtr, ↓o_geq, ↓o_not, ↓o_pick, ↓o_eqInt, ↓o_neInt, ↓o_eqBool, ↓o_neBool, ↓o_eqPtr, ↓o_nePtr, ↓o_eqPtr', ↓o_eqSl, ↓o_neSl, ↓o_eqStr, ↓o_neStr, ↓o_len, ↓o_lenS, ↓o_min, ↓o_max, ↓o_extract, ↓o_convInt, ↓cd_true, ↓cd_false, ↓gate_tt, ↓gate_ff, ↓gate_tf, ↓gate_ft, ↓gate_undef, ↓pop_cons, ↓fin_nil, Option.isNone_none, Option.isNone_some, Bool.not_true, Bool.not_false, Nat.zero_add, decide_true, decide_false, if_true, if_false, Bool.false_eq_true, ↓reduceIte]
    refine Count_spec h ?_
    simp only [hz, ↓o_nil, ↓o_field, ↓o_add, ↓o_sub, ↓o_mul, ↓o_lss, ↓o_leq, ↓o_gtr, ↓o_geq, ↓o_not, ↓o_pick, ↓o_eqInt, ↓o_neInt, ↓o_eqBool, ↓o_neBool, ↓o_eqPtr, ↓o_nePtr, ↓o_eqPtr', ↓o_eqSl, ↓o_neSl, ↓o_eqStr, ↓o_neStr, ↓o_len, ↓o_lenS, ↓o_min, ↓o_max, ↓o_extract, ↓o_convInt, ↓cd_true, ↓cd_false, ↓gate_tt, ↓gate_ff, ↓gate_tf, ↓gate_ft, ↓gate_undef, ↓pop_cons, ↓fin_nil, Option.isNone_none, Option.isNone_some, Bool.not_true, Bool.not_false, Nat.zero_add, decide_true, decide_false, if_true, if_false, Bool.false_eq_true, ↓reduceIte]
    refine Count_spec h ?_
    refine Cut_spec h inv.wf (by omega) (Nat.le_refl _) fun c2 w h => ?_
    rw [hall] at h
    simp only [↓o_nil, ↓o_field, ↓o_add, ↓o_sub, ↓o_mul, ↓o_lss, ↓o_leq, ↓o_gtr, ↓o_geq, ↓o_not, ↓o_pick, ↓o_eqInt, ↓o_neInt, ↓o_eqBool, ↓o_neBool, ↓o_eqPtr, ↓o_nePtr, ↓o_eqPtr', ↓o_eqSl, ↓o_neSl, ↓o_eqStr, ↓o_neStr, ↓o_len, ↓o_lenS, ↓o_min, ↓o_max, ↓o_extract, ↓o_convInt, ↓cd_true, ↓cd_false, ↓gate_tt, ↓gate_ff, ↓gate_tf, ↓gate_ft, ↓gate_undef, ↓pop_cons, ↓fin_nil, Option.isNone_none, Option.isNone_some, Bool.not_true, Bool.not_false, Nat.zero_add, decide_true, decide_false, if_true, if_false, Bool.false_eq_true, ↓reduceIte]
    refine Same_spec h (by omega) fun w h => ?_
    simp only [↓o_nil, ↓o_field, ↓o_add, ↓o_sub, ↓o_mul, ↓o_lss, ↓o_leq, ↓o_gtr, ↓o_geq, ↓o_not, ↓o_pick, ↓o_eqInt, ↓o_neInt, ↓o_eqBool, ↓o_neBool, ↓o_eqPtr, ↓o_nePtr, ↓o_eqPtr', ↓o_eqSl, ↓o_neSl, ↓o_eqStr, ↓o_neStr, ↓o_len, ↓o_lenS, ↓o_min, ↓o_max, ↓o_extract, ↓o_convInt, ↓cd_true, ↓cd_false, ↓gate_tt, ↓gate_ff, ↓gate_tf, ↓gate_ft, ↓gate_undef, ↓pop_cons, ↓fin_nil, Option.isNone_none, Option.isNone_some, Bool.not_true, Bool.not_false, Nat.zero_add, decide_true, decide_false, if_true, if_false, Bool.false_eq_true, ↓reduceIte]
    refine Count_spec h ?_
    simp only [↓o_nil, ↓o_field, ↓o_add, ↓o_sub, ↓o_mul, ↓o_lss, ↓o_leq, ↓o_gtr, ↓o_geq, ↓o_not, ↓o_pick, ↓o_eqInt, ↓o_neInt, ↓o_eqBool, ↓o_neBool, ↓o_eqPtr, ↓o_nePtr, ↓o_eqPtr', ↓o_eqSl, ↓o_neSl, ↓o_eqStr, ↓o_neStr, ↓o_len, ↓o_lenS, ↓o_min, ↓o_max, ↓o_extract, ↓o_convInt, ↓cd_true, ↓cd_false, ↓gate_tt, ↓gate_ff, ↓gate_tf, ↓gate_ft, ↓gate_undef, ↓pop_cons, ↓fin_nil, Option.isNone_none, Option.isNone_some, Bool.not_true, Bool.not_false, Nat.zero_add, decide_true, decide_false, if_true, if_false, Bool.false_eq_true, ↓reduceIte]
    refine cd_dec (fun _ => k w (h.split H).drop') (fun hne => ?_)
    have hn : n < W.length := by omega
    rw [i64_of (by omega) (by omega)]
    refine Cut_spec (n := n + 1) h inv.wf (by omega) (by omega) fun c3 w h => ?_
    simp only [↓o_nil, ↓o_field, ↓o_add, ↓o_sub, ↓o_mul, ↓o_lss, ↓o_leq, ↓o_gtr, ↓o_geq, ↓o_not, ↓o_pick, ↓o_eqInt, ↓o_neInt, ↓o_eqBool, ↓o_neBool, ↓o_eqPtr, ↓o_nePtr, ↓o_eqPtr', ↓o_eqSl, ↓o_neSl, ↓o_eqStr, ↓o_neStr, ↓o_len, ↓o_lenS, ↓o_min, ↓o_max, ↓o_extract, ↓o_convInt, ↓cd_true, ↓cd_false, ↓gate_tt, ↓gate_ff, ↓gate_tf, ↓gate_ft, ↓gate_undef, ↓pop_cons, ↓fin_nil, Option.isNone_none, Option.isNone_some, Bool.not_true, Bool.not_false, Nat.zero_add, decide_true, decide_false, if_true, if_false, Bool.false_eq_true, ↓reduceIte]
    refine Image_spec h (undo_wf inv n) fun vx usx w h => ?_
    refine Image_spec h (undo_wf inv (n + 1)) fun vy usy w h => ?_
    simp only [undo_length, hLl] at h
    obtain ⟨w1, w2, w3⟩ := inv.wf.w W[n] (List.getElem_mem hn)
    obtain ⟨p, hp⟩ := Int.eq_ofNat_of_zero_le w1
    have hX : undo L (W.drop n) = (undo L (W.drop (n + 1))).set p W[n].2 := by
      rw [List.drop_eq_getElem_cons hn]
      simp only [undo, List.foldr_cons, hp]
      rfl
    have hXl : (undo L (W.drop n)).length = 5 := by rw [undo_length, hLl]
    have hYl : (undo L (W.drop (n + 1))).length = 5 := by rw [undo_length, hLl]
    have r1 := rdd1 (v := vx) h usx (undo L (W.drop n))
    have r2 := rdd1 (v := vy) h usy (undo L (W.drop (n + 1)))
    obtain ⟨ax, cx, rfl, _, hux, hax⟩ := osl_shape (h.owns vx)
    obtain ⟨ay, cy, rfl, _, huy, hay⟩ := osl_shape (h.owns vy)
    obtain ⟨bx, rfl⟩ := hax (by omega)
    obtain ⟨b_y, rfl⟩ := hay (by omega)
    refine lp_nat (fun m σ w => ∃ (i a : Nat), σ = [.int .i64 a, .int .i64 i] ∧ m = 5 - i ∧ i ≤ 5 ∧ a ≤ 1 ∧ (i ≤ p → a = 0) ∧ sat E w _) 5 ⟨0, 0, rfl, rfl, by omega, by omega, fun _ => rfl, h⟩ ?_
    rintro m σ w again ⟨i, a, rfl, rfl, hi, ha, hap, h⟩ hag
    simp only [↓o_nil, ↓o_field, ↓o_add, ↓o_sub, ↓o_mul, ↓o_lss, ↓o_leq, ↓o_gtr, ↓o_geq, ↓o_not, ↓o_pick, ↓o_eqInt, ↓o_neInt, ↓o_eqBool, ↓o_neBool, ↓o_eqPtr, ↓o_nePtr, ↓o_eqPtr', ↓o_eqSl, ↓o_neSl, ↓o_eqStr, ↓o_neStr, ↓o_len, ↓o_lenS, ↓o_min, ↓o_max, ↓o_extract, ↓o_convInt, ↓cd_true, ↓cd_false, ↓gate_tt, ↓gate_ff, ↓gate_tf, ↓gate_ft, ↓gate_undef, ↓pop_cons, ↓fin_nil, Option.isNone_none, Option.isNone_some, Bool.not_true, Bool.not_false, Nat.zero_add, decide_true, decide_false, if_true, if_false, Bool.false_eq_true, ↓reduceIte]
    by_cases hlt : (i : Int) < (5 : Nat)
    · simp only [hlt, ↓o_nil, ↓o_field, ↓o_add, ↓o_sub, ↓o_mul, ↓o_lss, ↓o_leq, ↓o_gtr, ↓o_geq, ↓o_not, ↓o_pick, ↓o_eqInt, ↓o_neInt, ↓o_eqBool, ↓o_neBool, ↓o_eqPtr, ↓o_nePtr, ↓o_eqPtr', ↓o_eqSl, ↓o_neSl, ↓o_eqStr, ↓o_neStr, ↓o_len, ↓o_lenS, ↓o_min, ↓o_max, ↓o_extract, ↓o_convInt, ↓cd_true, ↓cd_false, ↓gate_tt, ↓gate_ff, ↓gate_tf, ↓gate_ft, ↓gate_undef, ↓pop_cons, ↓fin_nil, Option.isNone_none, Option.isNone_some, Bool.not_true, Bool.not_false, Nat.zero_add, decide_true, decide_false, if_true, if_false, Bool.false_eq_true, ↓reduceIte]
      have hlt : i < 5 := by omega
      have hi1 : i < usx.length := by rw [r1.2.1]; omega
      have hi2 : i < usy.length := by rw [r2.2.1]; omega
      refine jn_at h (fun X σ => ∃ a' : Nat, σ = [.int .i64 a'] ∧ a' ≤ 1 ∧ (i + 1 ≤ p → a' = 0)) ?_ ?_
      · intro kk hkk
        refine dr_sl h fun w h _ => ?_
        obtain ⟨_, _, e1, hb1⟩ := win_cell (r1.1.win h) (j := i) hi1
        cases e1
        obtain ⟨_, _, e1, hb2⟩ := win_cell (r2.1.win h) (j := i) hi2
        cases e1
        rw [o_index (by omega) (by omega)]
        simp only [Int.toNat_natCast, Nat.mul_one]
        rw [o_index (by omega) (by omega)]
        simp only [Int.toNat_natCast, Nat.mul_one]
        refine ld_cell hb1 ?_
        refine ld_cell hb2 ?_
        have hgx : i < (undo L (W.drop n)).length := by omega
        have hgy : i < (undo L (W.drop (n + 1))).length := by omega
        refine SameBytes_spec h (r1.2.2 i usx[i] (undo L (W.drop n))[i] (List.getElem?_eq_getElem hi1) (List.getElem?_eq_getElem hgx)) (r2.2.2 i usy[i] (undo L (W.drop (n + 1)))[i] (List.getElem?_eq_getElem hi2) (List.getElem?_eq_getElem hgy)) (by
          rw [(undo_wf inv n).l _ (List.getElem_mem hgx)]; omega) fun w h => ?_
        by_cases heq : (undo L (W.drop n))[i] = (undo L (W.drop (n + 1)))[i]
        · simp only [heq, ↓o_nil, ↓o_field, ↓o_add, ↓o_sub, ↓o_mul, ↓o_lss, ↓o_leq, ↓o_gtr, ↓o_geq, ↓o_not, ↓o_pick, ↓o_eqInt, ↓o_neInt, ↓o_eqBool, ↓o_neBool, ↓o_eqPtr, ↓o_nePtr, ↓o_eqPtr', ↓o_eqSl, ↓o_neSl, ↓o_eqStr, ↓o_neStr, ↓o_len, ↓o_lenS, ↓o_min, ↓o_max, ↓o_extract, ↓o_convInt, ↓cd_true, ↓cd_false, ↓gate_tt, ↓gate_ff, ↓gate_tf, ↓gate_ft, ↓gate_undef, ↓pop_cons, ↓fin_nil, Option.isNone_none, Option.isNone_some, Bool.not_true, Bool.not_false, Nat.zero_add, decide_true, decide_false, if_true, if_false, Bool.false_eq_true, ↓reduceIte]
          exact hkk _ _ ⟨a, rfl, ha, fun hh => hap (by omega)⟩ h
        · simp only [heq, ↓o_nil, ↓o_field, ↓o_add, ↓o_sub, ↓o_mul, ↓o_lss, ↓o_leq, ↓o_gtr, ↓o_geq, ↓o_not, ↓o_pick, ↓o_eqInt, ↓o_neInt, ↓o_eqBool, ↓o_neBool, ↓o_eqPtr, ↓o_nePtr, ↓o_eqPtr', ↓o_eqSl, ↓o_neSl, ↓o_eqStr, ↓o_neStr, ↓o_len, ↓o_lenS, ↓o_min, ↓o_max, ↓o_extract, ↓o_convInt, ↓cd_true, ↓cd_false, ↓gate_tt, ↓gate_ff, ↓gate_tf, ↓gate_ft, ↓gate_undef, ↓pop_cons, ↓fin_nil, Option.isNone_none, Option.isNone_some, Bool.not_true, Bool.not_false, Nat.zero_add, decide_true, decide_false, if_true, if_false, Bool.false_eq_true, ↓reduceIte]
          have hip : i = p := by
            rcases Nat.lt_trichotomy i p with hh | hh | hh
            · exfalso; apply heq
              have : (undo L (W.drop n))[i]? = (undo L (W.drop (n + 1)))[i]? := by rw [hX, List.getElem?_set_ne (by omega)]
              rw [List.getElem?_eq_getElem hgx, List.getElem?_eq_getElem hgy] at this
              exact Option.some.inj this
            · exact hh
            · exfalso; apply heq
              have : (undo L (W.drop n))[i]? = (undo L (W.drop (n + 1)))[i]? := by rw [hX, List.getElem?_set_ne (by omega)]
              rw [List.getElem?_eq_getElem hgx, List.getElem?_eq_getElem hgy] at this
              exact Option.some.inj this
          have ha0 : a = 0 := hap (by omega)
          subst ha0
          refine Writes_spec h (by omega) fun vw w h => ?_
          obtain ⟨aw, cw, rfl, _, _, haw⟩ := osl_shape h
          obtain ⟨bw, rfl⟩ := haw (by simp; omega)
          rw [o_index (by omega) (by simp; omega)]
          simp only [Int.toNat_natCast, Nat.mul_one, Nat.zero_add]
          have hwin := (Rds.own (v := .slice (some ⟨bw, 0, none⟩) (W.map (fun p : Int × List UInt8 => p.1)).length cw)).win h
          refine ld_cell (v := .int .i64 p) (by
            have := hwin.cell bw 0 rfl n (iv W[n].1) (by simp [List.getElem?_eq_getElem hn])
            rw [hp] at this
            simpa [iv] using this) ?_
          subst hip
          simp only [↓o_nil, ↓o_field, ↓o_add, ↓o_sub, ↓o_mul, ↓o_lss, ↓o_leq, ↓o_gtr, ↓o_geq, ↓o_not, ↓o_pick, ↓o_eqInt, ↓o_neInt, ↓o_eqBool, ↓o_neBool, ↓o_eqPtr, ↓o_nePtr, ↓o_eqPtr', ↓o_eqSl, ↓o_neSl, ↓o_eqStr, ↓o_neStr, ↓o_len, ↓o_lenS, ↓o_min, ↓o_max, ↓o_extract, ↓o_convInt, ↓cd_true, ↓cd_false, ↓gate_tt, ↓gate_ff, ↓gate_tf, ↓gate_ft, ↓gate_undef, ↓pop_cons, ↓fin_nil, Option.isNone_none, Option.isNone_some, Bool.not_true, Bool.not_false, Nat.zero_add, decide_true, decide_false, if_true, if_false, Bool.false_eq_true, ↓reduceIte]
          rw [i64_of (by omega) (by omega)]
          exact hkk _ _ ⟨1, rfl, by omega, fun hh => by omega⟩ h.drop
      · rintro σ w ⟨a', rfl, ha', hap'⟩ h
        simp only [↓o_nil, ↓o_field, ↓o_add, ↓o_sub, ↓o_mul, ↓o_lss, ↓o_leq, ↓o_gtr, ↓o_geq, ↓o_not, ↓o_pick, ↓o_eqInt, ↓o_neInt, ↓o_eqBool, ↓o_neBool, ↓o_eqPtr, ↓o_nePtr, ↓o_eqPtr', ↓o_eqSl, ↓o_neSl, ↓o_eqStr, ↓o_neStr, ↓o_len, ↓o_lenS, ↓o_min, ↓o_max, ↓o_extract, ↓o_convInt, ↓cd_true, ↓cd_false, ↓gate_tt, ↓gate_ff, ↓gate_tf, ↓gate_ft, ↓gate_undef, ↓pop_cons, ↓fin_nil, Option.isNone_none, Option.isNone_some, Bool.not_true, Bool.not_false, Nat.zero_add, decide_true, decide_false, if_true, if_false, Bool.false_eq_true, ↓reduceIte]
        rw [i64_of (by omega) (by omega)]
        exact hag _ _ _ (by omega) ⟨i + 1, a', rfl, rfl, by omega, ha', hap', h⟩
    · simp only [hlt, ↓o_nil, ↓o_field, ↓o_add, ↓o_sub, ↓o_mul, ↓o_lss, ↓o_leq, ↓o_gtr, ↓o_geq, ↓o_not, ↓o_pick, ↓o_eqInt, ↓o_neInt, ↓o_eqBool, ↓o_neBool, ↓o_eqPtr, ↓o_nePtr, ↓o_eqPtr', ↓o_eqSl, ↓o_neSl, ↓o_eqStr, ↓o_neStr, ↓o_len, ↓o_lenS, ↓o_min, ↓o_max, ↓o_extract, ↓o_convInt, ↓cd_true, ↓cd_false, ↓gate_tt, ↓gate_ff, ↓gate_tf, ↓gate_ft, ↓gate_undef, ↓pop_cons, ↓fin_nil, Option.isNone_none, Option.isNone_some, Bool.not_true, Bool.not_false, Nat.zero_add, decide_true, decide_false, if_true, if_false, Bool.false_eq_true, ↓reduceIte]
      have ha1 : (a : Int) ≤ 1 := by omega
      simp only [ha1, ↓o_nil, ↓o_field, ↓o_add, ↓o_sub, ↓o_mul, ↓o_lss, ↓o_leq, ↓o_gtr, ↓o_geq, ↓o_not, ↓o_pick, ↓o_eqInt, ↓o_neInt, ↓o_eqBool, ↓o_neBool, ↓o_eqPtr, ↓o_nePtr, ↓o_eqPtr', ↓o_eqSl, ↓o_neSl, ↓o_eqStr, ↓o_neStr, ↓o_len, ↓o_lenS, ↓o_min, ↓o_max, ↓o_extract, ↓o_convInt, ↓cd_true, ↓cd_false, ↓gate_tt, ↓gate_ff, ↓gate_tf, ↓gate_ft, ↓gate_undef, ↓pop_cons, ↓fin_nil, Option.isNone_none, Option.isNone_some, Bool.not_true, Bool.not_false, Nat.zero_add, decide_true, decide_false, if_true, if_false, Bool.false_eq_true, ↓reduceIte]
      exact k w (h.split H).drop'
theorem walk (W : World) {H : Type} (enc : TypeId × Value → H) (args : Array Value) (ds : List (DataW H)) (ps : List MemPlace)
    (hval : ∀ (j : Nat) t v, Try.f8.params.toList[j]? = some t → args.toList[j]? = some v → ∃ base, Value.okWide Try.checked.prog W .any base t v)
    (hA : DataW.TrodAll enc Try.checked.prog W 0 (fun _ => true) true Try.f8.params.toList args.toList ds ps) :
    Calls Try.checked.prog 8 args W (Ret fun v W' => v = .bool true ∧ Below W.heap.size W W') := by
  rw [show Try.f8.params.toList = [22, 3] by kernel_rfl] at hval hA
  obtain ⟨v0, vs0, d0, ds0, p0, q0, hargs, rfl, rfl, h0, r0'⟩ := trodAll_cons hA
  obtain ⟨v1, vs1, d1, ds1, p1, q1, rfl, rfl, rfl, h1, r1'⟩ := trodAll_cons r0'
  obtain ⟨rfl, rfl, rfl⟩ := trodAll_nil r1'
  obtain rfl : args = #[v0, v1] := by cases args; simp_all
  obtain ⟨b0, o0⟩ := hval 0 22 v0 rfl rfl
  obtain ⟨b1, o1⟩ := hval 1 3 v1 rfl rfl
  obtain ⟨x0, rx0, mx0⟩ := open_dds o0 h0
  obtain ⟨x1, rfl, mx1⟩ := open_i64 o1 h1
  exact Cuts_spec (sat.start W) x0 rx0 mx0 x1 mx1 fun w' h => ⟨rfl, sat.below (h.whole)⟩

theorem lifted (os : Os) (started : os.Started) (H : Type) (enc : TypeId × Value → H) :
    ReturnsInHanded {} Try.checked os 8 .any (Rows.blockCutsSpec.pre6 enc Try.prog Try.f8 Rows.blockCutsRow.domain false) (Rows.blockCutsSpec.post enc Try.prog Try.f8 false true false false) := by
  refine law_lifted (C := Try.checked) (tb := 4) (by kernel_rfl) started (by kernel_rfl) Try.func8
    (ChangeSpec.witness6 (enc := enc) (C := Try.checked) false ⟨#[], #[.slice none 0 0, .int .i64 0], []⟩ 8 (by kernel_rfl) (by kernel_rfl) (by kernel_rfl) (by kernel_rfl))
    (by kernel_rfl) (by kernel_rfl) (by kernel_rfl) (by kernel_rfl) rfl ?_ ?_
  · intro ds hd
    rw [show Try.f8.params.toList = [22, 3] by kernel_rfl] at hd
    match ds, hd with
    | [a0, a1], _ => rfl
  · exact fun W args ds ps => walk W enc args ds ps

theorem proved : Rows.BlockCutsSaid :=
  OpenClaim.holds_of_wide 8 Try.f8 rfl rfl rfl rfl rfl rfl rfl ⟨rfl, rfl, rfl, rfl, rfl⟩ rfl rfl rfl rfl rfl (by kernel_rfl) Try.func8 (by kernel_rfl)
    (of_decide_eq_true (by kernel_rfl)) (by unfold Func.isWrapper; first | (rw [if_pos (by decide +kernel)]; kernel_rfl) | (rw [if_neg (by decide +kernel)]; exact ⟨rfl, rfl⟩))
    (fun os started H enc _ => lifted os started H enc)
#print axioms proved
end Go.Proofs.Yteplajobjlehlaa.Cuts
