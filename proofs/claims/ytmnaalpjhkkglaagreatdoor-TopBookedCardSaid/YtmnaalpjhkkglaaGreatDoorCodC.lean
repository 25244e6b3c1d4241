/-
  The stream, and bytes hidden by it.
-/
import Derived.Test.YtmnaalpjhkkglaaGreatDoorHshO
import Derived.Test.YtmnaalpjhkkglaaGreatDoorPar
set_option linter.all false
set_option maxRecDepth 100000
namespace Go.Proofs.YtmnaalpjhkkglaaGreatDoor
open Go Hold
variable {E : World0} {w : World} {H R : HP} {K : Value → World → Prop}
def φB (n i : Nat) : Nat → Value → PP
  | 0, v => immS v 1 [bv 115]
  | 1, v => immS v 8 ((eightB n).map bv)
  | 2, v => immS v 8 ((eightB i).map bv)
  | _, _ => ppOf True
theorem cutA0 {b o c n : Nat} : cutA (some ⟨b, o, none⟩) c 0 n = some ⟨b, o, none⟩ := by
  unfold cutA
  split
  · rfl
  · show some ((⟨b, o, none⟩ : Addr).add (0 * n)) = _
    rw [add_addr]; simp
/-- The first cells of a slice of one's own. -/
theorem osl_cut {e n m c : Nat} {a : Option Addr} {xs : List Value} (h : sat E w (osl e 1 (.slice a n c) n xs * R)) (hm : m ≤ n) : sat E w (osl e 1 (.slice (cutA a c 0 1) m c) m (xs.take m) * R) := by
  rcases sat_osl.1 h with ⟨e1, e2, e3, hR⟩ | ⟨b, c', sp, e1, hxl, htot, hcl, hcm, hP⟩
  · simp only [Value.slice.injEq] at e1
    obtain ⟨rfl, rfl, rfl⟩ := e1
    have : m = 0 := by omega
    subst this
    exact sat_osl.2 (.inl ⟨by unfold cutA; simp, rfl, by simp, hR⟩)
  · simp only [Value.slice.injEq] at e1
    obtain ⟨rfl, _, rfl⟩ := e1
    rw [cutA0]
    refine sat_osl.2 (.inr ⟨b, c, xs.drop m ++ sp, rfl, by rw [List.length_take]; omega, ?_, by omega, hcm, ?_⟩)
    · rw [← List.append_assoc, List.take_append_drop]; exact htot
    · rw [← List.append_assoc, List.take_append_drop]; exact hP
theorem w64_of {n : Nat} (h : n < 18446744073709551616) : IntKind.u64.wrap (n : Int) = (n : Int) := by rw [IntKind.wrap_u64]; omega
/-- One block of the stream. -/
theorem block_spec {kb cb : Nat} {key : Bs} {n i : Nat} (hk : key.length = 32) (hn : n < 18446744073709551616) (hi : i < 1000) (h : sat E w H) [s1 : Has H kb (.cells (key.map bv).toArray 28 (0, 0))] [s2 : Has H cb (.cells [Value.int .u64 (n : Int)].toArray 79 (0, 0))]
    {J : Value → World → Prop} (k : ∀ w', sat E w' H → J (.agg ((blockB key n i).map bv).toArray) w') :
    par 3 w fun J_5 =>
      (∀ (σ : List (Option Value)) (w : World), J_5 σ w → un σ 0 (efv prog (Instr.buildSlice 22 1 #[(0, (.int .u8 115))]) w fun v_6 w => stv prog none (Instr.loadAt 79 (.pointer (some ⟨cb, 0, none⟩))) (.int .u64 (n : Int)) w <| J_5 (σ.set 0 (some v_6)) w)) ∧
      (∀ (σ : List (Option Value)) (w : World), J_5 σ w → un σ 1 (Calls prog 55 #[.int .u64 (n : Int)] w (Ret fun v_7 w => J_5 (σ.set 1 (some v_7)) w))) ∧
      (∀ (σ : List (Option Value)) (w : World), J_5 σ w → un σ 2 (Calls prog 55 #[.int .u64 (i : Int)] w (Ret fun v_8 w => stv prog none (Instr.loadAt 79 (.pointer (some ⟨cb, 0, none⟩))) (.int .u64 (n : Int)) w <| J_5 (σ.set 2 (some v_8)) w))) ∧
      ∀ (σ : List (Option Value)) (w : World), J_5 σ w → is σ 0 fun t_9 => is σ 1 fun t_10 => is σ 2 fun t_11 => 
      efv prog (Instr.buildSlice 232 3 #[(0, t_9), (1, t_10), (2, t_11)]) w fun t_12 w => stv prog none (Instr.loadAt 79 (.pointer (some ⟨cb, 0, none⟩))) (.int .u64 (n : Int)) w <| 
      Calls prog 127 #[t_12] w (Ret fun t_13 w => stv prog none (Instr.loadAt 79 (.pointer (some ⟨cb, 0, none⟩))) (.int .u64 (n : Int)) w <| 
      Calls prog 68 #[.slice (some ⟨kb, 0, none⟩) 32 32, t_13] w (Ret fun t_14 w => stv prog none (Instr.loadAt 79 (.pointer (some ⟨cb, 0, none⟩))) (.int .u64 (n : Int)) w <| J t_14 w)) := by
  refine par_sl (φB n i) h ?_
  clear h
  have st1 : ∀ {w : World} {A : Prop} {X : HP} {σ : List (Option Value)}, sat E w (X * slots (φB n i) σ H) → A → stv prog none (Instr.loadAt 79 (.pointer (some ⟨cb, 0, none⟩))) (.int .u64 (n : Int)) w A := fun h k => st_in (b := cb) (slots.old h.drop) rfl k
  have e1 : ∀ {w : World} {σ : List (Option Value)}, sat E w (slots (φB n i) σ H) → sat E w (emp * slots (φB n i) σ H) := fun h => h.perm (emp_star _).symm
  refine ⟨?_, ?_, ?_, ?_⟩
  · intro σ w h hu
    refine buildSlice_sl (e := 5) (cs := #[bv 115]) h (fun w => by kernel_rfl) fun b w h => ?_
    refine st1 h ?_
    exact slots.keepb (xs := [bv 115]) h (by omega) rfl fun I hI => hI
  · intro σ w h hu
    refine eight_spec h hn fun v w h => ?_
    exact slots.keep (sz := 1) h fun I hI => hI
  · intro σ w h hu
    refine eight_spec h (by omega) fun v w h => ?_
    refine st1 h ?_
    exact slots.keep (sz := 1) h fun I hI => hI
  · intro σ w h t9 h9 t10 h10 t11 h11
    have r9 : Rds (slots (φB n i) σ H) t9 1 [bv 115] := slots.rds h9 fun I hI => hI
    have r10 : Rds (slots (φB n i) σ H) t10 8 ((eightB n).map bv) := slots.rds h10 fun I hI => hI
    have r11 : Rds (slots (φB n i) σ H) t11 8 ((eightB i).map bv) := slots.rds h11 fun I hI => hI
    have e9 : t9.oneCell' = true := by obtain ⟨_, _, rfl, _⟩ := r9 E w h; rfl
    have e10 : t10.oneCell' = true := by obtain ⟨_, _, rfl, _⟩ := r10 E w h; rfl
    have e11 : t11.oneCell' = true := by obtain ⟨_, _, rfl, _⟩ := r11 E w h; rfl
    refine buildSlice_sl (e := 22) (cs := #[t9, t10, t11]) h (fun w => by
      obtain ⟨_, _, rfl, _⟩ := r9 E _ h; obtain ⟨_, _, rfl, _⟩ := r10 E _ h; obtain ⟨_, _, rfl, _⟩ := r11 E _ h; kernel_rfl) fun b5 w h => ?_
    refine st1 h ?_
    refine Concat_spec h (u := .slice (some ⟨b5, 0, none⟩) 3 3) (qs := [(t9, [115]), (t10, eightB n), (t11, eightB i)]) (rds_block (b := b5) (e := 22) (xs := [t9, t10, t11]) (fr := (0, 0)) (Nat.le_refl _)) (fun q hq => ?_) (by simp) (fun q hq => ?_) fun v w h => ?_
    · simp only [List.mem_cons, List.not_mem_nil, or_false] at hq
      rcases hq with rfl | rfl | rfl
      · exact r9.right
      · exact r10.right
      · exact r11.right
    · simp only [List.mem_cons, List.not_mem_nil, or_false] at hq
      rcases hq with rfl | rfl | rfl <;> simp [eightB_length]
    · have hcat : catB [(t9, ([115] : Bs)), (t10, eightB n), (t11, eightB i)] = [115] ++ (eightB n ++ eightB i) := by simp [catB]
      rw [hcat] at h
      refine st1 (by rw [star_assoc]; exact h) ?_
      have hkr : Rds (osl 5 1 v ([115] ++ (eightB n ++ eightB i)).length (([115] ++ (eightB n ++ eightB i)).map bv) * (pts b5 (.cells #[t9, t10, t11] 22 (0, 0)) * slots (φB n i) σ H)) (.slice (some ⟨kb, 0, none⟩) 32 32) 32 (key.map bv) := by
        have : Rds H (.slice (some ⟨kb, 0, none⟩) 32 32) 32 (key.map bv) := rds_block (b := kb) (Nat.le_refl _)
        exact (Rds.slots this).right.right
      refine Tag_spec h (key := key) (b := [115] ++ (eightB n ++ eightB i)) (by rw [hk]; exact hkr) Rds.osl.left (by omega) (by simp [eightB_length]) fun w h => ?_
      refine st1 (by rw [star_assoc]; exact h) ?_
      exact k w (slots.old h.drop.drop)
theorem Stream_spec (h : sat E w H) {key : Bs} (hk : key.length = 32) {n : Nat} (hn : n < 18446744073709551616) {m : Nat} (hm : m ≤ 1024) (k : ∀ v w', sat E w' (osl 5 1 v m ((streamN key n m).map bv) * H) → K (.tuple #[v, .int .i64 0]) w') :
    Calls prog 73 #[.agg (key.map bv).toArray, .int .u64 (n : Int), .int .i64 m] w (Ret K) := by
  have z32 : (key.map bv).length = 32 := by rw [List.length_map]; exact hk
  refine c73 ?_
  unfold B73
  refine box_sl h fun k0 w h => ?_
  have h : sat E w (pts k0 (.cells (key.map bv).toArray 28 (0, 0)) * H) := h
  refine box_sl h fun nb w h => ?_
  have h : sat E w (pts nb (.cells [Value.int .i64 m].toArray 3 (0, 0)) * (pts k0 (.cells (key.map bv).toArray 28 (0, 0)) * H)) := h
  refine ld_in (b := nb) (v := .int .i64 m) h rfl ?_
  simp only [decide_eq_false (show ¬ (m : Int) < 0 by omega), ↓o_nil, ↓o_field, ↓o_add, ↓o_sub, ↓o_mul, ↓o_lss, ↓o_leq, ↓o_gtr, ↓o_geq, ↓o_not, ↓o_pick, ↓o_eqInt, ↓o_neInt, ↓o_eqBool, ↓o_neBool, ↓o_eqPtr, ↓o_nePtr, ↓o_eqPtr', ↓o_eqSl, ↓o_neSl, ↓o_eqStr, ↓o_neStr, ↓o_len, ↓o_lenS, ↓o_min, ↓o_max, ↓o_extract, ↓o_convInt, ↓cd_true, ↓cd_false, ↓gate_tt, ↓gate_ff, ↓gate_tf, ↓gate_ft, ↓gate_undef, ↓o_bind, ↓stay_v, ↓pop_cons, ↓fin_nil, Option.isNone_none, Option.isNone_some, Bool.not_true, Bool.not_false, Nat.zero_add, decide_true, decide_false, if_true, if_false, Bool.false_eq_true, ↓reduceIte]
  refine ld_in (b := nb) (v := .int .i64 m) h rfl ?_
  simp only [decide_eq_false (show ¬ (1024 : Int) < (m : Int) by omega), ↓o_nil, ↓o_field, ↓o_add, ↓o_sub, ↓o_mul, ↓o_lss, ↓o_leq, ↓o_gtr, ↓o_geq, ↓o_not, ↓o_pick, ↓o_eqInt, ↓o_neInt, ↓o_eqBool, ↓o_neBool, ↓o_eqPtr, ↓o_nePtr, ↓o_eqPtr', ↓o_eqSl, ↓o_neSl, ↓o_eqStr, ↓o_neStr, ↓o_len, ↓o_lenS, ↓o_min, ↓o_max, ↓o_extract, ↓o_convInt, ↓cd_true, ↓cd_false, ↓gate_tt, ↓gate_ff, ↓gate_tf, ↓gate_ft, ↓gate_undef, ↓o_bind, ↓stay_v, ↓pop_cons, ↓fin_nil, Option.isNone_none, Option.isNone_some, Bool.not_true, Bool.not_false, Nat.zero_add, decide_true, decide_false, if_true, if_false, Bool.false_eq_true, ↓reduceIte]
  refine alloc_sl h fun ob w h => ?_
  have h : sat E w (pts ob (.cells [Value.slice none 0 0].toArray 22 (0, 0)) * (pts nb (.cells [Value.int .i64 m].toArray 3 (0, 0)) * (pts k0 (.cells (key.map bv).toArray 28 (0, 0)) * H))) := h
  refine ld_agg (b := k0) h z32 ?_
  refine c101 ?_
  unfold B101
  refine box_sl h fun kb w h => ?_
  have h : sat E w (pts kb (.cells (key.map bv).toArray 28 (0, 0)) * (pts ob (.cells [Value.slice none 0 0].toArray 22 (0, 0)) * (pts nb (.cells [Value.int .i64 m].toArray 3 (0, 0)) * (pts k0 (.cells (key.map bv).toArray 28 (0, 0)) * H)))) := h
  refine box_sl h fun cb w h => ?_
  have h : sat E w (pts cb (.cells [Value.int .u64 (n : Int)].toArray 79 (0, 0)) * (pts kb (.cells (key.map bv).toArray 28 (0, 0)) * (pts ob (.cells [Value.slice none 0 0].toArray 22 (0, 0)) * (pts nb (.cells [Value.int .i64 m].toArray 3 (0, 0)) * (pts k0 (.cells (key.map bv).toArray 28 (0, 0)) * H))))) := h
  refine pvv_of (v := .func (.func 126) #[] #[.pointer (some ⟨kb, 0, none⟩), .pointer (some ⟨cb, 0, none⟩)]) (fun _ => rfl) ?_
  refine rng_body h Tryz.func126 (by kernel_rfl) (by kernel_rfl) fun rec D D1 w h hround => ?_
  show Calls prog 126 #[.func (.yield D1) #[] #[], .pointer (some ⟨kb, 0, none⟩), .pointer (some ⟨cb, 0, none⟩)] _ _
  refine c126 ?_
  unfold B126
  have hB : blocksN m ≤ 32 := by unfold blocksN; omega
  refine lp_nat (fun r σ w => ∃ (i : Nat) (v : Value), σ = [.int .u64 (i : Int)] ∧ r = blocksN m - i ∧ i ≤ blocksN m ∧
      sat E w (pts D1 (rec .ready none) * (osl 5 1 v (32 * i) ((streamB key n i).map bv) * (pts ob (.cells [v].toArray 22 (0, 0)) * (pts nb (.cells [Value.int .i64 m].toArray 3 (0, 0)) * (pts kb (.cells (key.map bv).toArray 28 (0, 0)) * (pts cb (.cells [Value.int .u64 (n : Int)].toArray 79 (0, 0)) * (pts D (.deferred (some [])) * H)))))))) (blocksN m)
    ⟨0, .slice none 0 0, rfl, rfl, by omega, ?_⟩ ?_
  · have h := osl_nil h 5 1
    have h := h.perm (show _ = pts k0 (.cells (key.map bv).toArray 28 (0, 0)) * (pts D1 (rec .ready none) * (osl 5 1 (.slice none 0 0) (32 * 0) ((streamB key n 0).map bv) * (pts ob (.cells [Value.slice none 0 0].toArray 22 (0, 0)) * (pts nb (.cells [Value.int .i64 m].toArray 3 (0, 0)) * (pts kb (.cells (key.map bv).toArray 28 (0, 0)) * (pts cb (.cells [Value.int .u64 (n : Int)].toArray 79 (0, 0)) * (pts D (.deferred (some [])) * H))))))) by
      show osl 5 1 (.slice none 0 0) 0 [] * _ = _ * (_ * (osl 5 1 (.slice none 0 0) 0 [] * _))
      ac_rfl)
    exact h.drop
  clear h
  rintro r σ w again ⟨i, v, rfl, rfl, hi, h⟩ hag
  rw [pop_cons, fin_nil]
  refine dr_sl h fun w h _ => ?_
  rw [o_sliceA]
  simp only [o_bind, stay_v]
  refine ld_in (b := cb) (v := .int .u64 (n : Int)) h rfl ?_
  refine block_spec (kb := kb) (cb := cb) (key := key) hk hn (by omega) h fun w h => ?_
  have hbl := blockB_length key n i
  have hsl := streamB_length key n i
  refine hround [.agg ((blockB key n i).map bv).toArray] w _ rfl h.has ?_
  try simp only [↓o_nil, ↓o_field, ↓o_add, ↓o_sub, ↓o_mul, ↓o_lss, ↓o_leq, ↓o_gtr, ↓o_geq, ↓o_not, ↓o_pick, ↓o_eqInt, ↓o_neInt, ↓o_eqBool, ↓o_neBool, ↓o_eqPtr, ↓o_nePtr, ↓o_eqPtr', ↓o_eqSl, ↓o_neSl, ↓o_eqStr, ↓o_neStr, ↓o_len, ↓o_lenS, ↓o_min, ↓o_max, ↓o_extract, ↓o_convInt, ↓cd_true, ↓cd_false, ↓gate_tt, ↓gate_ff, ↓gate_tf, ↓gate_ft, ↓gate_undef, ↓o_bind, ↓stay_v, ↓pop_cons, ↓fin_nil, Option.isNone_none, Option.isNone_some, Bool.not_true, Bool.not_false, Nat.zero_add, decide_true, decide_false, if_true, if_false, Bool.false_eq_true, ↓reduceIte]
  refine alloc_sl h fun bb w h => ?_
  have h : sat E w (pts bb (.cells ((List.replicate 32 (0 : UInt8)).map bv).toArray 28 (0, 0)) * (pts D1 (rec .ready none) * (osl 5 1 v (32 * i) ((streamB key n i).map bv) * (pts ob (.cells [v].toArray 22 (0, 0)) * (pts nb (.cells [Value.int .i64 m].toArray 3 (0, 0)) * (pts kb (.cells (key.map bv).toArray 28 (0, 0)) * (pts cb (.cells [Value.int .u64 (n : Int)].toArray 79 (0, 0)) * (pts D (.deferred (some [])) * H)))))))) := h
  refine store_all (b := bb) h rfl (by rw [List.length_map]; exact hbl) (bv_one _) fun w h => ?_
  refine ⟨h.has, ?_⟩
  have h := (h.own D1).set (rec .busy none)
  try simp only [↓o_nil, ↓o_field, ↓o_add, ↓o_sub, ↓o_mul, ↓o_lss, ↓o_leq, ↓o_gtr, ↓o_geq, ↓o_not, ↓o_pick, ↓o_eqInt, ↓o_neInt, ↓o_eqBool, ↓o_neBool, ↓o_eqPtr, ↓o_nePtr, ↓o_eqPtr', ↓o_eqSl, ↓o_neSl, ↓o_eqStr, ↓o_neStr, ↓o_len, ↓o_lenS, ↓o_min, ↓o_max, ↓o_extract, ↓o_convInt, ↓cd_true, ↓cd_false, ↓gate_tt, ↓gate_ff, ↓gate_tf, ↓gate_ft, ↓gate_undef, ↓o_bind, ↓stay_v, ↓pop_cons, ↓fin_nil, Option.isNone_none, Option.isNone_some, Bool.not_true, Bool.not_false, Nat.zero_add, decide_true, decide_false, if_true, if_false, Bool.false_eq_true, ↓reduceIte]
  refine ld_in (b := ob) (v := v) h rfl ?_
  obtain ⟨va, vc, rfl, hvc, _, _⟩ := osl_shape (h.perm (show _ = osl 5 1 v (32 * i) ((streamB key n i).map bv) * (pts D1 (rec .busy none) * (pts bb (.cells ((blockB key n i).map bv).toArray 28 (0, 0)) * (pts ob (.cells [v].toArray 22 (0, 0)) * (pts nb (.cells [Value.int .i64 m].toArray 3 (0, 0)) * (pts kb (.cells (key.map bv).toArray 28 (0, 0)) * (pts cb (.cells [Value.int .u64 (n : Int)].toArray 79 (0, 0)) * (pts D (.deferred (some [])) * H))))))) by ac_rfl))
  try simp only [↓o_nil, ↓o_field, ↓o_add, ↓o_sub, ↓o_mul, ↓o_lss, ↓o_leq, ↓o_gtr, ↓o_geq, ↓o_not, ↓o_pick, ↓o_eqInt, ↓o_neInt, ↓o_eqBool, ↓o_neBool, ↓o_eqPtr, ↓o_nePtr, ↓o_eqPtr', ↓o_eqSl, ↓o_neSl, ↓o_eqStr, ↓o_neStr, ↓o_len, ↓o_lenS, ↓o_min, ↓o_max, ↓o_extract, ↓o_convInt, ↓cd_true, ↓cd_false, ↓gate_tt, ↓gate_ff, ↓gate_tf, ↓gate_ft, ↓gate_undef, ↓o_bind, ↓stay_v, ↓pop_cons, ↓fin_nil, Option.isNone_none, Option.isNone_some, Bool.not_true, Bool.not_false, Nat.zero_add, decide_true, decide_false, if_true, if_false, Bool.false_eq_true, ↓reduceIte]
  refine ld_in (b := nb) (v := .int .i64 m) h rfl ?_
  try simp only [↓o_nil, ↓o_field, ↓o_add, ↓o_sub, ↓o_mul, ↓o_lss, ↓o_leq, ↓o_gtr, ↓o_geq, ↓o_not, ↓o_pick, ↓o_eqInt, ↓o_neInt, ↓o_eqBool, ↓o_neBool, ↓o_eqPtr, ↓o_nePtr, ↓o_eqPtr', ↓o_eqSl, ↓o_neSl, ↓o_eqStr, ↓o_neStr, ↓o_len, ↓o_lenS, ↓o_min, ↓o_max, ↓o_extract, ↓o_convInt, ↓cd_true, ↓cd_false, ↓gate_tt, ↓gate_ff, ↓gate_tf, ↓gate_ft, ↓gate_undef, ↓o_bind, ↓stay_v, ↓pop_cons, ↓fin_nil, Option.isNone_none, Option.isNone_some, Bool.not_true, Bool.not_false, Nat.zero_add, decide_true, decide_false, if_true, if_false, Bool.false_eq_true, ↓reduceIte]
  by_cases hge : (m : Int) ≤ ((32 * i : Nat) : Int)
  · have hib : i = blocksN m := by unfold blocksN at hi ⊢; omega
    simp only [decide_eq_true hge, ↓o_nil, ↓o_field, ↓o_add, ↓o_sub, ↓o_mul, ↓o_lss, ↓o_leq, ↓o_gtr, ↓o_geq, ↓o_not, ↓o_pick, ↓o_eqInt, ↓o_neInt, ↓o_eqBool, ↓o_neBool, ↓o_eqPtr, ↓o_nePtr, ↓o_eqPtr', ↓o_eqSl, ↓o_neSl, ↓o_eqStr, ↓o_neStr, ↓o_len, ↓o_lenS, ↓o_min, ↓o_max, ↓o_extract, ↓o_convInt, ↓cd_true, ↓cd_false, ↓gate_tt, ↓gate_ff, ↓gate_tf, ↓gate_ft, ↓gate_undef, ↓o_bind, ↓stay_v, ↓pop_cons, ↓fin_nil, Option.isNone_none, Option.isNone_some, Bool.not_true, Bool.not_false, Nat.zero_add, decide_true, decide_false, if_true, if_false, Bool.false_eq_true, ↓reduceIte]
    refine ⟨h.has, ?_⟩
    have h := (h.own D1).set (rec .done (some (.exit 0)))
    refine st_in (b := cb) (v := .int .u64 (n : Int)) h rfl ?_
    try simp only [↓o_nil, ↓o_field, ↓o_add, ↓o_sub, ↓o_mul, ↓o_lss, ↓o_leq, ↓o_gtr, ↓o_geq, ↓o_not, ↓o_pick, ↓o_eqInt, ↓o_neInt, ↓o_eqBool, ↓o_neBool, ↓o_eqPtr, ↓o_nePtr, ↓o_eqPtr', ↓o_eqSl, ↓o_neSl, ↓o_eqStr, ↓o_neStr, ↓o_len, ↓o_lenS, ↓o_min, ↓o_max, ↓o_extract, ↓o_convInt, ↓cd_true, ↓cd_false, ↓gate_tt, ↓gate_ff, ↓gate_tf, ↓gate_ft, ↓gate_undef, ↓o_bind, ↓stay_v, ↓pop_cons, ↓fin_nil, Option.isNone_none, Option.isNone_some, Bool.not_true, Bool.not_false, Nat.zero_add, decide_true, decide_false, if_true, if_false, Bool.false_eq_true, ↓reduceIte]
    refine ⟨.done, some (.exit 0), h.has, by simp, ?_⟩
    have h := (h.own D1).set (rec .exhausted (some (.exit 0)))
    have h := ((((h.lose D1).lose bb).lose kb).lose cb)
    simp only [jump, jump.jumpX]
    refine ld_in (b := ob) (v := .slice va (32 * i) vc) h rfl ?_
    refine ld_in (b := nb) (v := .int .i64 m) h rfl ?_
    have hmi : m ≤ 32 * i := by omega
    have h := h.perm (show _ = osl 5 1 (.slice va (32 * i) vc) (32 * i) ((streamB key n i).map bv) * (pts D (.deferred (some [])) * (pts ob (.cells [Value.slice va (32 * i) vc].toArray 22 (0, 0)) * (pts nb (.cells [Value.int .i64 m].toArray 3 (0, 0)) * H))) by ac_rfl)
    rw [o_slice_h (by omega) (by omega)]
    simp only [Int.toNat_natCast]
    have h := osl_cut h hmi
    have hst : ((streamB key n i).map bv).take m = (streamN key n m).map bv := by unfold streamN; rw [← hib, List.map_take]
    rw [hst] at h
    refine ⟨h.has, ?_⟩
    have h := (h.own D).set (.deferred none)
    refine k _ _ ?_
    have h := ((h.lose D).lose ob).lose nb
    exact h
  · have hlt : 32 * i < m := by omega
    have hib : i < blocksN m := by unfold blocksN; omega
    simp only [decide_eq_false hge, ↓o_nil, ↓o_field, ↓o_add, ↓o_sub, ↓o_mul, ↓o_lss, ↓o_leq, ↓o_gtr, ↓o_geq, ↓o_not, ↓o_pick, ↓o_eqInt, ↓o_neInt, ↓o_eqBool, ↓o_neBool, ↓o_eqPtr, ↓o_nePtr, ↓o_eqPtr', ↓o_eqSl, ↓o_neSl, ↓o_eqStr, ↓o_neStr, ↓o_len, ↓o_lenS, ↓o_min, ↓o_max, ↓o_extract, ↓o_convInt, ↓cd_true, ↓cd_false, ↓gate_tt, ↓gate_ff, ↓gate_tf, ↓gate_ft, ↓gate_undef, ↓o_bind, ↓stay_v, ↓pop_cons, ↓fin_nil, Option.isNone_none, Option.isNone_some, Bool.not_true, Bool.not_false, Nat.zero_add, decide_true, decide_false, if_true, if_false, Bool.false_eq_true, ↓reduceIte]
    refine dr_sl h fun w h _ => ?_
    rw [o_sliceA]
    try simp only [↓o_nil, ↓o_field, ↓o_add, ↓o_sub, ↓o_mul, ↓o_lss, ↓o_leq, ↓o_gtr, ↓o_geq, ↓o_not, ↓o_pick, ↓o_eqInt, ↓o_neInt, ↓o_eqBool, ↓o_neBool, ↓o_eqPtr, ↓o_nePtr, ↓o_eqPtr', ↓o_eqSl, ↓o_neSl, ↓o_eqStr, ↓o_neStr, ↓o_len, ↓o_lenS, ↓o_min, ↓o_max, ↓o_extract, ↓o_convInt, ↓cd_true, ↓cd_false, ↓gate_tt, ↓gate_ff, ↓gate_tf, ↓gate_ft, ↓gate_undef, ↓o_bind, ↓stay_v, ↓pop_cons, ↓fin_nil, Option.isNone_none, Option.isNone_some, Bool.not_true, Bool.not_false, Nat.zero_add, decide_true, decide_false, if_true, if_false, Bool.false_eq_true, ↓reduceIte]
    refine ld_in (b := ob) (v := .slice va (32 * i) vc) h rfl ?_
    refine append_sl (v := .slice va (32 * i) vc) h ((blockB key n i).map bv) (k' := 32) (by rw [List.length_map]; exact hbl) (.inr ⟨bb, 0, _, _, _, rfl, h.has, fun j v hj => by simpa using hj⟩) (bv_one _) (by omega) (by omega) fun v' w h => ?_
    have hone' : v'.oneCell' = true := by
      obtain ⟨_, _, rfl, _⟩ := osl_shape h
      rfl
    try simp only [↓o_nil, ↓o_field, ↓o_add, ↓o_sub, ↓o_mul, ↓o_lss, ↓o_leq, ↓o_gtr, ↓o_geq, ↓o_not, ↓o_pick, ↓o_eqInt, ↓o_neInt, ↓o_eqBool, ↓o_neBool, ↓o_eqPtr, ↓o_nePtr, ↓o_eqPtr', ↓o_eqSl, ↓o_neSl, ↓o_eqStr, ↓o_neStr, ↓o_len, ↓o_lenS, ↓o_min, ↓o_max, ↓o_extract, ↓o_convInt, ↓cd_true, ↓cd_false, ↓gate_tt, ↓gate_ff, ↓gate_tf, ↓gate_ft, ↓gate_undef, ↓o_bind, ↓stay_v, ↓pop_cons, ↓fin_nil, Option.isNone_none, Option.isNone_some, Bool.not_true, Bool.not_false, Nat.zero_add, decide_true, decide_false, if_true, if_false, Bool.false_eq_true, ↓reduceIte]
    refine store_sl (b := ob) h hone' (by simp) fun w h => ?_
    refine ⟨h.has, ?_⟩
    have h := (h.own D1).set (rec .ready none)
    refine st_in (b := cb) (v := .int .u64 (n : Int)) h rfl ?_
    try simp only [↓o_nil, ↓o_field, ↓o_add, ↓o_sub, ↓o_mul, ↓o_lss, ↓o_leq, ↓o_gtr, ↓o_geq, ↓o_not, ↓o_pick, ↓o_eqInt, ↓o_neInt, ↓o_eqBool, ↓o_neBool, ↓o_eqPtr, ↓o_nePtr, ↓o_eqPtr', ↓o_eqSl, ↓o_neSl, ↓o_eqStr, ↓o_neStr, ↓o_len, ↓o_lenS, ↓o_min, ↓o_max, ↓o_extract, ↓o_convInt, ↓cd_true, ↓cd_false, ↓gate_tt, ↓gate_ff, ↓gate_tf, ↓gate_ft, ↓gate_undef, ↓o_bind, ↓stay_v, ↓pop_cons, ↓fin_nil, Option.isNone_none, Option.isNone_some, Bool.not_true, Bool.not_false, Nat.zero_add, decide_true, decide_false, if_true, if_false, Bool.false_eq_true, ↓reduceIte]
    rw [show ((i : Int) + 1) = ((i + 1 : Nat) : Int) by omega, w64_of (by omega)]
    have h := h.lose bb
    refine hag (blocksN m - (i + 1)) _ _ (by omega) ⟨i + 1, v', rfl, rfl, by omega, ?_⟩
    have e : (streamB key n (i + 1)).map bv = (streamB key n i).map bv ++ (blockB key n i).map bv := by show (streamB key n i ++ blockB key n i).map bv = _; rw [List.map_append]
    rw [e, show 32 * (i + 1) = 32 * i + 32 by omega]
    exact h.perm (by simp only [List.set_cons_zero]; ac_rfl)
theorem hidden_spec (h : sat E w H) {key : Bs} (hk : key.length = 32) {n : Nat} (hn : n < 18446744073709551616) {u : Value} {l : Bs} (hu : Rds H u l.length (l.map bv)) (hm : l.length ≤ 1024) (k : ∀ v w', sat E w' (osl 5 1 v l.length ((hideB key n l).map bv) * H) → K v w') :
    Calls prog 56 #[.agg (key.map bv).toArray, .int .u64 (n : Int), u] w (Ret K) := by
  obtain ⟨a, c, rfl, hc, hu, _⟩ := hu.shape h
  have z32 : (key.map bv).length = 32 := by rw [List.length_map]; exact hk
  refine c56 ?_
  unfold B56
  refine box_sl h fun k0 w h => ?_
  have h : sat E w (pts k0 (.cells (key.map bv).toArray 28 (0, 0)) * H) := h
  refine ld_agg (b := k0) h z32 ?_
  try simp only [↓o_nil, ↓o_field, ↓o_add, ↓o_sub, ↓o_mul, ↓o_lss, ↓o_leq, ↓o_gtr, ↓o_geq, ↓o_not, ↓o_pick, ↓o_eqInt, ↓o_neInt, ↓o_eqBool, ↓o_neBool, ↓o_eqPtr, ↓o_nePtr, ↓o_eqPtr', ↓o_eqSl, ↓o_neSl, ↓o_eqStr, ↓o_neStr, ↓o_len, ↓o_lenS, ↓o_min, ↓o_max, ↓o_extract, ↓o_convInt, ↓cd_true, ↓cd_false, ↓gate_tt, ↓gate_ff, ↓gate_tf, ↓gate_ft, ↓gate_undef, ↓o_bind, ↓stay_v, ↓pop_cons, ↓fin_nil, Option.isNone_none, Option.isNone_some, Bool.not_true, Bool.not_false, Nat.zero_add, decide_true, decide_false, if_true, if_false, Bool.false_eq_true, ↓reduceIte]
  refine Stream_spec h hk hn hm fun v w h => ?_
  have hsl := streamN_length key n l.length
  have hhl := hideB_length key n l
  try simp only [↓o_nil, ↓o_field, ↓o_add, ↓o_sub, ↓o_mul, ↓o_lss, ↓o_leq, ↓o_gtr, ↓o_geq, ↓o_not, ↓o_pick, ↓o_eqInt, ↓o_neInt, ↓o_eqBool, ↓o_neBool, ↓o_eqPtr, ↓o_nePtr, ↓o_eqPtr', ↓o_eqSl, ↓o_neSl, ↓o_eqStr, ↓o_neStr, ↓o_len, ↓o_lenS, ↓o_min, ↓o_max, ↓o_extract, ↓o_convInt, ↓cd_true, ↓cd_false, ↓gate_tt, ↓gate_ff, ↓gate_tf, ↓gate_ft, ↓gate_undef, ↓o_bind, ↓stay_v, ↓pop_cons, ↓fin_nil, Option.isNone_none, Option.isNone_some, Bool.not_true, Bool.not_false, Nat.zero_add, decide_true, decide_false, if_true, if_false, Bool.false_eq_true, ↓reduceIte]
  obtain ⟨va, vc, rfl, hvc, _, hpos⟩ := osl_shape h
  refine lp_nat (fun r σ w => ∃ i : Nat, σ = [.int .i64 i] ∧ r = l.length - i ∧ i ≤ l.length ∧ sat E w (osl 5 1 (.slice va l.length vc) l.length (((hideB key n l).take i ++ (streamN key n l.length).drop i).map bv) * (pts k0 (.cells (key.map bv).toArray 28 (0, 0)) * H))) l.length ⟨0, rfl, rfl, by omega, by simpa using h⟩ ?_
  clear h
  rintro r σ w again ⟨i, rfl, rfl, hi, h⟩ hag
  try simp only [↓o_nil, ↓o_field, ↓o_add, ↓o_sub, ↓o_mul, ↓o_lss, ↓o_leq, ↓o_gtr, ↓o_geq, ↓o_not, ↓o_pick, ↓o_eqInt, ↓o_neInt, ↓o_eqBool, ↓o_neBool, ↓o_eqPtr, ↓o_nePtr, ↓o_eqPtr', ↓o_eqSl, ↓o_neSl, ↓o_eqStr, ↓o_neStr, ↓o_len, ↓o_lenS, ↓o_min, ↓o_max, ↓o_extract, ↓o_convInt, ↓cd_true, ↓cd_false, ↓gate_tt, ↓gate_ff, ↓gate_tf, ↓gate_ft, ↓gate_undef, ↓o_bind, ↓stay_v, ↓pop_cons, ↓fin_nil, Option.isNone_none, Option.isNone_some, Bool.not_true, Bool.not_false, Nat.zero_add, decide_true, decide_false, if_true, if_false, Bool.false_eq_true, ↓reduceIte]
  refine cd_dec (fun hlt => ?_) (fun hge => ?_)
  · have hlt : i < l.length := by omega
    obtain ⟨vb, rfl⟩ := hpos (by omega)
    have hul : Rds (osl 5 1 (.slice (some ⟨vb, 0, none⟩) l.length vc) l.length (((hideB key n l).take i ++ (streamN key n l.length).drop i).map bv) * (pts k0 (.cells (key.map bv).toArray 28 (0, 0)) * H)) (.slice a l.length c) l.length (l.map bv) := hu.right.right
    obtain ⟨b1, o1, rfl, hb1⟩ := win_cell (hul.win h) (j := i) (by simpa using hlt)
    rw [o_index (by omega) (by omega)]
    simp only [Int.toNat_natCast, Nat.mul_one]
    refine ld_cell hb1 ?_
    rw [List.getElem_map, o_index (by omega) (by omega)]
    simp only [Int.toNat_natCast, Nat.mul_one, Nat.zero_add]
    have hg : ((hideB key n l).take i ++ (streamN key n l.length).drop i)[i]? = (streamN key n l.length)[i]? := take_drop_get hhl hlt
    have hgs : (streamN key n l.length)[i]? = some ((streamN key n l.length)[i]'(by omega)) := List.getElem?_eq_getElem (by omega)
    have hc2 := ((Rds.osl).win h.drop').cell vb 0 rfl i (bv ((streamN key n l.length)[i]'(by omega))) (by rw [List.getElem?_map, hg, hgs]; rfl)
    rw [Nat.zero_add] at hc2
    refine ld_cell hc2 ?_
    rw [o_xorB, o_index (by omega) (by omega)]
    simp only [Int.toNat_natCast, Nat.mul_one, Nat.zero_add]
    refine osl_store (b := vb) (n := l.length) (c := vc) (e := 5) (t := 5) (xs := ((hideB key n l).take i ++ (streamN key n l.length).drop i).map bv) (R := pts k0 (.cells (key.map bv).toArray 28 (0, 0)) * H) h hlt rfl fun w h => ?_
    try simp only [↓o_nil, ↓o_field, ↓o_add, ↓o_sub, ↓o_mul, ↓o_lss, ↓o_leq, ↓o_gtr, ↓o_geq, ↓o_not, ↓o_pick, ↓o_eqInt, ↓o_neInt, ↓o_eqBool, ↓o_neBool, ↓o_eqPtr, ↓o_nePtr, ↓o_eqPtr', ↓o_eqSl, ↓o_neSl, ↓o_eqStr, ↓o_neStr, ↓o_len, ↓o_lenS, ↓o_min, ↓o_max, ↓o_extract, ↓o_convInt, ↓cd_true, ↓cd_false, ↓gate_tt, ↓gate_ff, ↓gate_tf, ↓gate_ft, ↓gate_undef, ↓o_bind, ↓stay_v, ↓pop_cons, ↓fin_nil, Option.isNone_none, Option.isNone_some, Bool.not_true, Bool.not_false, Nat.zero_add, decide_true, decide_false, if_true, if_false, Bool.false_eq_true, ↓reduceIte]
    rw [i64_of (by omega) (by omega)]
    refine hag (l.length - (i + 1)) _ _ (by omega) ⟨i + 1, rfl, rfl, by omega, ?_⟩
    rw [← List.map_set] at h
    have hv : (hideB key n l)[i]? = some ((streamN key n l.length)[i]'(by omega) ^^^ l[i]) := by
      unfold hideB xorB
      rw [List.getElem?_zipWith, hgs, List.getElem?_eq_getElem hlt]
    rw [take_drop_set hhl hsl hlt hv] at h
    exact h
  · have hil : i = l.length := by omega
    subst hil
    rw [List.take_of_length_le (by omega), List.drop_of_length_le (by omega), List.append_nil] at h
    exact k _ w ((h.perm (star_left_comm _ _ _)).drop)

end Go.Proofs.YtmnaalpjhkkglaaGreatDoor

/-
  Texts are sealed and opened.
-/
set_option linter.all false
set_option maxRecDepth 100000
namespace Go.Proofs.YtmnaalpjhkkglaaGreatDoor
open Go Hold
variable {E : World0} {w : World} {H R : HP} {K : Value → World → Prop}
def A0 (body : Bs) : Option Value → Option Value → HP
  | _, some v2 => osl 5 1 v2 (body.length + 1) ((116 :: body).map bv)
  | some v, none => osl 5 1 v 1 [bv 116]
  | none, none => Hold.emp
def zeros32' : Bs := List.replicate 32 0
def A1 : Option Value → HP
  | some v => ex fun b : Nat => pur (v = .pointer (some ⟨b, 0, none⟩)) * pts b (.cells (zeros32'.map bv).toArray 28 (0, 0))
  | none => Hold.emp
theorem tagOf_spec (h : sat E w H) {key : Bs} (hk : key.length = 32) {u : Value} {l : Bs} (hu : Rds H u l.length (l.map bv)) (hm : l.length ≤ 2000) (k : ∀ w', sat E w' H → K (.agg ((tagB key l).map bv).toArray) w') :
    Calls prog 57 #[.agg (key.map bv).toArray, u] w (Ret K) := by
  obtain ⟨a, c, rfl, hc, hu, _⟩ := hu.shape h
  have htl := tag_length key (116 :: l)
  refine c57 ?_
  unfold B57
  refine box_sl h fun kb w h => ?_
  have h : sat E w (pts kb (.cells (key.map bv).toArray 28 (0, 0)) * H) := h
  refine alloc_sl h fun tb w h => ?_
  have h : sat E w (pts tb (.cells ((List.replicate 16 (0 : UInt8)).map bv).toArray 130 (0, 0)) * (pts kb (.cells (key.map bv).toArray 28 (0, 0)) * H)) := h
  refine dr_sl h fun w h _ => ?_
  rw [o_sliceA]
  have hkr : ∀ {X Y Z : HP}, Rds (X * (Y * (Z * (pts kb (.cells (key.map bv).toArray 28 (0, 0)) * H)))) (.slice (some ⟨kb, 0, none⟩) 32 32) key.length (key.map bv) := fun {X Y Z} => by rw [hk]; exact rds_block (b := kb) (Nat.le_refl _)
  have hul : ∀ {X Y Z U : HP}, Rds (X * (Y * (Z * (U * H)))) (.slice a l.length c) l.length (l.map bv) := hu.right.right.right.right
  refine ⟨fun σ w => ∃ x0 x1 x2 x3 : Option Value, σ = [x0, x1, x2, x3] ∧ (∀ v, x3 = some v → v = .agg ((tag key (116 :: l)).map bv).toArray) ∧ sat E w (A0 l x0 x2 * (A1 x1 * (pts tb (.cells ((List.replicate 16 (0 : UInt8)).map bv).toArray 130 (0, 0)) * (pts kb (.cells (key.map bv).toArray 28 (0, 0)) * H)))), ?_, ?_, ?_, ?_, ?_, ?_⟩
  · refine ⟨none, none, none, none, rfl, (fun v e => nomatch e), ?_⟩
    show sat E w (Hold.emp * (Hold.emp * _))
    rw [emp_star, emp_star]
    exact h
  · rintro σ w ⟨x0, x1, x2, x3, rfl, h3, h⟩ hu0
    obtain rfl : x0 = none := by simpa using hu0
    refine buildSlice_sl (e := 5) (cs := #[bv 116]) h (fun w => by kernel_rfl) fun b w h => ?_
    have h := osl_of (n := 1) (sz := 1) (xs := [bv 116]) h rfl (by omega)
    refine ⟨some _, x1, x2, x3, rfl, h3, ?_⟩
    cases x2 with
    | none =>
      have h : sat E w (osl 5 1 (.slice (some ⟨b, 0, none⟩) 1 1) 1 [bv 116] * (Hold.emp * (A1 x1 * (pts tb (.cells ((List.replicate 16 (0 : UInt8)).map bv).toArray 130 (0, 0)) * (pts kb (.cells (key.map bv).toArray 28 (0, 0)) * H))))) := h
      rw [emp_star] at h
      exact h
    | some v2 => exact h.drop
  · rintro σ w ⟨x0, x1, x2, x3, rfl, h3, h⟩ hu1
    obtain rfl : x1 = none := by simpa using hu1
    refine alloc_sl h fun b w h => ?_
    have h : sat E w (pts b (.cells (zeros32'.map bv).toArray 28 (0, 0)) * (A0 l x0 x2 * (Hold.emp * (pts tb (.cells ((List.replicate 16 (0 : UInt8)).map bv).toArray 130 (0, 0)) * (pts kb (.cells (key.map bv).toArray 28 (0, 0)) * H))))) := h
    rw [emp_star] at h
    refine ⟨x0, some _, x2, x3, rfl, h3, ?_⟩
    have h2 : sat E w (A1 (some (.pointer (some ⟨b, 0, none⟩))) * (A0 l x0 x2 * (pts tb (.cells ((List.replicate 16 (0 : UInt8)).map bv).toArray 130 (0, 0)) * (pts kb (.cells (key.map bv).toArray 28 (0, 0)) * H)))) := by
      unfold A1
      rw [sat_ex_star]
      refine ⟨b, ?_⟩
      rw [star_assoc]
      exact sat_pur_star.2 ⟨rfl, h⟩
    exact h2.perm (star_left_comm _ _ _)
  · rintro σ w ⟨x0, x1, x2, x3, rfl, h3, h⟩ hu2 t6 h6
    obtain rfl : x2 = none := by simpa using hu2
    obtain rfl : x0 = some t6 := by simpa using h6
    have h : sat E w (osl 5 1 t6 1 [bv 116] * (A1 x1 * (pts tb (.cells ((List.replicate 16 (0 : UInt8)).map bv).toArray 130 (0, 0)) * (pts kb (.cells (key.map bv).toArray 28 (0, 0)) * H)))) := h
    refine append_sl (v := t6) h (l.map bv) (k' := l.length) (by simp) (Rds.win (H := osl 5 1 t6 1 [bv 116] * (A1 x1 * (pts tb (.cells ((List.replicate 16 (0 : UInt8)).map bv).toArray 130 (0, 0)) * (pts kb (.cells (key.map bv).toArray 28 (0, 0)) * H)))) (c := c) (n := l.length) hul h) (bv_one _) (by omega) (by omega) fun v' w h => ?_
    refine ⟨some t6, x1, some v', x3, rfl, h3, ?_⟩
    show sat E w (osl 5 1 v' (l.length + 1) ((116 :: l).map bv) * _)
    rw [Nat.add_comm]
    exact h
  · rintro σ w ⟨x0, x1, x2, x3, rfl, h3, h⟩ hu3 t8 h8
    obtain rfl : x3 = none := by simpa using hu3
    obtain rfl : x2 = some t8 := by simpa using h8
    have e0 : A0 l x0 (some t8) = osl 5 1 t8 (l.length + 1) ((116 :: l).map bv) := by cases x0 <;> rfl
    rw [e0] at h
    refine Tag_spec h (key := key) (b := 116 :: l) hkr (Rds.osl.left) (by omega) (by simp; omega) fun w h => ?_
    refine ⟨x0, x1, some t8, some _, rfl, fun v e => (Option.some.inj e).symm, ?_⟩
    rw [e0]; exact h
  · rintro σ w ⟨x0, x1, x2, x3, rfl, h3, h⟩ t10 h10 h11 hh11 t12 h12 t13 h13
    obtain rfl : x0 = some t10 := by simpa using h10
    obtain rfl : x1 = some h11 := by simpa using hh11
    obtain rfl : x2 = some t12 := by simpa using h12
    obtain rfl : x3 = some t13 := by simpa using h13
    obtain rfl := h3 t13 rfl
    have h : sat E w (A1 (some h11) * (pts tb (.cells ((List.replicate 16 (0 : UInt8)).map bv).toArray 130 (0, 0)) * (pts kb (.cells (key.map bv).toArray 28 (0, 0)) * H))) := h.drop
    unfold A1 at h
    rw [sat_ex_star] at h
    obtain ⟨b, h⟩ := h
    rw [star_assoc] at h
    obtain ⟨rfl, h⟩ := sat_pur_star.1 h
    refine store_all (b := b) h rfl (by rw [List.length_map]; exact htl) (bv_one _) fun w h => ?_
    rw [o_sliceA_h (by decide) (by decide)]
    refine arr_at (by decide) ?_
    have htk : ((((tag key (116 :: l)).map bv).drop 0).take 16) = (tagB key l).map bv := by rw [List.drop_zero, ← List.map_take]; rfl
    have htg : ((tagB key l).map bv).length = 16 := by rw [List.length_map]; exact tagB_length _ _
    refine ld_part (b := b) h ((tagB key l).map bv) htg htk ?_
    refine store_all (b := tb) h rfl htg (bv_one _) fun w h => ?_
    refine res_agg (b := tb) h htg ?_
    exact k w h.drop.drop.drop.drop
/-- What is sealed, or why not. -/
theorem Seal_spec (h : sat E w H) {key : Bs} (hk : key.length = 32) {n : Nat} (hn : n < 18446744073709551616) {u : Value} {l : Bs} (hu : Rds H u l.length (l.map bv))
    (k0 : 1024 < l.length → ∀ w', sat E w' H → K (.tuple #[.slice none 0 0, .int .i64 6]) w')
    (k : l.length ≤ 1024 → ∀ v w', sat E w' (osl 5 1 v (l.length + 24) ((sealB key n l).map bv) * H) → K (.tuple #[v, .int .i64 0]) w') :
    Calls prog 33 #[.agg (key.map bv).toArray, .int .u64 (n : Int), u] w (Ret K) := by
  obtain ⟨a, c, rfl, hc, hu, _⟩ := hu.shape h
  have z32 : (key.map bv).length = 32 := by rw [List.length_map]; exact hk
  refine c33 ?_
  unfold B33
  refine box_sl h fun kb w h => ?_
  have h : sat E w (pts kb (.cells (key.map bv).toArray 28 (0, 0)) * H) := h
  try simp only [↓o_nil, ↓o_field, ↓o_add, ↓o_sub, ↓o_mul, ↓o_lss, ↓o_leq, ↓o_gtr, ↓o_geq, ↓o_not, ↓o_pick, ↓o_eqInt, ↓o_neInt, ↓o_eqBool, ↓o_neBool, ↓o_eqPtr, ↓o_nePtr, ↓o_eqPtr', ↓o_eqSl, ↓o_neSl, ↓o_eqStr, ↓o_neStr, ↓o_len, ↓o_lenS, ↓o_min, ↓o_max, ↓o_extract, ↓o_convInt, ↓cd_true, ↓cd_false, ↓gate_tt, ↓gate_ff, ↓gate_tf, ↓gate_ft, ↓gate_undef, ↓o_bind, ↓stay_v, ↓pop_cons, ↓fin_nil, Option.isNone_none, Option.isNone_some, Bool.not_true, Bool.not_false, Nat.zero_add, decide_true, decide_false, if_true, if_false, Bool.false_eq_true, ↓reduceIte]
  by_cases hm : (1024 : Int) < (l.length : Int)
  · simp only [decide_eq_true hm, ↓o_nil, ↓o_field, ↓o_add, ↓o_sub, ↓o_mul, ↓o_lss, ↓o_leq, ↓o_gtr, ↓o_geq, ↓o_not, ↓o_pick, ↓o_eqInt, ↓o_neInt, ↓o_eqBool, ↓o_neBool, ↓o_eqPtr, ↓o_nePtr, ↓o_eqPtr', ↓o_eqSl, ↓o_neSl, ↓o_eqStr, ↓o_neStr, ↓o_len, ↓o_lenS, ↓o_min, ↓o_max, ↓o_extract, ↓o_convInt, ↓cd_true, ↓cd_false, ↓gate_tt, ↓gate_ff, ↓gate_tf, ↓gate_ft, ↓gate_undef, ↓o_bind, ↓stay_v, ↓pop_cons, ↓fin_nil, Option.isNone_none, Option.isNone_some, Bool.not_true, Bool.not_false, Nat.zero_add, decide_true, decide_false, if_true, if_false, Bool.false_eq_true, ↓reduceIte]
    exact k0 (by omega) w h.drop
  have hm' : l.length ≤ 1024 := by omega
  have k := k hm'
  simp only [decide_eq_false hm, ↓o_nil, ↓o_field, ↓o_add, ↓o_sub, ↓o_mul, ↓o_lss, ↓o_leq, ↓o_gtr, ↓o_geq, ↓o_not, ↓o_pick, ↓o_eqInt, ↓o_neInt, ↓o_eqBool, ↓o_neBool, ↓o_eqPtr, ↓o_nePtr, ↓o_eqPtr', ↓o_eqSl, ↓o_neSl, ↓o_eqStr, ↓o_neStr, ↓o_len, ↓o_lenS, ↓o_min, ↓o_max, ↓o_extract, ↓o_convInt, ↓cd_true, ↓cd_false, ↓gate_tt, ↓gate_ff, ↓gate_tf, ↓gate_ft, ↓gate_undef, ↓o_bind, ↓stay_v, ↓pop_cons, ↓fin_nil, Option.isNone_none, Option.isNone_some, Bool.not_true, Bool.not_false, Nat.zero_add, decide_true, decide_false, if_true, if_false, Bool.false_eq_true, ↓reduceIte]
  refine dr_sl h fun w h _ => ?_
  refine ld_agg (b := kb) h z32 ?_
  refine eight_spec h hn fun v5 w h => ?_
  refine st_agg (b := kb) h z32 ?_
  refine hidden_spec h hk hn (hu.right.right) hm' fun v6 w h => ?_
  have hhl := hideB_length key n l
  obtain ⟨a6, c6, rfl, hc6, _, _⟩ := osl_shape h
  have hw6 := (Rds.osl (e := 5) (sz := 1) (v := .slice a6 l.length c6) (xs := (hideB key n l).map bv) (n := l.length)).win h.drop'
  refine append_sl (v := v5) h ((hideB key n l).map bv) (k' := l.length) (by rw [List.length_map]; omega) hw6 (bv_one _) (by omega) (by omega) fun v7 w h => ?_
  have hb : (eightB n).map bv ++ (hideB key n l).map bv = (bodyB key n l).map bv := by unfold bodyB; rw [List.map_append]
  have hbl := bodyB_length key n l
  rw [hb] at h
  refine st_agg (b := kb) h z32 ?_
  refine ld_agg (b := kb) h z32 ?_
  refine tagOf_spec h hk (l := bodyB key n l) (by rw [hbl]; exact Rds.osl.left) (by omega) fun w h => ?_
  refine alloc_sl h fun tb w h => ?_
  have htg : ((tagB key (bodyB key n l)).map bv).length = 16 := by rw [List.length_map]; exact tagB_length _ _
  have h : sat E w (pts tb (.cells ((List.replicate 16 (0 : UInt8)).map bv).toArray 130 (0, 0)) * (osl 5 1 v7 (8 + l.length) ((bodyB key n l).map bv) * (osl 5 1 (.slice a6 l.length c6) l.length ((hideB key n l).map bv) * (pts kb (.cells (key.map bv).toArray 28 (0, 0)) * H)))) := h
  refine store_all (b := tb) h rfl htg (bv_one _) fun w h => ?_
  rw [o_sliceA]
  refine append_sl (v := v7) h ((tagB key (bodyB key n l)).map bv) (k' := 16) (by rw [htg]) (.inr ⟨tb, 0, _, _, _, rfl, h.has, fun j v hj => by simpa using hj⟩) (bv_one _) (by omega) (by omega) fun v8 w h => ?_
  refine k v8 w ?_
  have hs : (bodyB key n l).map bv ++ (tagB key (bodyB key n l)).map bv = (sealB key n l).map bv := by unfold sealB; rw [List.map_append]
  rw [hs, show 8 + l.length + 16 = l.length + 24 by omega] at h
  have h := h.perm (show _ = pts tb (.cells ((tagB key (bodyB key n l)).map bv).toArray 130 (0, 0)) * (osl 5 1 (.slice a6 l.length c6) l.length ((hideB key n l).map bv) * (pts kb (.cells (key.map bv).toArray 28 (0, 0)) * (osl 5 1 v8 (l.length + 24) ((sealB key n l).map bv) * H))) by ac_rfl)
  exact h.drop.drop.drop
end Go.Proofs.YtmnaalpjhkkglaaGreatDoor

/-
  What was sealed is opened.
-/
set_option linter.all false
set_option maxRecDepth 100000
namespace Go.Proofs.YtmnaalpjhkkglaaGreatDoor
open Go Hold
variable {E : World0} {w : World} {H R : HP} {K : Value → World → Prop}
theorem or_bits {a b : Nat} (ha : a < 18446744073709551616) (h0 : a % 256 = 0) (hb : b < 256) : a ||| b = a + b := by
  have e : a = (a / 256) <<< 8 := by rw [Nat.shiftLeft_eq]; omega
  rw [e]
  exact (Nat.shiftLeft_add_eq_or_of_lt (i := 8) hb (a / 256)).symm
theorem o_or64 {P : Program} {t : TypeId} {a b : Nat} (ha : a < 18446744073709551616) (h0 : a % 256 = 0) (hb : b < 256) {K : Value → World → Prop} : pvv P (binOp .or t (.int .u64 (a : Int)) (.int .u64 (b : Int))) w K = K (.int .u64 ((a + b : Nat) : Int)) w := pvv_eq fun w => by
  have e : IntKind.u64.wrap ((BitVec.ofInt 64 (a : Int) ||| BitVec.ofInt 64 (b : Int)).toNat : Int) = ((a + b : Nat) : Int) := by
    rw [BitVec.toNat_or, BitVec.ofInt_natCast, BitVec.ofInt_natCast, BitVec.toNat_ofNat, BitVec.toNat_ofNat, Nat.mod_eq_of_lt (by omega), Nat.mod_eq_of_lt (by omega), or_bits ha h0 hb, IntKind.wrap_u64]
    omega
  show (pure (.int .u64 (IntKind.u64.wrap ((BitVec.ofInt 64 (a : Int) ||| BitVec.ofInt 64 (b : Int)).toNat : Int))) : Sem Value).run P w = _
  rw [e]; rfl
/-- What Open tells. -/
def openB (key s : Bs) : Bs × Nat × Int :=
  if s.length < 24 then ([], 0, 3) else if 1048 < s.length then ([], 0, 6)
  else if tagB key (s.take (s.length - 16)) ≠ s.drop (s.length - 16) then ([], 0, 10)
  else (hideB key (onceB (s.take 8)) ((s.take (s.length - 16)).drop 8), onceB (s.take 8), 0)
theorem open_seal {key : Bs} {n : Nat} {p : Bs} (hn : n < 18446744073709551616) (hp : p.length ≤ 1024) : openB key (sealB key n p) = (p, n, 0) := by
  have hl := sealB_length key n p
  have hbl := bodyB_length key n p
  unfold openB
  rw [if_neg (by omega), if_neg (by omega), hl, show p.length + 24 - 16 = (bodyB key n p).length by omega]
  have e1 : (sealB key n p).take (bodyB key n p).length = bodyB key n p := by unfold sealB; rw [List.take_left]
  have e2 : (sealB key n p).drop (bodyB key n p).length = tagB key (bodyB key n p) := by unfold sealB; rw [List.drop_left]
  have e3 : (sealB key n p).take 8 = eightB n := by
    unfold sealB bodyB
    rw [List.append_assoc, List.take_append_of_le_length (by rw [eightB_length]; omega), List.take_of_length_le (by rw [eightB_length]; omega)]
  have e4 : (bodyB key n p).drop 8 = hideB key n p := by
    unfold bodyB
    rw [List.drop_append_of_le_length (by rw [eightB_length]; omega), List.drop_of_length_le (by rw [eightB_length]; omega), List.nil_append]
  rw [e1, e2, e3, e4, if_neg (by simp), once_eight hn, hideB_twice]
def φO (key s : Bs) (b o : Nat) : Nat → Value → PP
  | 0, v => ppOf (v = .agg ((tagB key (s.take (s.length - 16))).map bv).toArray)
  | 1, v => ppOf (v = .pointer (some ⟨b, o + (s.length - 16), none⟩))
  | 2, v => ppOf (v = .agg ((s.drop (s.length - 16)).map bv).toArray)
  | _, _ => ppOf True
theorem Open_spec (h : sat E w H) {key : Bs} (hk : key.length = 32) {u : Value} {s : Bs} (hu : Rds H u s.length (s.map bv)) (hs : s.length ≤ 1000000)
    (k : ∀ v w', sat E w' (osl 5 1 v (openB key s).1.length ((openB key s).1.map bv) * H) → K (.tuple #[v, .int .u64 (openB key s).2.1, .int .i64 (openB key s).2.2]) w') :
    Calls prog 34 #[.agg (key.map bv).toArray, u] w (Ret K) := by
  obtain ⟨a, c, rfl, hc, hu, ha⟩ := hu.shape h
  have z32 : (key.map bv).length = 32 := by rw [List.length_map]; exact hk
  refine c34 ?_
  unfold B34
  refine box_sl h fun kb w h => ?_
  have h : sat E w (pts kb (.cells (key.map bv).toArray 28 (0, 0)) * H) := h
  rw [o_len]
  refine Size_spec (n := 0) (by omega) ?_
  rw [o_lss]
  by_cases h1 : s.length < 24
  · have e : openB key s = ([], 0, 3) := by unfold openB; rw [if_pos h1]
    rw [decide_eq_true (show (s.length : Int) < ((0 + 24 : Nat) : Int) by omega), cd_true]
    rw [e] at k
    exact k _ _ (osl_nil h.drop 5 1)
  rw [decide_eq_false (show ¬ (s.length : Int) < ((0 + 24 : Nat) : Int) by omega), cd_false, o_len]
  refine Size_spec (n := 1024) (by omega) ?_
  rw [o_gtr]
  by_cases h2 : 1048 < s.length
  · have e : openB key s = ([], 0, 6) := by unfold openB; rw [if_neg h1, if_pos h2]
    rw [decide_eq_true (show ((1024 + 24 : Nat) : Int) < (s.length : Int) by omega), cd_true]
    rw [e] at k
    exact k _ _ (osl_nil h.drop 5 1)
  rw [decide_eq_false (show ¬ ((1024 + 24 : Nat) : Int) < (s.length : Int) by omega), cd_false, o_len, o_sub, i64_of (by omega) (by omega), show (s.length : Int) - 16 = ((s.length - 16 : Nat) : Int) by omega]
  obtain ⟨b, o, c', e', hc', hv⟩ := hu.opened h.drop (by rw [List.length_map]; omega)
  cases e'
  refine dr_sl h fun w h _ => ?_
  rw [o_slice_h (by omega) (by omega), o_slice_l (by omega) (by omega)]
  simp only [Int.toNat_natCast, cutA0]
  have ecut : cutA (some ⟨b, o, none⟩) c (s.length - 16) 1 = some ⟨b, o + (s.length - 16), none⟩ := by
    unfold cutA
    rw [if_neg (by omega)]
    show some ((⟨b, o, none⟩ : Addr).add ((s.length - 16) * 1)) = _
    rw [add_addr, Nat.mul_one]
  rw [ecut]
  simp only [o_bind, stay_v]
  refine ld_agg (b := kb) h z32 ?_
  have hbody : Rds H (.slice (some ⟨b, o, none⟩) (s.length - 16) c) (s.take (s.length - 16)).length ((s.take (s.length - 16)).map bv) := fun E w hs' => by
    have h4 := RdS.cut (hv E w hs') (lo := 0) (hi := s.length - 16) (by simp) (by omega) (by omega)
    rw [cutA0] at h4
    rw [List.length_take, Nat.min_eq_left (by omega), List.map_take]
    simpa using h4
  have htl := tagB_length key (s.take (s.length - 16))
  have hdl : (s.drop (s.length - 16)).length = 16 := by rw [List.length_drop]; omega
  refine par_sl (φO key s b o) h ?_
  have hH : ∀ {w : World} {σ : List (Option Value)}, sat E w (slots (φO key s b o) σ (pts kb (.cells (key.map bv).toArray 28 (0, 0)) * H)) → sat E w (pts kb (.cells (key.map bv).toArray 28 (0, 0)) * H) := fun h => slots.old h
  clear h
  refine ⟨?_, ?_, ?_, ?_⟩
  · intro σ w h hu'
    refine tagOf_spec h hk (Rds.slots hbody.right) (by rw [List.length_take]; omega) fun w h => ?_
    exact slots.put h rfl
  · intro σ w h hu'
    refine arr_at (by omega) ?_
    refine st_agg (b := kb) (hH h) z32 ?_
    exact slots.put h rfl
  · intro σ w h hu' t16 h16
    obtain rfl : t16 = .pointer (some ⟨b, o + (s.length - 16), none⟩) := slots.get h h16
    refine ld_el h (Rds.slots hv.right) (s.length - 16) rfl ((s.drop (s.length - 16)).map bv) (by rw [List.length_map]; exact hdl) (by rw [← List.map_drop, List.take_of_length_le (by rw [List.length_map]; omega)]) ?_
    exact slots.put h rfl
  · intro σ w h t18 h18 t19 h19 t20 h20
    obtain rfl : t18 = .agg ((tagB key (s.take (s.length - 16))).map bv).toArray := slots.get h h18
    obtain rfl : t20 = .agg ((s.drop (s.length - 16)).map bv).toArray := slots.get h h20
    have h := hH h
    rw [o_neArr (n := 16) (by kernel_rfl) htl hdl]
    by_cases h3 : tagB key (s.take (s.length - 16)) = s.drop (s.length - 16)
    case neg =>
      have e : openB key s = ([], 0, 10) := by unfold openB; rw [if_neg h1, if_neg h2, if_pos h3]
      rw [show (tagB key (s.take (s.length - 16)) == s.drop (s.length - 16)) = false by simpa using h3, Bool.not_false, cd_true]
      rw [e] at k
      exact k _ _ (osl_nil h.drop 5 1)
    have e : openB key s = (hideB key (onceB (s.take 8)) ((s.take (s.length - 16)).drop 8), onceB (s.take 8), 0) := by unfold openB; rw [if_neg h1, if_neg h2, if_neg (by simpa using h3)]
    rw [show (tagB key (s.take (s.length - 16)) == s.drop (s.length - 16)) = true by simpa using h3, Bool.not_true, cd_false, o_slice_h (by omega) (by omega), o_len]
    simp only [cutA0, show (8 : Int).toNat = 8 from rfl]
    refine lp_nat (fun r σ w => ∃ i : Nat, σ = [.int .u64 (onceB (s.take i) : Int), .int .i64 i] ∧ r = 8 - i ∧ i ≤ 8 ∧ sat E w (pts kb (.cells (key.map bv).toArray 28 (0, 0)) * H)) 8 ⟨0, rfl, rfl, by omega, h⟩ ?_
    clear h
    rintro r σ w again ⟨i, rfl, rfl, hi, h⟩ hag
    rw [pop_cons, pop_cons, fin_nil, o_lss]
    have hon := onceB_lt (s.take i)
    refine cd_dec (fun hlt => ?_) (fun hge => ?_)
    · have hlt : i < 8 := by omega
      rw [o_index (by omega) (by omega)]
      simp only [Int.toNat_natCast, Nat.mul_one]
      have hx : (s.map bv)[i]? = some (bv (s[i]'(by omega))) := by rw [List.getElem?_map, List.getElem?_eq_getElem (by omega)]; rfl
      refine ld_rd h hv.right i rfl hx ?_
      have hx8 := (s[i]'(by omega)).toNat_lt
      have hshl : ∀ {a : Int} {w : World} {K : Value → World → Prop}, pvv prog (binOp .shl 79 (.int .u64 a) (.int .u64 8)) w K = K (.int .u64 (IntKind.u64.wrap (a * 2 ^ 8))) w := fun {a w K} => o_shl (k := .u64) (k' := .u64) (n := 8) (by decide)
      rw [hshl, show bv (s[i]'(by omega)) = .int .u8 ((s[i]'(by omega)).toNat : Int) from rfl, o_convInt, w64_of (by omega)]
      have ew : IntKind.u64.wrap ((onceB (s.take i) : Int) * 2 ^ 8) = ((onceB (s.take i) * 256 % 18446744073709551616 : Nat) : Int) := by rw [IntKind.wrap_u64]; omega
      rw [ew, o_or64 (by omega) (by omega) (by omega), o_add, i64_of (by omega) (by omega)]
      have en : onceB (s.take (i + 1)) = onceB (s.take i) * 256 % 18446744073709551616 + (s[i]'(by omega)).toNat := by
        rw [List.take_succ_eq_append_getElem (by omega), onceB_snoc]; omega
      refine hag (8 - (i + 1)) _ _ (by omega) ⟨i + 1, ?_, rfl, by omega, h⟩
      rw [en]
      rfl
    · have : i = 8 := by omega
      subst this
      clear hag
      refine dr_sl h fun w h _ => ?_
      rw [o_slice_lh (by decide) (by omega) (by omega)]
      simp only [Int.toNat_natCast, show (8 : Int).toNat = 8 from rfl]
      refine ld_agg (b := kb) h z32 ?_
      have ecut8 : cutA (some ⟨b, o, none⟩) c 8 1 = some ⟨b, o + 8, none⟩ := by
        unfold cutA
        rw [if_neg (by omega)]
        show some ((⟨b, o, none⟩ : Addr).add (8 * 1)) = _
        rw [add_addr, Nat.mul_one]
      rw [ecut8]
      have hmid : Rds H (.slice (some ⟨b, o + 8, none⟩) (s.length - 16 - 8) (c - 8)) ((s.take (s.length - 16)).drop 8).length (((s.take (s.length - 16)).drop 8).map bv) := fun E w hs' => by
        have h4 := RdS.cut (hv E w hs') (lo := 8) (hi := s.length - 16) (by simp) (by omega) (by omega)
        rw [ecut8] at h4
        rw [List.length_drop, List.length_take, Nat.min_eq_left (by omega)]
        rw [show (s.length - 16) = 8 + (s.length - 16 - 8) by omega] at h4 ⊢
        rw [Nat.add_sub_cancel_left] at h4 ⊢
        rw [← List.take_drop, List.map_take, List.map_drop]
        exact h4
      refine hidden_spec h hk (onceB_lt _) hmid.right (by rw [List.length_drop, List.length_take]; omega) fun v w h => ?_
      rw [e] at k
      have hhl := hideB_length key (onceB (s.take 8)) ((s.take (s.length - 16)).drop 8)
      refine k v w ?_
      rw [hhl]
      exact (h.perm (star_left_comm _ _ _)).drop
end Go.Proofs.YtmnaalpjhkkglaaGreatDoor

/-
  A builder; hashes in digits; what must be whatever is asked.
-/
set_option linter.all false
set_option maxRecDepth 10000
namespace Go.Proofs.YtmnaalpjhkkglaaGreatDoor
open Go Hold
variable {E : World0} {w : World} {H R : HP} {K : Value → World → Prop}
def hdigs : List UInt8 := [48, 49, 50, 51, 52, 53, 54, 55, 56, 57, 97, 98, 99, 100, 101, 102]
def hdig (n : Nat) : UInt8 := hdigs.getD n 0
def hex2 (x : UInt8) : List UInt8 := [hdig (x.toNat / 16), hdig (x.toNat % 16)]
def hex (l : List UInt8) : List UInt8 := l.flatMap hex2
theorem hex_length : ∀ l : List UInt8, (hex l).length = 2 * l.length
  | [] => rfl
  | x :: l => by
    have := hex_length l
    simp only [hex, List.flatMap_cons, List.length_append] at this ⊢
    simp only [hex2, List.length_cons, List.length_nil]
    omega
theorem hex_take {l : List UInt8} {i : Nat} (h : i < l.length) : hex (l.take (i + 1)) = hex (l.take i) ++ hex2 (l.getD i 0) := by
  rw [take_get h]; simp [hex]
theorem o_shr4 {P : Program} {t : TypeId} {x : UInt8} {k : IntKind} {K : Value → World → Prop} : pvv P (binOp .shr t (bv x) (.int k 4)) w K = K (.int .u8 ((x.toNat / 16 : Nat) : Int)) w := by
  have := o_shr (P := P) (w := w) (K := K) (t := t) (k := .u8) (k' := k) (a := x.toNat) (n := 4) (by decide)
  exact this
theorem o_and15 {P : Program} {t : TypeId} {x : UInt8} {K : Value → World → Prop} : pvv P (binOp .and t (bv x) (.int .u8 15)) w K = K (.int .u8 ((x.toNat % 16 : Nat) : Int)) w := by
  rw [show Value.int .u8 15 = bv 15 from rfl, o_andB]
  unfold bv
  congr 3
  rw [UInt8.toNat_and]
  exact Nat.and_two_pow_sub_one_eq_mod x.toNat 4
theorem o_dig {n : Nat} (hn : n < 16) {K : Value → World → Prop} : pvv prog (Instr.index 9 (.string ⟨#[48, 49, 50, 51, 52, 53, 54, 55, 56, 57, 97, 98, 99, 100, 101, 102]⟩) (.int .u8 (n : Int))) w K = K (bv (hdig n)) w := by
  have := o_indexT (P := prog) (w := w) (K := K) (t := 9) (l := hdigs) (k := .u8) (x := (n : Int)) (by omega) (by show n < 16; exact hn)
  exact this
theorem live1 : hex (sha []) = [101, 51, 98, 48, 99, 52, 52, 50, 57, 56, 102, 99, 49, 99, 49, 52, 57, 97, 102, 98, 102, 52, 99, 56, 57, 57, 54, 102, 98, 57, 50, 52, 50, 55, 97, 101, 52, 49, 101, 52, 54, 52, 57, 98, 57, 51, 52, 99, 97, 52, 57, 53, 57, 57, 49, 98, 55, 56, 53, 50, 98, 56, 53, 53] := by decide +kernel
theorem live2 : hex (sha [97, 98, 99]) = [98, 97, 55, 56, 49, 54, 98, 102, 56, 102, 48, 49, 99, 102, 101, 97, 52, 49, 52, 49, 52, 48, 100, 101, 53, 100, 97, 101, 50, 50, 50, 51, 98, 48, 48, 51, 54, 49, 97, 51, 57, 54, 49, 55, 55, 97, 57, 99, 98, 52, 49, 48, 102, 102, 54, 49, 102, 50, 48, 48, 49, 53, 97, 100] := by decide +kernel
end Go.Proofs.YtmnaalpjhkkglaaGreatDoor

/-
  Noughts replaced; keys.
-/
set_option linter.all false
set_option maxRecDepth 10000
namespace Go.Proofs.YtmnaalpjhkkglaaGreatDoor
open Go Hold
variable {E : World0} {w : World} {H R : HP} {K : Value → World → Prop}
def esc1 (c : UInt8) : List UInt8 := if c = 0 then [0, 255] else [c]
def esc (s : List UInt8) : List UInt8 := s.flatMap esc1
theorem esc_append (a b : List UInt8) : esc (a ++ b) = esc a ++ esc b := by simp [esc]
theorem esc_none : ∀ {s : List UInt8}, s.count 0 = 0 → esc s = s
  | [], _ => rfl
  | c :: s, h => by
    have hc : c ≠ 0 := by rintro rfl; simp at h
    have hs : s.count 0 = 0 := by rw [List.count_cons_of_ne hc] at h; exact h
    have := esc_none hs
    simp only [esc, List.flatMap_cons, esc1, if_neg hc] at this ⊢
    rw [this]; rfl
theorem esc_length (s : List UInt8) : (esc s).length ≤ 2 * s.length := by
  induction s with
  | nil => simp [esc]
  | cons c s ih =>
    simp only [esc, List.flatMap_cons, List.length_append, List.length_cons] at ih ⊢
    have : (esc1 c).length ≤ 2 := by unfold esc1; split <;> simp
    omega
theorem first_nought : ∀ {s : List UInt8}, 0 < s.count 0 → ∃ p, Lib.indexByte s 0 = (p : Nat) ∧ p < s.length ∧ (s.take p).count 0 = 0 ∧ s.drop p = 0 :: s.drop (p + 1)
  | [], h => by simp at h
  | c :: s, h => by
    by_cases hc : c = 0
    · subst hc
      exact ⟨0, by simp [Lib.indexByte], by simp, by simp, by simp⟩
    · rw [List.count_cons_of_ne hc] at h
      obtain ⟨p, h1, h2, h3, h4⟩ := first_nought h
      refine ⟨p + 1, ?_, by simpa using h2, ?_, by simpa using h4⟩
      · have hn : ¬ ((p : Int) = -1) := by omega
        simp [Lib.indexByte, hc, h1, hn]
      · rw [List.take_succ_cons, List.count_cons_of_ne hc]; exact h3
theorem Replace_spec (h : sat E w H) {s : List UInt8} (hs : s.length ≤ 100000) (k : ∀ w', sat E w' H → K (tv (esc s)) w') : Calls prog 100 #[tv s, tv [0], tv [0, 255]] w (Ret K) := by
  refine c100 ?_
  unfold B100
  refine c125 ?_
  unfold B125
  simp only [↓o_eqT, show decide (([0] : List UInt8) = [0, 255]) = false from rfl, show decide ((-1 : Int) = 0) = false from rfl, ↓o_nil, ↓o_field, ↓o_add, ↓o_sub, ↓o_mul, ↓o_lss, ↓o_leq, ↓o_gtr, ↓o_geq, ↓o_not, ↓o_pick, ↓o_eqInt, ↓o_neInt, ↓o_eqBool, ↓o_neBool, ↓o_eqPtr, ↓o_nePtr, ↓o_eqPtr', ↓o_eqSl, ↓o_neSl, ↓o_eqStr, ↓o_neStr, ↓o_len, ↓o_lenS, ↓o_min, ↓o_max, ↓o_extract, ↓o_convInt, ↓cd_true, ↓cd_false, ↓gate_tt, ↓gate_ff, ↓gate_tf, ↓gate_ft, ↓gate_undef, ↓o_bind, ↓stay_v, ↓pop_cons, ↓fin_nil, Option.isNone_none, Option.isNone_some, Bool.not_true, Bool.not_false, Nat.zero_add, decide_true, decide_false, if_true, if_false, Bool.false_eq_true, ↓reduceIte]
  have hcl : s.count 0 ≤ s.length := List.count_le_length
  refine jn_cut (fun σ w => σ = [.int .i64 ((s.count 0 : Nat) : Int)] ∧ 0 < s.count 0 ∧ sat E w H) (fun kk hkk => ?_) ?_
  · refine BCount_spec ?_
    rw [o_eqInt]
    refine cd_dec (fun heq => ?_) (fun hne => ?_)
    · have e : esc s = s := esc_none (by omega)
      rw [e] at k
      exact k _ h
    · simp only [show decide ((-1 : Int) < 0) = true from rfl, ↓o_nil, ↓o_field, ↓o_add, ↓o_sub, ↓o_mul, ↓o_lss, ↓o_leq, ↓o_gtr, ↓o_geq, ↓o_not, ↓o_pick, ↓o_eqInt, ↓o_neInt, ↓o_eqBool, ↓o_neBool, ↓o_eqPtr, ↓o_nePtr, ↓o_eqPtr', ↓o_eqSl, ↓o_neSl, ↓o_eqStr, ↓o_neStr, ↓o_len, ↓o_lenS, ↓o_min, ↓o_max, ↓o_extract, ↓o_convInt, ↓cd_true, ↓cd_false, ↓gate_tt, ↓gate_ff, ↓gate_tf, ↓gate_ft, ↓gate_undef, ↓o_bind, ↓stay_v, ↓pop_cons, ↓fin_nil, Option.isNone_none, Option.isNone_some, Bool.not_true, Bool.not_false, Nat.zero_add, decide_true, decide_false, if_true, if_false, Bool.false_eq_true, ↓reduceIte]
      exact hkk _ _ ⟨rfl, by omega, h⟩
  clear h
  rintro σ w ⟨rfl, hpos, h⟩
  rw [pop_cons, fin_nil]
  refine alloc_sl h fun b w h => ?_
  have h : sat E w (pts b (.cells [.pointer none, .slice none 0 0].toArray 227 (0, 0)) * H) := h
  have e1 : IntKind.i64.wrap (((2 : Nat) : Int) - ((1 : Nat) : Int)) = 1 := rfl
  have e2 : IntKind.i64.wrap (((s.count 0 : Nat) : Int) * 1) = ((s.count 0 : Nat) : Int) := by rw [i64_of (by omega) (by omega)]; omega
  have e3 : IntKind.i64.wrap ((s.length : Int) + ((s.count 0 : Nat) : Int)) = ((s.length + s.count 0 : Nat) : Int) := by rw [i64_of (by omega) (by omega)]; omega
  rw [o_lenT, o_lenT, o_lenT, show ([0] : List UInt8).length = 1 from rfl, show ([0, 255] : List UInt8).length = 2 from rfl, o_sub, e1, o_mul, e2, o_add, e3]
  refine Grow_spec h (by omega) fun w h => ?_
  refine jn_cut (fun σ w => ∃ i : Nat, σ = [.int .i64 (i : Int)] ∧ i ≤ s.length ∧ (s.drop i).count 0 = 0 ∧ sat E w (bld b (esc (s.take i)) * H)) (fun kk hkk => ?_) ?_
  · rw [o_lenT, o_gtr, show ([0] : List UInt8).length = 1 from rfl, show decide ((0 : Int) < ((1 : Nat) : Int)) = true from rfl, cd_true]
    refine lp_nat (fun q σ w => ∃ i j : Nat, σ = [.int .i64 (i : Int), .int .i64 (j : Int)] ∧ q = s.count 0 - j ∧ j ≤ s.count 0 ∧ i ≤ s.length ∧ (s.drop i).count 0 = s.count 0 - j ∧ sat E w (bld b (esc (s.take i)) * H)) (s.count 0)
      ⟨0, 0, rfl, rfl, by omega, by omega, by simp, by simpa [esc] using h⟩ ?_
    clear h
    rintro q σ w again ⟨i, j, rfl, rfl, hj, hi, hc, h⟩ hag
    rw [pop_cons, pop_cons, fin_nil, o_lss]
    refine cd_dec (fun hlt => ?_) (fun hge => ?_)
    · obtain ⟨p, p1, p2, p3, p4⟩ := first_nought (s := s.drop i) (by omega)
      rw [List.length_drop] at p2
      rw [o_sliceT_l (by omega) (by omega), Int.toNat_natCast]
      refine Index_spec ?_
      have f1 : IntKind.i64.wrap ((i : Int) + ((p : Nat) : Int)) = ((i + p : Nat) : Int) := by rw [i64_of (by omega) (by omega)]; omega
      rw [p1, o_add, f1, o_sliceT (by omega) (by omega) (by omega), Int.toNat_natCast, Int.toNat_natCast, show i + p - i = p by omega]
      have hel := esc_length (s.take i)
      have htl : (s.take i).length ≤ s.length := by simp; omega
      refine WriteString_spec h (by simp only [List.length_take, List.length_drop]; omega) fun w h => ?_
      refine WriteString_spec (s := [0, 255]) h (by simp only [List.length_append, List.length_take, List.length_drop, List.length_cons, List.length_nil]; omega) fun w h => ?_
      rw [o_lenT, show ([0] : List UInt8).length = 1 from rfl, o_add, o_add, i64_of (by omega) (by omega), i64_of (by omega) (by omega)]
      refine hag (s.count 0 - (j + 1)) _ _ (by omega) ⟨i + p + 1, j + 1, ?_, rfl, by omega, by omega, ?_, ?_⟩
      · rfl
      · have e : (s.drop i) = (s.drop i).take p ++ (s.drop i).drop p := (List.take_append_drop p _).symm
        rw [e, List.count_append, p3, p4, List.count_cons_self] at hc
        rw [show i + p + 1 = i + (p + 1) by omega, ← List.drop_drop]
        omega
      · have e : esc (s.take (i + p + 1)) = esc (s.take i) ++ (s.drop i).take p ++ [0, 255] := by
          have e1 : s.take (i + p + 1) = s.take i ++ ((s.drop i).take p ++ [0]) := by
            rw [show i + p + 1 = i + (p + 1) by omega, List.take_add]
            congr 1
            rw [List.take_add]
            congr 1
            rw [p4]; rfl
          rw [e1, esc_append, esc_append, esc_none p3, List.append_assoc]; rfl
        rw [e]; exact h
    · exact hkk _ _ ⟨i, rfl, hi, by omega, h⟩
  · clear h
    rintro σ w ⟨i, rfl, hi, hc, h⟩
    have hel := esc_length (s.take i)
    have htl : (s.take i).length ≤ s.length := by simp; omega
    rw [pop_cons, fin_nil, o_sliceT_l (by omega) (by omega), Int.toNat_natCast]
    refine WriteString_spec h (by simp only [List.length_drop]; omega) fun w h => ?_
    have e : esc (s.take i) ++ s.drop i = esc s := by
      have e0 : s = s.take i ++ s.drop i := (List.take_append_drop i s).symm
      rw [e0, esc_append, ← e0, esc_none hc]
    rw [e] at h
    have hne : esc s ≠ [] := by
      intro h0
      obtain ⟨p, _, p2, _, _⟩ := first_nought hpos
      cases hs0 : s with
      | nil => rw [hs0] at p2; simp at p2
      | cons c t =>
        rw [hs0] at h0
        simp only [esc, List.flatMap_cons] at h0
        have : esc1 c = [] := List.append_eq_nil_iff.1 h0 |>.1
        unfold esc1 at this; split at this <;> cases this
    have hel2 := esc_length s
    exact String_spec h hne (by omega) fun w h => k _ h
end Go.Proofs.YtmnaalpjhkkglaaGreatDoor
