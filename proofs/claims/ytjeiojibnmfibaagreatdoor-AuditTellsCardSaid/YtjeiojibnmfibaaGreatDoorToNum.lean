/-
  strings.HasPrefix.
-/
import Derived.Test.YtjeiojibnmfibaaGreatDoorPB
import Derived.Test.YtjeiojibnmfibaaGreatDoorStructs
set_option linter.all false
set_option maxRecDepth 100000
namespace Go.Proofs.YtjeiojibnmfibaaGreatDoor
open Go Hold
variable {E : World0} {w : World} {H R : HP} {K : Value → World → Prop}
theorem HasPrefix_spec {l p : List UInt8} (k : K (.bool (decide (p <+: l))) w) : Calls prog 50 #[tv l, tv p] w (Ret K) := by
  refine c50 ?_
  unfold B50
  refine c58 ?_
  unfold B58
  rw [o_lenT, o_lenT, o_geq]
  by_cases h : p.length ≤ l.length
  · have t1 : decide ((p.length : Int) ≤ (l.length : Int)) = true := decide_eq_true (by omega)
    simp only [t1, ↓o_lenT, ↓o_nil, ↓o_field, ↓o_add, ↓o_sub, ↓o_mul, ↓o_lss, ↓o_leq, ↓o_gtr, ↓o_geq, ↓o_not, ↓o_pick, ↓o_eqInt, ↓o_neInt, ↓o_eqBool, ↓o_neBool, ↓o_eqPtr, ↓o_nePtr, ↓o_eqPtr', ↓o_eqSl, ↓o_neSl, ↓o_eqStr, ↓o_neStr, ↓o_len, ↓o_lenS, ↓o_min, ↓o_max, ↓o_extract, ↓o_convInt, ↓cd_true, ↓cd_false, ↓gate_tt, ↓gate_ff, ↓gate_tf, ↓gate_ft, ↓gate_undef, ↓o_bind, ↓stay_v, ↓pop_cons, ↓fin_nil, Option.isNone_none, Option.isNone_some, Bool.not_true, Bool.not_false, Nat.zero_add, decide_true, decide_false, if_true, if_false, Bool.false_eq_true, ↓reduceIte]
    rw [o_sliceT_h (by omega) (by omega), Int.toNat_natCast, o_eqT]
    have e : decide (l.take p.length = p) = decide (p <+: l) := by
      rw [decide_eq_decide, List.prefix_iff_eq_take]
      exact eq_comm
    rw [e]
    try simp only [↓o_nil, ↓o_field, ↓o_add, ↓o_sub, ↓o_mul, ↓o_lss, ↓o_leq, ↓o_gtr, ↓o_geq, ↓o_not, ↓o_pick, ↓o_eqInt, ↓o_neInt, ↓o_eqBool, ↓o_neBool, ↓o_eqPtr, ↓o_nePtr, ↓o_eqPtr', ↓o_eqSl, ↓o_neSl, ↓o_eqStr, ↓o_neStr, ↓o_len, ↓o_lenS, ↓o_min, ↓o_max, ↓o_extract, ↓o_convInt, ↓cd_true, ↓cd_false, ↓gate_tt, ↓gate_ff, ↓gate_tf, ↓gate_ft, ↓gate_undef, ↓o_bind, ↓stay_v, ↓pop_cons, ↓fin_nil, Option.isNone_none, Option.isNone_some, Bool.not_true, Bool.not_false, Nat.zero_add, decide_true, decide_false, if_true, if_false, Bool.false_eq_true, ↓reduceIte]
    exact k
  · have t1 : decide ((p.length : Int) ≤ (l.length : Int)) = false := decide_eq_false (by omega)
    have e : decide (p <+: l) = false := decide_eq_false (fun hp => h hp.length_le)
    rw [e] at k
    simp only [t1, ↓o_nil, ↓o_field, ↓o_add, ↓o_sub, ↓o_mul, ↓o_lss, ↓o_leq, ↓o_gtr, ↓o_geq, ↓o_not, ↓o_pick, ↓o_eqInt, ↓o_neInt, ↓o_eqBool, ↓o_neBool, ↓o_eqPtr, ↓o_nePtr, ↓o_eqPtr', ↓o_eqSl, ↓o_neSl, ↓o_eqStr, ↓o_neStr, ↓o_len, ↓o_lenS, ↓o_min, ↓o_max, ↓o_extract, ↓o_convInt, ↓cd_true, ↓cd_false, ↓gate_tt, ↓gate_ff, ↓gate_tf, ↓gate_ft, ↓gate_undef, ↓o_bind, ↓stay_v, ↓pop_cons, ↓fin_nil, Option.isNone_none, Option.isNone_some, Bool.not_true, Bool.not_false, Nat.zero_add, decide_true, decide_false, if_true, if_false, Bool.false_eq_true, ↓reduceIte]
    exact k
end Go.Proofs.YtjeiojibnmfibaaGreatDoor

/-
  strings.Trim by a set of ASCII signs.
-/
set_option linter.all false
set_option maxRecDepth 100000
namespace Go.Proofs.YtjeiojibnmfibaaGreatDoor
open Go Hold
variable {E : World0} {w : World} {H R : HP} {K : Value → World → Prop}
/-- The set, as it lies: a place for each byte. -/
def setC (f : Nat → Bool) : List Value := (List.range 256).map fun i => .bool (f i)
theorem setC_length (f : Nat → Bool) : (setC f).length = 256 := by simp [setC]
theorem setC_at (f : Nat → Bool) {i : Nat} (hi : i < 256) : (setC f)[i]? = some (.bool (f i)) := by
  unfold setC
  rw [List.getElem?_map, List.getElem?_range hi]
  rfl
theorem setC_set (f : Nat → Bool) {i : Nat} (hi : i < 256) : (setC f).set i (.bool true) = setC fun j => f j || decide (j = i) := by
  refine List.ext_getElem? fun j => ?_
  rw [List.getElem?_set]
  by_cases hij : i = j
  · subst hij
    rw [if_pos rfl, if_pos (by rw [setC_length]; exact hi), setC_at _ hi]
    simp
  · rw [if_neg hij]
    by_cases hj : j < 256
    · rw [setC_at _ hj, setC_at _ hj]
      have : decide (j = i) = false := decide_eq_false (fun h => hij h.symm)
      simp [this]
    · rw [List.getElem?_eq_none (by rw [setC_length]; omega), List.getElem?_eq_none (by rw [setC_length]; omega)]
def inSet (cs : List UInt8) (i : Nat) : Bool := cs.any fun c => decide (i = c.toNat)
theorem inSet_mem {cs : List UInt8} {b : UInt8} : inSet cs b.toNat = decide (b ∈ cs) := by
  rw [Bool.eq_iff_iff]
  simp only [inSet, List.any_eq_true, decide_eq_true_eq]
  constructor
  · rintro ⟨c, hc, h⟩
    rwa [UInt8.toNat_inj.1 h]
  · exact fun h => ⟨b, h, rfl⟩
theorem contains_spec {b : Nat} {cs : List UInt8} {c : UInt8} (h : sat E w H) [Has H b (.cells (setC (inSet cs)).toArray 107 (0, 0))] (k : K (.bool (decide (c ∈ cs))) w) : Calls prog 73 #[.pointer (some ⟨b, 0, none⟩), bv c] w (Ret K) := by
  have hc := c.toNat_lt
  refine c73 ?_
  unfold B73
  rw [o_nil, show bv c = .int .u8 (c.toNat : Int) from rfl, o_indexA (by omega) (by omega)]
  refine ld_in (b := b) (v := .bool (decide (c ∈ cs))) h ?_ k
  rw [← inSet_mem]
  simp only [Nat.zero_add, Int.toNat_natCast]
  exact setC_at _ (by omega)
theorem makeSet_spec {cs : List UInt8} (hc : ∀ c ∈ cs, c.toNat < 128) (hl : cs.length ≤ 1000) (h : sat E w H) (k : ∀ w', sat E w' H → K (.tuple #[.agg (setC (inSet cs)).toArray, .bool true]) w') : Calls prog 61 #[tv cs] w (Ret K) := by
  refine c61 ?_
  unfold B61
  refine alloc_sl h fun b w h => ?_
  have h : sat E w (pts b (.cells (setC (inSet [])).toArray 107 (0, 0)) * H) := h
  refine lp_nat (fun q σ w => ∃ i : Nat, σ = [.int .i64 (i : Int)] ∧ q = cs.length - i ∧ i ≤ cs.length ∧ sat E w (pts b (.cells (setC (inSet (cs.take i))).toArray 107 (0, 0)) * H)) cs.length ⟨0, rfl, by omega, by omega, by simpa using h⟩ ?_
  clear h
  rintro q σ w again ⟨i, rfl, rfl, hi, h⟩ hag
  rw [pop_cons, fin_nil, o_lenT, o_lss]
  refine cd_dec (fun hlt => ?_) (fun hge => ?_)
  · have hi1 : i < cs.length := by omega
    have hm : cs.getD i 0 ∈ cs := by rw [List.getD_eq_getElem?_getD, List.getElem?_eq_getElem hi1]; exact List.getElem_mem hi1
    have hlt := hc _ hm
    have hb := (cs.getD i 0).toNat_lt
    rw [o_indexT (by omega) (by rw [Int.toNat_natCast]; exact hi1), Int.toNat_natCast, show bv (cs.getD i 0) = .int .u8 ((cs.getD i 0).toNat : Int) from rfl, o_geq, show decide ((128 : Int) ≤ ((cs.getD i 0).toNat : Int)) = false from decide_eq_false (by omega), cd_false]
    rw [o_indexA (by omega) (by omega)]
    simp only [Nat.zero_add, Int.toNat_natCast]
    refine store_sl (b := b) h rfl (by rw [setC_length]; omega) fun w h => ?_
    rw [o_add, i64_of (by omega) (by omega)]
    refine hag (cs.length - (i + 1)) _ _ (by omega) ⟨i + 1, rfl, rfl, by omega, ?_⟩
    rw [setC_set _ (by omega)] at h
    have e : (fun j => inSet (cs.take i) j || decide (j = (cs.getD i 0).toNat)) = inSet (cs.take (i + 1)) := by
      funext j
      have : cs.getD i 0 = cs[i] := by rw [List.getD_eq_getElem?_getD, List.getElem?_eq_getElem hi1]; rfl
      unfold inSet
      rw [List.take_succ_eq_append_getElem hi1, List.any_append, this]
      simp only [List.any_cons, List.any_nil, Bool.or_false]
    rw [e] at h
    exact h
  · have hi2 : i = cs.length := by omega
    subst hi2
    rw [List.take_length] at h
    have ho : ∀ x ∈ setC (inSet cs), x.oneCell' = true := by
      intro x hx
      simp only [setC, List.mem_map] at hx
      obtain ⟨_, _, rfl⟩ := hx
      rfl
    refine ld_agg (b := b) h (setC_length _) ?_
    refine store_all (b := b) h (xs := setC (inSet cs)) (vs := setC (inSet cs)) (setC_length _) (setC_length _) ho fun w h => ?_
    exact res_agg h (b := b) (setC_length _) (k _ h.drop)
def trimR (cs : List UInt8) (l : List UInt8) : List UInt8 := (l.reverse.dropWhile (· ∈ cs)).reverse
def trimL (cs : List UInt8) (l : List UInt8) : List UInt8 := l.dropWhile (· ∈ cs)
theorem trimR_snoc (cs l : List UInt8) (c : UInt8) : trimR cs (l ++ [c]) = if c ∈ cs then trimR cs l else l ++ [c] := by
  unfold trimR
  rw [List.reverse_append, List.reverse_singleton, List.singleton_append, List.dropWhile_cons]
  by_cases h : c ∈ cs
  · simp [h]
  · simp [h]
theorem trimLeft_spec {b : Nat} {cs : List UInt8} (l : List UInt8) (hl : l.length ≤ 9223372036854775807) (h : sat E w H) [Has H b (.cells (setC (inSet cs)).toArray 107 (0, 0))] (k : ∀ w', sat E w' H → K (tv (trimL cs l)) w') : Calls prog 62 #[tv l, .pointer (some ⟨b, 0, none⟩)] w (Ret K) := by
  refine c62 ?_
  unfold B62
  refine jn_cut (fun σ w => σ = [tv (trimL cs l)] ∧ sat E w H) (fun kj hkj => ?_) ?_
  · refine lp_nat (fun q σ w => ∃ m : List UInt8, σ = [tv m] ∧ q = m.length ∧ m.length ≤ l.length ∧ trimL cs m = trimL cs l ∧ sat E w H) l.length ⟨l, rfl, rfl, Nat.le_refl _, rfl, h⟩ ?_
    clear h
    rintro q σ w again ⟨m, rfl, rfl, hm, he, h⟩ hag
    rw [pop_cons, fin_nil, o_lenT, o_gtr]
    cases m with
    | nil =>
      rw [show decide ((0 : Int) < (([] : List UInt8).length : Int)) = false from rfl, cd_false]
      exact hkj _ _ ⟨by rw [← he]; rfl, h⟩
    | cons c m =>
      have hm' : m.length + 1 ≤ l.length := by simpa using hm
      rw [show decide ((0 : Int) < ((c :: m).length : Int)) = true from decide_eq_true (by rw [List.length_cons]; omega), cd_true]
      rw [o_indexT (by omega) (by simp)]
      refine contains_spec (b := b) (cs := cs) (c := c) h ?_
      rw [o_not]
      by_cases hc : c ∈ cs
      · rw [show (!decide (c ∈ cs)) = false by simp [hc], cd_false, o_sliceT_l (by omega) (by rw [List.length_cons]; omega)]
        refine hag m.length _ _ (by simp) ⟨m, rfl, rfl, by omega, ?_, h⟩
        rw [← he]
        simp [trimL, List.dropWhile_cons, hc]
      · rw [show (!decide (c ∈ cs)) = true by simp [hc], cd_true]
        refine hkj _ _ ⟨?_, h⟩
        rw [← he]
        simp [trimL, List.dropWhile_cons, hc]
  · rintro σ w ⟨rfl, h⟩
    rw [pop_cons, fin_nil]
    exact k _ h
theorem trimRight_spec {b : Nat} {cs : List UInt8} (l : List UInt8) (hl : l.length ≤ 9223372036854775807) (h : sat E w H) [Has H b (.cells (setC (inSet cs)).toArray 107 (0, 0))] (k : ∀ w', sat E w' H → K (tv (trimR cs l)) w') : Calls prog 63 #[tv l, .pointer (some ⟨b, 0, none⟩)] w (Ret K) := by
  refine c63 ?_
  unfold B63
  refine jn_cut (fun σ w => σ = [tv (trimR cs l)] ∧ sat E w H) (fun kj hkj => ?_) ?_
  · refine lp_nat (fun q σ w => ∃ m : List UInt8, σ = [tv m] ∧ q = m.length ∧ m.length ≤ l.length ∧ trimR cs m = trimR cs l ∧ sat E w H) l.length ⟨l, rfl, rfl, Nat.le_refl _, rfl, h⟩ ?_
    clear h
    rintro q σ w again ⟨m, rfl, rfl, hm, he, h⟩ hag
    rw [pop_cons, fin_nil, o_lenT, o_gtr]
    rcases List.eq_nil_or_concat m with rfl | ⟨m, c, rfl⟩
    · rw [show decide ((0 : Int) < (([] : List UInt8).length : Int)) = false from rfl, cd_false]
      exact hkj _ _ ⟨by rw [← he]; rfl, h⟩
    · rw [List.concat_eq_append] at hm he hag ⊢
      have hm' : m.length + 1 ≤ l.length := by simpa using hm
      have e1 : (((m ++ [c]).length : Nat) : Int) = (m.length : Int) + 1 := by simp
      rw [show decide ((0 : Int) < ((m ++ [c]).length : Int)) = true from decide_eq_true (by rw [e1]; omega), cd_true, o_lenT, o_sub, e1]
      have e2 : IntKind.i64.wrap ((m.length : Int) + 1 - 1) = ((m.length : Nat) : Int) := by rw [i64_of (by omega) (by omega)]; omega
      rw [e2, o_indexT (by omega) (by simp), Int.toNat_natCast, show (m ++ [c]).getD m.length 0 = c by simp [List.getD_eq_getElem?_getD]]
      refine contains_spec (b := b) (cs := cs) (c := c) h ?_
      rw [o_not]
      rw [trimR_snoc] at he
      by_cases hc : c ∈ cs
      · rw [show (!decide (c ∈ cs)) = false by simp [hc], cd_false, o_lenT, o_sub, e1, e2, o_sliceT_h (by omega) (by rw [e1]; omega)]
        rw [if_pos hc] at he
        refine hag m.length _ _ (by simp) ⟨m, by simp, rfl, by omega, he, h⟩
      · rw [show (!decide (c ∈ cs)) = true by simp [hc], cd_true]
        rw [if_neg hc] at he
        exact hkj _ _ ⟨by rw [← he], h⟩
  · rintro σ w ⟨rfl, h⟩
    rw [pop_cons, fin_nil]
    exact k _ h
/-- Trim, by a set of at least two signs. -/
theorem Trim_spec {cs : List UInt8} (l : List UInt8) (hc : ∀ c ∈ cs, c.toNat < 128) (hl2 : 2 ≤ cs.length) (hl : cs.length ≤ 1000) (hl' : l.length ≤ 9223372036854775807) (h : sat E w H) (k : ∀ w', sat E w' H → K (tv (trimL cs (trimR cs l))) w') :
    Calls prog 51 #[tv l, tv cs] w (Ret K) := by
  have e0 : (.string ⟨#[]⟩ : Value) = tv [] := rfl
  refine c51 ?_
  unfold B51
  rw [e0, o_eqT]
  have fin : ∀ w, sat E w H → trimL cs (trimR cs l) = trimL cs (trimR cs l) → Calls prog 61 #[tv cs] w (Ret fun t_16 w =>
      pvv prog (Instr.extract t_16 0) w fun t_17 w =>
      pvv prog (Instr.extract t_16 1) w fun t_18 w =>
      efv prog (Instr.alloc 107 true (.tuple #[])) w fun as_19 w =>
      efu prog (Instr.storeAt 107 as_19 t_17) w fun u_20 w =>
      cd t_18 (
        Calls prog 63 #[tv l, as_19] w (Ret fun t_21 w =>
        Calls prog 62 #[t_21, as_19] w (Ret fun t_22 w =>
        K t_22 w))) <|
      Calls prog 65 #[tv l, tv cs] w (Ret fun t_23 w =>
      Calls prog 64 #[t_23, tv cs] w (Ret fun t_24 w =>
      K t_24 w))) := by
    intro w h _
    refine makeSet_spec hc hl h fun w h => ?_
    rw [o_extract, o_extract]
    refine alloc_sl h fun b w h => ?_
    have h : sat E w (pts b (.cells (setC (inSet [])).toArray 107 (0, 0)) * H) := h
    have ho : ∀ x ∈ setC (inSet cs), x.oneCell' = true := by
      intro x hx
      simp only [setC, List.mem_map] at hx
      obtain ⟨_, _, rfl⟩ := hx
      rfl
    refine store_all (b := b) h (xs := setC (inSet [])) (vs := setC (inSet cs)) (setC_length _) (setC_length _) ho fun w h => ?_
    rw [cd_true]
    refine trimRight_spec (b := b) l hl' h fun w h => ?_
    refine trimLeft_spec (b := b) (trimR cs l) ?_ h fun w h => k _ h.drop
    have : (trimR cs l).length ≤ l.length := by
      unfold trimR
      rw [List.length_reverse]
      exact Nat.le_trans (List.dropWhile_sublist _).length_le (by simp)
    omega
  have hne : ¬ cs = [] := by rintro rfl; simp at hl2
  have h1 : ¬ ((cs.length : Int) = 1) := by omega
  by_cases hl0 : l = []
  · simp only [hl0, ↓o_nil, ↓o_field, ↓o_add, ↓o_sub, ↓o_mul, ↓o_lss, ↓o_leq, ↓o_gtr, ↓o_geq, ↓o_not, ↓o_pick, ↓o_eqInt, ↓o_neInt, ↓o_eqBool, ↓o_neBool, ↓o_eqPtr, ↓o_nePtr, ↓o_eqPtr', ↓o_eqSl, ↓o_neSl, ↓o_eqStr, ↓o_neStr, ↓o_len, ↓o_lenS, ↓o_min, ↓o_max, ↓o_extract, ↓o_convInt, ↓cd_true, ↓cd_false, ↓gate_tt, ↓gate_ff, ↓gate_tf, ↓gate_ft, ↓gate_undef, ↓o_bind, ↓stay_v, ↓pop_cons, ↓fin_nil, Option.isNone_none, Option.isNone_some, Bool.not_true, Bool.not_false, Nat.zero_add, decide_true, decide_false, if_true, if_false, Bool.false_eq_true, ↓reduceIte]
    have := k w h
    rw [hl0] at this
    exact this
  · simp only [hl0, hne, ↓o_eqT, ↓o_lenT, h1, ↓o_nil, ↓o_field, ↓o_add, ↓o_sub, ↓o_mul, ↓o_lss, ↓o_leq, ↓o_gtr, ↓o_geq, ↓o_not, ↓o_pick, ↓o_eqInt, ↓o_neInt, ↓o_eqBool, ↓o_neBool, ↓o_eqPtr, ↓o_nePtr, ↓o_eqPtr', ↓o_eqSl, ↓o_neSl, ↓o_eqStr, ↓o_neStr, ↓o_len, ↓o_lenS, ↓o_min, ↓o_max, ↓o_extract, ↓o_convInt, ↓cd_true, ↓cd_false, ↓gate_tt, ↓gate_ff, ↓gate_tf, ↓gate_ft, ↓gate_undef, ↓o_bind, ↓stay_v, ↓pop_cons, ↓fin_nil, Option.isNone_none, Option.isNone_some, Bool.not_true, Bool.not_false, Nat.zero_add, decide_true, decide_false, if_true, if_false, Bool.false_eq_true, ↓reduceIte]
    exact fin w h rfl
theorem dw (cs : List UInt8) : ∀ m : List UInt8, m.dropWhile (fun x => decide (x ∈ cs)) = [] ↔ ∀ c ∈ m, c ∈ cs
  | [] => by simp
  | c :: m => by
    have ih := dw cs m
    rw [List.dropWhile_cons]
    by_cases h : c ∈ cs
    · simp [h, ih]
    · simp [h]
theorem dw_head (cs : List UInt8) : ∀ m : List UInt8, m.dropWhile (fun x => decide (x ∈ cs)) ≠ [] → ∃ c ∈ m.dropWhile (fun x => decide (x ∈ cs)), c ∉ cs
  | [], h => absurd rfl h
  | c :: m, h => by
    rw [List.dropWhile_cons] at h ⊢
    by_cases hc : c ∈ cs
    · simp only [hc, decide_true, if_true] at h ⊢
      exact dw_head cs m h
    · simp only [hc, decide_false, Bool.false_eq_true, if_false]
      exact ⟨c, by simp, hc⟩
theorem trim_all {cs l : List UInt8} : trimL cs (trimR cs l) = [] ↔ ∀ c ∈ l, c ∈ cs := by
  unfold trimL
  rw [dw]
  constructor
  · intro h c hc
    by_cases hn : trimR cs l = []
    · unfold trimR at hn
      rw [List.reverse_eq_nil_iff, dw] at hn
      exact hn c (by simpa using hc)
    · exfalso
      have hne : l.reverse.dropWhile (fun x => decide (x ∈ cs)) ≠ [] := by
        intro h0
        exact hn (by unfold trimR; rw [h0]; rfl)
      obtain ⟨d, hd1, hd2⟩ := dw_head cs _ hne
      exact hd2 (h d (by unfold trimR; rw [List.mem_reverse]; exact hd1))
  · intro h c hc
    refine h c ?_
    unfold trimR at hc
    rw [List.mem_reverse] at hc
    have := (List.dropWhile_sublist _).subset hc
    simpa using this
end Go.Proofs.YtjeiojibnmfibaaGreatDoor

/-
  strconv.ParseUint on hexadecimal digits; codec.ToNumber.
-/
set_option linter.all false
set_option maxRecDepth 100000
namespace Go.Proofs.YtjeiojibnmfibaaGreatDoor
open Go Hold
variable {E : World0} {w : World} {H R : HP} {K : Value → World → Prop}
def hexSet : List UInt8 := [48, 49, 50, 51, 52, 53, 54, 55, 56, 57, 97, 98, 99, 100, 101, 102]
def hexv (c : UInt8) : Nat := if c.toNat ≤ 57 then c.toNat - 48 else c.toNat - 87
def hexVal (l : List UInt8) : Nat := l.foldl (fun n c => n * 16 + hexv c) 0
theorem hex_byte : ∀ n, n < 256 → UInt8.ofNat n ∈ hexSet → (48 ≤ n ∧ n ≤ 57) ∨ (97 ≤ n ∧ n ≤ 102) := by decide +kernel
theorem hex_mem {c : UInt8} (h : c ∈ hexSet) : (48 ≤ c.toNat ∧ c.toNat ≤ 57) ∨ (97 ≤ c.toNat ∧ c.toNat ≤ 102) := hex_byte c.toNat c.toNat_lt (by simpa using h)
theorem or32 : ∀ n, n < 256 → 97 ≤ n → n ≤ 102 → UInt8.ofNat n ||| 32 = UInt8.ofNat n := by decide +kernel
theorem or32c {c : UInt8} (h : 97 ≤ c.toNat ∧ c.toNat ≤ 102) : c ||| 32 = c := by
  have := or32 c.toNat c.toNat_lt h.1 h.2
  simpa using this
theorem hexv_lt {c : UInt8} (h : c ∈ hexSet) : hexv c < 16 := by
  unfold hexv
  rcases hex_mem h with h | h
  · rw [if_pos h.2]; omega
  · rw [if_neg (by omega)]; omega
theorem hexVal_snoc (l : List UInt8) (c : UInt8) : hexVal (l ++ [c]) = hexVal l * 16 + hexv c := by unfold hexVal; rw [List.foldl_append]; rfl
theorem foldl_lt : ∀ (l : List UInt8) (n : Nat), (∀ c ∈ l, c ∈ hexSet) → l.foldl (fun n c => n * 16 + hexv c) n < (n + 1) * 16 ^ l.length
  | [], n, _ => by simp
  | c :: l, n, h => by
    have ih := foldl_lt l (n * 16 + hexv c) fun d hd => h d (by simp [hd])
    have hc := hexv_lt (h c (by simp))
    refine Nat.lt_of_lt_of_le (by simpa using ih) ?_
    rw [List.length_cons, Nat.pow_succ, Nat.mul_comm (16 ^ l.length) 16, ← Nat.mul_assoc]
    exact Nat.mul_le_mul_right _ (by omega)
theorem hexVal_lt {l : List UInt8} (h : ∀ c ∈ l, c ∈ hexSet) : hexVal l < 16 ^ l.length := by
  have := foldl_lt l 0 h
  unfold hexVal
  simpa using this
theorem lower_spec {c : UInt8} (k : K (bv (c ||| 32)) w) : Calls prog 77 #[bv c] w (Ret K) := by
  refine c77 ?_
  unfold B77
  rw [show (Value.int .u8 32) = bv 32 from rfl, o_orB]
  exact k
theorem Parse_spec {ds : List UInt8} (hd : ∀ c ∈ ds, c ∈ hexSet) (hl : ds.length ≤ 16) (h : sat E w H) (k : ∀ w', sat E w' H → K (.tuple #[.int .u64 (hexVal ds : Int), .nilIface]) w') :
    Calls prog 66 #[tv (48 :: ds), .int .i64 16, .int .i64 64] w (Ret K) := by
  have e0 : (.string ⟨#[]⟩ : Value) = tv [] := rfl
  have w9 : IntKind.u64.wrap ((0 : Int) - 1) = 18446744073709551615 := by rw [IntKind.wrap_u64]; rfl
  refine c66 ?_
  unfold B66
  rw [e0, o_eqT, decide_eq_false (by simp), cd_false, o_eqInt, decide_eq_false (by decide)]
  refine jn_cut (fun σ w => σ = [tv (48 :: ds), .int .i64 16] ∧ sat E w H) (fun kj hkj => ?_) ?_
  · simp only [decide_eq_true (show (2 : Int) ≤ 16 by decide), decide_eq_true (show (16 : Int) ≤ 36 by decide), ↓o_nil, ↓o_field, ↓o_add, ↓o_sub, ↓o_mul, ↓o_lss, ↓o_leq, ↓o_gtr, ↓o_geq, ↓o_not, ↓o_pick, ↓o_eqInt, ↓o_neInt, ↓o_eqBool, ↓o_neBool, ↓o_eqPtr, ↓o_nePtr, ↓o_eqPtr', ↓o_eqSl, ↓o_neSl, ↓o_eqStr, ↓o_neStr, ↓o_len, ↓o_lenS, ↓o_min, ↓o_max, ↓o_extract, ↓o_convInt, ↓cd_true, ↓cd_false, ↓gate_tt, ↓gate_ff, ↓gate_tf, ↓gate_ft, ↓gate_undef, ↓o_bind, ↓stay_v, ↓pop_cons, ↓fin_nil, Option.isNone_none, Option.isNone_some, Bool.not_true, Bool.not_false, Nat.zero_add, decide_true, decide_false, if_true, if_false, Bool.false_eq_true, ↓reduceIte]
    exact hkj _ _ ⟨rfl, h⟩
  clear h
  rintro σ w ⟨rfl, h⟩
  rw [pop_cons, pop_cons, fin_nil]
  refine jn_cut (fun σ w => σ = [.int .i64 64] ∧ sat E w H) (fun kj hkj => ?_) ?_
  · rw [o_eqInt, decide_eq_false (by decide), cd_false, o_lss]
    simp only [decide_eq_false (show ¬ (64 : Int) < 0 by decide), decide_eq_false (show ¬ (64 : Int) < 64 by decide), ↓o_nil, ↓o_field, ↓o_add, ↓o_sub, ↓o_mul, ↓o_lss, ↓o_leq, ↓o_gtr, ↓o_geq, ↓o_not, ↓o_pick, ↓o_eqInt, ↓o_neInt, ↓o_eqBool, ↓o_neBool, ↓o_eqPtr, ↓o_nePtr, ↓o_eqPtr', ↓o_eqSl, ↓o_neSl, ↓o_eqStr, ↓o_neStr, ↓o_len, ↓o_lenS, ↓o_min, ↓o_max, ↓o_extract, ↓o_convInt, ↓cd_true, ↓cd_false, ↓gate_tt, ↓gate_ff, ↓gate_tf, ↓gate_ft, ↓gate_undef, ↓o_bind, ↓stay_v, ↓pop_cons, ↓fin_nil, Option.isNone_none, Option.isNone_some, Bool.not_true, Bool.not_false, Nat.zero_add, decide_true, decide_false, if_true, if_false, Bool.false_eq_true, ↓reduceIte]
    exact hkj _ _ ⟨rfl, h⟩
  clear h
  rintro σ w ⟨rfl, h⟩
  rw [pop_cons, fin_nil]
  refine jn_cut (fun σ w => σ = [.int .u64 1152921504606846976] ∧ sat E w H) (fun kj hkj => ?_) ?_
  · rw [o_eqInt, decide_eq_false (by decide), cd_false, o_eqInt, decide_eq_true (by decide), cd_true]
    exact hkj _ _ ⟨rfl, h⟩
  clear h
  rintro σ w ⟨rfl, h⟩
  rw [pop_cons, fin_nil, o_convInt, show (IntKind.u64.wrap 64) = ((64 : Nat) : Int) by rw [IntKind.wrap_u64]; rfl, o_shl (by decide), show IntKind.u64.wrap (1 * 2 ^ 64) = 0 by rw [IntKind.wrap_u64]; rfl, o_sub, w9]
  refine conv_sb h fun b c sp fr w h hc => ?_
  have hL : ∀ c ∈ (48 :: ds), c ∈ hexSet := fun c hc => by
    rcases List.mem_cons.1 hc with rfl | hc
    · decide
    · exact hd c hc
  have hval : ∀ i, i ≤ 16 → hexVal ((48 :: ds).take i) < 1152921504606846976 := by
    intro i hi
    cases i with
    | zero => simp [hexVal]
    | succ i =>
      have e : hexVal ((48 :: ds).take (i + 1)) = hexVal (ds.take i) := by
        rw [List.take_succ_cons]
        unfold hexVal
        rw [List.foldl_cons, show (0 * 16 + hexv 48) = 0 from rfl]
      rw [e]
      have h1 := hexVal_lt (l := ds.take i) fun c hc => hd c (List.mem_of_mem_take hc)
      refine Nat.lt_of_lt_of_le h1 ?_
      have h2 : (ds.take i).length ≤ 15 := by rw [List.length_take]; omega
      calc 16 ^ (ds.take i).length ≤ 16 ^ 15 := Nat.pow_le_pow_right (by decide) h2
        _ = 1152921504606846976 := by decide
  have hlen : (48 :: ds).length ≤ 17 := by simp; omega
  have hfin : hexVal (48 :: ds) = hexVal ds := by
    unfold hexVal
    rw [List.foldl_cons, show (0 * 16 + hexv 48) = 0 from rfl]
  rw [o_len]
  generalize 48 :: ds = l at hL hval hlen hfin h hc
  refine lp_nat (fun r σ w => ∃ i : Nat, σ = [.bool false, .int .u64 (hexVal (l.take i) : Int), .int .i64 (i : Int)] ∧ r = l.length - i ∧ i ≤ l.length ∧ sat E w (pts b (.cells (l.map bv ++ sp).toArray 5 fr) * H)) l.length ⟨0, by simp [hexVal], by omega, by omega, h⟩ ?_
  clear h
  rintro r σ w again ⟨i, rfl, rfl, hi, h⟩ hag
  rw [pop_cons, pop_cons, pop_cons, fin_nil, o_lss]
  refine cd_dec (fun hlt => ?_) (fun hge => ?_)
  · have hi1 : i < l.length := by omega
    have hx : l[i]? = some l[i] := List.getElem?_eq_getElem hi1
    have hm := hL _ (List.getElem_mem hi1)
    have htk : l.take (i + 1) = l.take i ++ [l[i]] := List.take_succ_eq_append_getElem hi1
    generalize l[i] = d at hx hm htk
    have hv := hval i (by omega)
    have hdv := hexv_lt hm
    have hnext : hexVal (l.take (i + 1)) = hexVal (l.take i) * 16 + hexv d := by rw [htk, hexVal_snoc]
    refine jn_cut (fun σ w => σ = [.bool false, .int .u64 (hexVal (l.take (i + 1)) : Int)] ∧ sat E w (pts b (.cells (l.map bv ++ sp).toArray 5 fr) * H)) (fun kj hkj => ?_) ?_
    · rw [o_index (by omega) (by omega)]
      refine ld_in (b := b) (v := bv d) h (by
        rw [Nat.zero_add, Int.toNat_natCast, List.getElem?_append_left (by simpa using hi1), List.getElem?_map, Nat.mul_one, hx]
        rfl) ?_
      have hdn := d.toNat_lt
      refine jn_cut (fun σ w => σ = [.bool false, .int .u8 (hexv d : Int)] ∧ sat E w (pts b (.cells (l.map bv ++ sp).toArray 5 fr) * H)) (fun kj2 hkj2 => ?_) ?_
      · rw [show bv d = .int .u8 (d.toNat : Int) from rfl, o_eqInt]
        have h95 : ¬ (d.toNat : Int) = 95 := by rcases hex_mem hm with h | h <;> omega
        simp only [decide_eq_false h95, ↓o_nil, ↓o_field, ↓o_add, ↓o_sub, ↓o_mul, ↓o_lss, ↓o_leq, ↓o_gtr, ↓o_geq, ↓o_not, ↓o_pick, ↓o_eqInt, ↓o_neInt, ↓o_eqBool, ↓o_neBool, ↓o_eqPtr, ↓o_nePtr, ↓o_eqPtr', ↓o_eqSl, ↓o_neSl, ↓o_eqStr, ↓o_neStr, ↓o_len, ↓o_lenS, ↓o_min, ↓o_max, ↓o_extract, ↓o_convInt, ↓cd_true, ↓cd_false, ↓gate_tt, ↓gate_ff, ↓gate_tf, ↓gate_ft, ↓gate_undef, ↓o_bind, ↓stay_v, ↓pop_cons, ↓fin_nil, Option.isNone_none, Option.isNone_some, Bool.not_true, Bool.not_false, Nat.zero_add, decide_true, decide_false, if_true, if_false, Bool.false_eq_true, ↓reduceIte]
        rcases hex_mem hm with hr | hr
        · simp only [decide_eq_true (show (48 : Int) ≤ (d.toNat : Int) by omega), decide_eq_true (show (d.toNat : Int) ≤ 57 by omega), ↓o_nil, ↓o_field, ↓o_add, ↓o_sub, ↓o_mul, ↓o_lss, ↓o_leq, ↓o_gtr, ↓o_geq, ↓o_not, ↓o_pick, ↓o_eqInt, ↓o_neInt, ↓o_eqBool, ↓o_neBool, ↓o_eqPtr, ↓o_nePtr, ↓o_eqPtr', ↓o_eqSl, ↓o_neSl, ↓o_eqStr, ↓o_neStr, ↓o_len, ↓o_lenS, ↓o_min, ↓o_max, ↓o_extract, ↓o_convInt, ↓cd_true, ↓cd_false, ↓gate_tt, ↓gate_ff, ↓gate_tf, ↓gate_ft, ↓gate_undef, ↓o_bind, ↓stay_v, ↓pop_cons, ↓fin_nil, Option.isNone_none, Option.isNone_some, Bool.not_true, Bool.not_false, Nat.zero_add, decide_true, decide_false, if_true, if_false, Bool.false_eq_true, ↓reduceIte]
          refine hkj2 _ _ ⟨?_, h⟩
          have e : hexv d = d.toNat - 48 := by unfold hexv; rw [if_pos hr.2]
          rw [e, IntKind.wrap_u8]
          congr 3
          omega
        · simp only [decide_eq_true (show (48 : Int) ≤ (d.toNat : Int) by omega), decide_eq_false (show ¬ (d.toNat : Int) ≤ 57 by omega), ↓o_nil, ↓o_field, ↓o_add, ↓o_sub, ↓o_mul, ↓o_lss, ↓o_leq, ↓o_gtr, ↓o_geq, ↓o_not, ↓o_pick, ↓o_eqInt, ↓o_neInt, ↓o_eqBool, ↓o_neBool, ↓o_eqPtr, ↓o_nePtr, ↓o_eqPtr', ↓o_eqSl, ↓o_neSl, ↓o_eqStr, ↓o_neStr, ↓o_len, ↓o_lenS, ↓o_min, ↓o_max, ↓o_extract, ↓o_convInt, ↓cd_true, ↓cd_false, ↓gate_tt, ↓gate_ff, ↓gate_tf, ↓gate_ft, ↓gate_undef, ↓o_bind, ↓stay_v, ↓pop_cons, ↓fin_nil, Option.isNone_none, Option.isNone_some, Bool.not_true, Bool.not_false, Nat.zero_add, decide_true, decide_false, if_true, if_false, Bool.false_eq_true, ↓reduceIte]
          rw [show Value.int .u8 (d.toNat : Int) = bv d from rfl]
          refine lower_spec ?_
          rw [or32c hr, show bv d = .int .u8 (d.toNat : Int) from rfl]
          simp only [decide_eq_true (show (97 : Int) ≤ (d.toNat : Int) by omega), ↓o_nil, ↓o_field, ↓o_add, ↓o_sub, ↓o_mul, ↓o_lss, ↓o_leq, ↓o_gtr, ↓o_geq, ↓o_not, ↓o_pick, ↓o_eqInt, ↓o_neInt, ↓o_eqBool, ↓o_neBool, ↓o_eqPtr, ↓o_nePtr, ↓o_eqPtr', ↓o_eqSl, ↓o_neSl, ↓o_eqStr, ↓o_neStr, ↓o_len, ↓o_lenS, ↓o_min, ↓o_max, ↓o_extract, ↓o_convInt, ↓cd_true, ↓cd_false, ↓gate_tt, ↓gate_ff, ↓gate_tf, ↓gate_ft, ↓gate_undef, ↓o_bind, ↓stay_v, ↓pop_cons, ↓fin_nil, Option.isNone_none, Option.isNone_some, Bool.not_true, Bool.not_false, Nat.zero_add, decide_true, decide_false, if_true, if_false, Bool.false_eq_true, ↓reduceIte]
          rw [show Value.int .u8 (d.toNat : Int) = bv d from rfl]
          refine lower_spec ?_
          rw [or32c hr, show bv d = .int .u8 (d.toNat : Int) from rfl]
          simp only [decide_eq_true (show (d.toNat : Int) ≤ 122 by omega), ↓o_nil, ↓o_field, ↓o_add, ↓o_sub, ↓o_mul, ↓o_lss, ↓o_leq, ↓o_gtr, ↓o_geq, ↓o_not, ↓o_pick, ↓o_eqInt, ↓o_neInt, ↓o_eqBool, ↓o_neBool, ↓o_eqPtr, ↓o_nePtr, ↓o_eqPtr', ↓o_eqSl, ↓o_neSl, ↓o_eqStr, ↓o_neStr, ↓o_len, ↓o_lenS, ↓o_min, ↓o_max, ↓o_extract, ↓o_convInt, ↓cd_true, ↓cd_false, ↓gate_tt, ↓gate_ff, ↓gate_tf, ↓gate_ft, ↓gate_undef, ↓o_bind, ↓stay_v, ↓pop_cons, ↓fin_nil, Option.isNone_none, Option.isNone_some, Bool.not_true, Bool.not_false, Nat.zero_add, decide_true, decide_false, if_true, if_false, Bool.false_eq_true, ↓reduceIte]
          rw [show Value.int .u8 (d.toNat : Int) = bv d from rfl]
          refine lower_spec ?_
          rw [or32c hr, show bv d = .int .u8 (d.toNat : Int) from rfl]
          try simp only [↓o_nil, ↓o_field, ↓o_add, ↓o_sub, ↓o_mul, ↓o_lss, ↓o_leq, ↓o_gtr, ↓o_geq, ↓o_not, ↓o_pick, ↓o_eqInt, ↓o_neInt, ↓o_eqBool, ↓o_neBool, ↓o_eqPtr, ↓o_nePtr, ↓o_eqPtr', ↓o_eqSl, ↓o_neSl, ↓o_eqStr, ↓o_neStr, ↓o_len, ↓o_lenS, ↓o_min, ↓o_max, ↓o_extract, ↓o_convInt, ↓cd_true, ↓cd_false, ↓gate_tt, ↓gate_ff, ↓gate_tf, ↓gate_ft, ↓gate_undef, ↓o_bind, ↓stay_v, ↓pop_cons, ↓fin_nil, Option.isNone_none, Option.isNone_some, Bool.not_true, Bool.not_false, Nat.zero_add, decide_true, decide_false, if_true, if_false, Bool.false_eq_true, ↓reduceIte]
          refine hkj2 _ _ ⟨?_, h⟩
          have e : hexv d = d.toNat - 87 := by unfold hexv; rw [if_neg (by omega)]
          rw [e, IntKind.wrap_u8, IntKind.wrap_u8]
          congr 3
          omega
      · clear h
        rintro σ w ⟨rfl, h⟩
        rw [pop_cons, pop_cons, fin_nil, o_convInt, show IntKind.u8.wrap 16 = 16 by rw [IntKind.wrap_u8]; rfl, o_geq, decide_eq_false (by omega), cd_false, o_geq, decide_eq_false (by omega), cd_false, o_convInt, show IntKind.u64.wrap 16 = 16 by rw [IntKind.wrap_u64]; rfl, o_mul,
          show IntKind.u64.wrap ((hexVal (l.take i) : Int) * 16) = ((hexVal (l.take i) * 16 : Nat) : Int) by rw [IntKind.wrap_u64]; omega, o_convInt, show IntKind.u64.wrap (hexv d : Int) = (hexv d : Int) by rw [IntKind.wrap_u64]; omega, o_add,
          show IntKind.u64.wrap (((hexVal (l.take i) * 16 : Nat) : Int) + (hexv d : Int)) = ((hexVal (l.take (i + 1)) : Nat) : Int) by rw [IntKind.wrap_u64, hnext]; omega, o_lss, decide_eq_false (by omega)]
        simp only [decide_eq_false (show ¬ (18446744073709551615 : Int) < (hexVal (l.take (i + 1)) : Int) by omega), ↓o_nil, ↓o_field, ↓o_add, ↓o_sub, ↓o_mul, ↓o_lss, ↓o_leq, ↓o_gtr, ↓o_geq, ↓o_not, ↓o_pick, ↓o_eqInt, ↓o_neInt, ↓o_eqBool, ↓o_neBool, ↓o_eqPtr, ↓o_nePtr, ↓o_eqPtr', ↓o_eqSl, ↓o_neSl, ↓o_eqStr, ↓o_neStr, ↓o_len, ↓o_lenS, ↓o_min, ↓o_max, ↓o_extract, ↓o_convInt, ↓cd_true, ↓cd_false, ↓gate_tt, ↓gate_ff, ↓gate_tf, ↓gate_ft, ↓gate_undef, ↓o_bind, ↓stay_v, ↓pop_cons, ↓fin_nil, Option.isNone_none, Option.isNone_some, Bool.not_true, Bool.not_false, Nat.zero_add, decide_true, decide_false, if_true, if_false, Bool.false_eq_true, ↓reduceIte]
        exact hkj _ _ ⟨rfl, h⟩
    · clear h
      rintro σ w ⟨rfl, h⟩
      rw [pop_cons, pop_cons, fin_nil, o_add, i64_of (by omega) (by omega)]
      exact hag (l.length - (i + 1)) _ _ (by omega) ⟨i + 1, rfl, rfl, by omega, h⟩
  · have hi2 : i = l.length := by omega
    subst hi2
    rw [List.take_length, hfin]
    simp only [↓o_nil, ↓o_field, ↓o_add, ↓o_sub, ↓o_mul, ↓o_lss, ↓o_leq, ↓o_gtr, ↓o_geq, ↓o_not, ↓o_pick, ↓o_eqInt, ↓o_neInt, ↓o_eqBool, ↓o_neBool, ↓o_eqPtr, ↓o_nePtr, ↓o_eqPtr', ↓o_eqSl, ↓o_neSl, ↓o_eqStr, ↓o_neStr, ↓o_len, ↓o_lenS, ↓o_min, ↓o_max, ↓o_extract, ↓o_convInt, ↓cd_true, ↓cd_false, ↓gate_tt, ↓gate_ff, ↓gate_tf, ↓gate_ft, ↓gate_undef, ↓o_bind, ↓stay_v, ↓pop_cons, ↓fin_nil, Option.isNone_none, Option.isNone_some, Bool.not_true, Bool.not_false, Nat.zero_add, decide_true, decide_false, if_true, if_false, Bool.false_eq_true, ↓reduceIte]
    exact k w h.drop
theorem neNil {n : Nat} {K : Value → World → Prop} (k : K (.bool false) w) : pvv prog (oEq .neq 96 (.tmp n) (.const .nilIface) .nilIface .nilIface) w K := by
  refine pvv_of (v := .bool false) (fun w => ?_) k
  kernel_rfl
def toNum (l : List UInt8) : Int × Int :=
  if l = [] ∨ ((l.getD 0 0).toNat : Int) ≠ 97 + l.length - 1 ∨ 17 < l.length then (0, 3)
  else if [48] <+: l.drop 1 ∨ ¬ ∀ c ∈ l.drop 1, c ∈ hexSet then (0, 3)
  else if 4611686018427387904 < hexVal (l.drop 1) then (0, 2) else ((hexVal (l.drop 1) : Int), 0)
theorem ToNumber_spec (h : sat E w H) {l : List UInt8} (hl : l.length ≤ 140737488351232) (k : ∀ w', sat E w' H → K (.tuple #[.int .i64 (toNum l).1, .int .i64 (toNum l).2]) w') : Calls prog 41 #[tv l] w (Ret K) := by
  have e0 : (.string ⟨#[]⟩ : Value) = tv [] := rfl
  have e48 : (.string ⟨#[48]⟩ : Value) = tv [48] := rfl
  have eh : (.string ⟨#[48, 49, 50, 51, 52, 53, 54, 55, 56, 57, 97, 98, 99, 100, 101, 102]⟩ : Value) = tv hexSet := rfl
  refine c41 ?_
  unfold B41
  rw [e0, e48, eh, o_eqT]
  have bad : (l = [] ∨ ((l.getD 0 0).toNat : Int) ≠ 97 + l.length - 1 ∨ 17 < l.length) → ∀ w, sat E w H → K (.tuple #[.int .i64 0, .int .i64 3]) w := fun hb w h => by
    have := k w h
    unfold toNum at this
    rw [if_pos hb] at this
    exact this
  by_cases h0 : l = []
  · simp only [decide_eq_true h0, ↓o_nil, ↓o_field, ↓o_add, ↓o_sub, ↓o_mul, ↓o_lss, ↓o_leq, ↓o_gtr, ↓o_geq, ↓o_not, ↓o_pick, ↓o_eqInt, ↓o_neInt, ↓o_eqBool, ↓o_neBool, ↓o_eqPtr, ↓o_nePtr, ↓o_eqPtr', ↓o_eqSl, ↓o_neSl, ↓o_eqStr, ↓o_neStr, ↓o_len, ↓o_lenS, ↓o_min, ↓o_max, ↓o_extract, ↓o_convInt, ↓cd_true, ↓cd_false, ↓gate_tt, ↓gate_ff, ↓gate_tf, ↓gate_ft, ↓gate_undef, ↓o_bind, ↓stay_v, ↓pop_cons, ↓fin_nil, Option.isNone_none, Option.isNone_some, Bool.not_true, Bool.not_false, Nat.zero_add, decide_true, decide_false, if_true, if_false, Bool.false_eq_true, ↓reduceIte]
    exact bad (.inl h0) w h
  have hpos : 0 < l.length := List.length_pos_iff.2 h0
  simp only [decide_eq_false h0, ↓o_nil, ↓o_field, ↓o_add, ↓o_sub, ↓o_mul, ↓o_lss, ↓o_leq, ↓o_gtr, ↓o_geq, ↓o_not, ↓o_pick, ↓o_eqInt, ↓o_neInt, ↓o_eqBool, ↓o_neBool, ↓o_eqPtr, ↓o_nePtr, ↓o_eqPtr', ↓o_eqSl, ↓o_neSl, ↓o_eqStr, ↓o_neStr, ↓o_len, ↓o_lenS, ↓o_min, ↓o_max, ↓o_extract, ↓o_convInt, ↓cd_true, ↓cd_false, ↓gate_tt, ↓gate_ff, ↓gate_tf, ↓gate_ft, ↓gate_undef, ↓o_bind, ↓stay_v, ↓pop_cons, ↓fin_nil, Option.isNone_none, Option.isNone_some, Bool.not_true, Bool.not_false, Nat.zero_add, decide_true, decide_false, if_true, if_false, Bool.false_eq_true, ↓reduceIte]
  rw [o_indexT (x := 0) (by decide) (by simpa using hpos), show (0 : Int).toNat = 0 from rfl]
  rw [show bv (l.getD 0 0) = .int .u8 ((l.getD 0 0).toNat : Int) from rfl]
  have hb0 := (l.getD 0 0).toNat_lt
  simp only [↓o_lenT, ↓o_nil, ↓o_field, ↓o_add, ↓o_sub, ↓o_mul, ↓o_lss, ↓o_leq, ↓o_gtr, ↓o_geq, ↓o_not, ↓o_pick, ↓o_eqInt, ↓o_neInt, ↓o_eqBool, ↓o_neBool, ↓o_eqPtr, ↓o_nePtr, ↓o_eqPtr', ↓o_eqSl, ↓o_neSl, ↓o_eqStr, ↓o_neStr, ↓o_len, ↓o_lenS, ↓o_min, ↓o_max, ↓o_extract, ↓o_convInt, ↓cd_true, ↓cd_false, ↓gate_tt, ↓gate_ff, ↓gate_tf, ↓gate_ft, ↓gate_undef, ↓o_bind, ↓stay_v, ↓pop_cons, ↓fin_nil, Option.isNone_none, Option.isNone_some, Bool.not_true, Bool.not_false, Nat.zero_add, decide_true, decide_false, if_true, if_false, Bool.false_eq_true, ↓reduceIte]
  rw [i64_of (n := ((l.getD 0 0).toNat : Int)) (by omega) (by omega), i64_of (n := (97 : Int) + l.length) (by omega) (by omega), i64_of (by omega) (by omega)]
  by_cases h1 : ((l.getD 0 0).toNat : Int) = 97 + l.length - 1
  case neg =>
    simp only [decide_eq_false h1, ↓o_nil, ↓o_field, ↓o_add, ↓o_sub, ↓o_mul, ↓o_lss, ↓o_leq, ↓o_gtr, ↓o_geq, ↓o_not, ↓o_pick, ↓o_eqInt, ↓o_neInt, ↓o_eqBool, ↓o_neBool, ↓o_eqPtr, ↓o_nePtr, ↓o_eqPtr', ↓o_eqSl, ↓o_neSl, ↓o_eqStr, ↓o_neStr, ↓o_len, ↓o_lenS, ↓o_min, ↓o_max, ↓o_extract, ↓o_convInt, ↓cd_true, ↓cd_false, ↓gate_tt, ↓gate_ff, ↓gate_tf, ↓gate_ft, ↓gate_undef, ↓o_bind, ↓stay_v, ↓pop_cons, ↓fin_nil, Option.isNone_none, Option.isNone_some, Bool.not_true, Bool.not_false, Nat.zero_add, decide_true, decide_false, if_true, if_false, Bool.false_eq_true, ↓reduceIte]
    exact bad (.inr (.inl h1)) w h
  simp only [decide_eq_true h1, ↓o_lenT, ↓o_nil, ↓o_field, ↓o_add, ↓o_sub, ↓o_mul, ↓o_lss, ↓o_leq, ↓o_gtr, ↓o_geq, ↓o_not, ↓o_pick, ↓o_eqInt, ↓o_neInt, ↓o_eqBool, ↓o_neBool, ↓o_eqPtr, ↓o_nePtr, ↓o_eqPtr', ↓o_eqSl, ↓o_neSl, ↓o_eqStr, ↓o_neStr, ↓o_len, ↓o_lenS, ↓o_min, ↓o_max, ↓o_extract, ↓o_convInt, ↓cd_true, ↓cd_false, ↓gate_tt, ↓gate_ff, ↓gate_tf, ↓gate_ft, ↓gate_undef, ↓o_bind, ↓stay_v, ↓pop_cons, ↓fin_nil, Option.isNone_none, Option.isNone_some, Bool.not_true, Bool.not_false, Nat.zero_add, decide_true, decide_false, if_true, if_false, Bool.false_eq_true, ↓reduceIte]
  by_cases h2 : (17 : Int) < l.length
  · simp only [decide_eq_true h2, ↓o_nil, ↓o_field, ↓o_add, ↓o_sub, ↓o_mul, ↓o_lss, ↓o_leq, ↓o_gtr, ↓o_geq, ↓o_not, ↓o_pick, ↓o_eqInt, ↓o_neInt, ↓o_eqBool, ↓o_neBool, ↓o_eqPtr, ↓o_nePtr, ↓o_eqPtr', ↓o_eqSl, ↓o_neSl, ↓o_eqStr, ↓o_neStr, ↓o_len, ↓o_lenS, ↓o_min, ↓o_max, ↓o_extract, ↓o_convInt, ↓cd_true, ↓cd_false, ↓gate_tt, ↓gate_ff, ↓gate_tf, ↓gate_ft, ↓gate_undef, ↓o_bind, ↓stay_v, ↓pop_cons, ↓fin_nil, Option.isNone_none, Option.isNone_some, Bool.not_true, Bool.not_false, Nat.zero_add, decide_true, decide_false, if_true, if_false, Bool.false_eq_true, ↓reduceIte]
    exact bad (.inr (.inr (by omega))) w h
  simp only [decide_eq_false h2, ↓o_nil, ↓o_field, ↓o_add, ↓o_sub, ↓o_mul, ↓o_lss, ↓o_leq, ↓o_gtr, ↓o_geq, ↓o_not, ↓o_pick, ↓o_eqInt, ↓o_neInt, ↓o_eqBool, ↓o_neBool, ↓o_eqPtr, ↓o_nePtr, ↓o_eqPtr', ↓o_eqSl, ↓o_neSl, ↓o_eqStr, ↓o_neStr, ↓o_len, ↓o_lenS, ↓o_min, ↓o_max, ↓o_extract, ↓o_convInt, ↓cd_true, ↓cd_false, ↓gate_tt, ↓gate_ff, ↓gate_tf, ↓gate_ft, ↓gate_undef, ↓o_bind, ↓stay_v, ↓pop_cons, ↓fin_nil, Option.isNone_none, Option.isNone_some, Bool.not_true, Bool.not_false, Nat.zero_add, decide_true, decide_false, if_true, if_false, Bool.false_eq_true, ↓reduceIte]
  have hno : ¬ (l = [] ∨ ((l.getD 0 0).toNat : Int) ≠ 97 + l.length - 1 ∨ 17 < l.length) := by
    rintro (h | h | h)
    · exact h0 h
    · exact h h1
    · omega
  unfold toNum at k
  rw [if_neg hno] at k
  rw [o_sliceT_l (by omega) (by omega), show (1 : Int).toNat = 1 from rfl]
  generalize hds : l.drop 1 = ds at k
  have hdl : ds.length ≤ 16 := by rw [← hds, List.length_drop]; omega
  refine HasPrefix_spec ?_
  by_cases h3 : [48] <+: ds
  · simp only [decide_eq_true h3, ↓o_nil, ↓o_field, ↓o_add, ↓o_sub, ↓o_mul, ↓o_lss, ↓o_leq, ↓o_gtr, ↓o_geq, ↓o_not, ↓o_pick, ↓o_eqInt, ↓o_neInt, ↓o_eqBool, ↓o_neBool, ↓o_eqPtr, ↓o_nePtr, ↓o_eqPtr', ↓o_eqSl, ↓o_neSl, ↓o_eqStr, ↓o_neStr, ↓o_len, ↓o_lenS, ↓o_min, ↓o_max, ↓o_extract, ↓o_convInt, ↓cd_true, ↓cd_false, ↓gate_tt, ↓gate_ff, ↓gate_tf, ↓gate_ft, ↓gate_undef, ↓o_bind, ↓stay_v, ↓pop_cons, ↓fin_nil, Option.isNone_none, Option.isNone_some, Bool.not_true, Bool.not_false, Nat.zero_add, decide_true, decide_false, if_true, if_false, Bool.false_eq_true, ↓reduceIte]
    have := k w h
    rw [if_pos (.inl h3)] at this
    exact this
  simp only [decide_eq_false h3, ↓o_nil, ↓o_field, ↓o_add, ↓o_sub, ↓o_mul, ↓o_lss, ↓o_leq, ↓o_gtr, ↓o_geq, ↓o_not, ↓o_pick, ↓o_eqInt, ↓o_neInt, ↓o_eqBool, ↓o_neBool, ↓o_eqPtr, ↓o_nePtr, ↓o_eqPtr', ↓o_eqSl, ↓o_neSl, ↓o_eqStr, ↓o_neStr, ↓o_len, ↓o_lenS, ↓o_min, ↓o_max, ↓o_extract, ↓o_convInt, ↓cd_true, ↓cd_false, ↓gate_tt, ↓gate_ff, ↓gate_tf, ↓gate_ft, ↓gate_undef, ↓o_bind, ↓stay_v, ↓pop_cons, ↓fin_nil, Option.isNone_none, Option.isNone_some, Bool.not_true, Bool.not_false, Nat.zero_add, decide_true, decide_false, if_true, if_false, Bool.false_eq_true, ↓reduceIte]
  refine Trim_spec ds (by decide) (by decide) (by decide) (by omega) h fun w h => ?_
  rw [o_neT]
  by_cases h4 : ∀ c ∈ ds, c ∈ hexSet
  case neg =>
    have e : decide (trimL hexSet (trimR hexSet ds) = []) = false := decide_eq_false fun e => h4 (trim_all.1 e)
    simp only [e, ↓o_nil, ↓o_field, ↓o_add, ↓o_sub, ↓o_mul, ↓o_lss, ↓o_leq, ↓o_gtr, ↓o_geq, ↓o_not, ↓o_pick, ↓o_eqInt, ↓o_neInt, ↓o_eqBool, ↓o_neBool, ↓o_eqPtr, ↓o_nePtr, ↓o_eqPtr', ↓o_eqSl, ↓o_neSl, ↓o_eqStr, ↓o_neStr, ↓o_len, ↓o_lenS, ↓o_min, ↓o_max, ↓o_extract, ↓o_convInt, ↓cd_true, ↓cd_false, ↓gate_tt, ↓gate_ff, ↓gate_tf, ↓gate_ft, ↓gate_undef, ↓o_bind, ↓stay_v, ↓pop_cons, ↓fin_nil, Option.isNone_none, Option.isNone_some, Bool.not_true, Bool.not_false, Nat.zero_add, decide_true, decide_false, if_true, if_false, Bool.false_eq_true, ↓reduceIte]
    have := k w h
    rw [if_pos (.inr h4)] at this
    exact this
  rw [decide_eq_true (trim_all.2 h4)]
  simp only [↓o_nil, ↓o_field, ↓o_add, ↓o_sub, ↓o_mul, ↓o_lss, ↓o_leq, ↓o_gtr, ↓o_geq, ↓o_not, ↓o_pick, ↓o_eqInt, ↓o_neInt, ↓o_eqBool, ↓o_neBool, ↓o_eqPtr, ↓o_nePtr, ↓o_eqPtr', ↓o_eqSl, ↓o_neSl, ↓o_eqStr, ↓o_neStr, ↓o_len, ↓o_lenS, ↓o_min, ↓o_max, ↓o_extract, ↓o_convInt, ↓cd_true, ↓cd_false, ↓gate_tt, ↓gate_ff, ↓gate_tf, ↓gate_ft, ↓gate_undef, ↓o_bind, ↓stay_v, ↓pop_cons, ↓fin_nil, Option.isNone_none, Option.isNone_some, Bool.not_true, Bool.not_false, Nat.zero_add, decide_true, decide_false, if_true, if_false, Bool.false_eq_true, ↓reduceIte]
  have hn : ¬ ([48] <+: ds ∨ ¬ ∀ c ∈ ds, c ∈ hexSet) := by
    rintro (h | h)
    · exact h3 h
    · exact h h4
  rw [if_neg hn] at k
  rw [o_catT (by simp; omega)]
  refine c52 ?_
  unfold B52
  rw [show [48] ++ ds = 48 :: ds from rfl]
  refine Parse_spec h4 hdl h fun w h => ?_
  rw [o_extract, o_extract]
  refine neNil ?_
  rw [cd_false]
  simp only [↓o_nil, ↓o_field, ↓o_add, ↓o_sub, ↓o_mul, ↓o_lss, ↓o_leq, ↓o_gtr, ↓o_geq, ↓o_not, ↓o_pick, ↓o_eqInt, ↓o_neInt, ↓o_eqBool, ↓o_neBool, ↓o_eqPtr, ↓o_nePtr, ↓o_eqPtr', ↓o_eqSl, ↓o_neSl, ↓o_eqStr, ↓o_neStr, ↓o_len, ↓o_lenS, ↓o_min, ↓o_max, ↓o_extract, ↓o_convInt, ↓cd_true, ↓cd_false, ↓gate_tt, ↓gate_ff, ↓gate_tf, ↓gate_ft, ↓gate_undef, ↓o_bind, ↓stay_v, ↓pop_cons, ↓fin_nil, Option.isNone_none, Option.isNone_some, Bool.not_true, Bool.not_false, Nat.zero_add, decide_true, decide_false, if_true, if_false, Bool.false_eq_true, ↓reduceIte]
  refine neNil ?_
  have hv := hexVal_lt h4
  have hv2 : hexVal ds < 18446744073709551616 := Nat.lt_of_lt_of_le hv (by
    calc 16 ^ ds.length ≤ 16 ^ 16 := Nat.pow_le_pow_right (by decide) hdl
      _ = 18446744073709551616 := by decide)
  by_cases h5 : 4611686018427387904 < hexVal ds
  · simp only [decide_eq_true (show (4611686018427387904 : Int) < (hexVal ds : Int) by omega), ↓o_nil, ↓o_field, ↓o_add, ↓o_sub, ↓o_mul, ↓o_lss, ↓o_leq, ↓o_gtr, ↓o_geq, ↓o_not, ↓o_pick, ↓o_eqInt, ↓o_neInt, ↓o_eqBool, ↓o_neBool, ↓o_eqPtr, ↓o_nePtr, ↓o_eqPtr', ↓o_eqSl, ↓o_neSl, ↓o_eqStr, ↓o_neStr, ↓o_len, ↓o_lenS, ↓o_min, ↓o_max, ↓o_extract, ↓o_convInt, ↓cd_true, ↓cd_false, ↓gate_tt, ↓gate_ff, ↓gate_tf, ↓gate_ft, ↓gate_undef, ↓o_bind, ↓stay_v, ↓pop_cons, ↓fin_nil, Option.isNone_none, Option.isNone_some, Bool.not_true, Bool.not_false, Nat.zero_add, decide_true, decide_false, if_true, if_false, Bool.false_eq_true, ↓reduceIte]
    have := k w h
    rw [if_pos h5] at this
    exact this
  · simp only [decide_eq_false (show ¬ (4611686018427387904 : Int) < (hexVal ds : Int) by omega), ↓o_nil, ↓o_field, ↓o_add, ↓o_sub, ↓o_mul, ↓o_lss, ↓o_leq, ↓o_gtr, ↓o_geq, ↓o_not, ↓o_pick, ↓o_eqInt, ↓o_neInt, ↓o_eqBool, ↓o_neBool, ↓o_eqPtr, ↓o_nePtr, ↓o_eqPtr', ↓o_eqSl, ↓o_neSl, ↓o_eqStr, ↓o_neStr, ↓o_len, ↓o_lenS, ↓o_min, ↓o_max, ↓o_extract, ↓o_convInt, ↓cd_true, ↓cd_false, ↓gate_tt, ↓gate_ff, ↓gate_tf, ↓gate_ft, ↓gate_undef, ↓o_bind, ↓stay_v, ↓pop_cons, ↓fin_nil, Option.isNone_none, Option.isNone_some, Bool.not_true, Bool.not_false, Nat.zero_add, decide_true, decide_false, if_true, if_false, Bool.false_eq_true, ↓reduceIte]
    have := k w h
    rw [if_neg h5] at this
    try rw [i64_of (by omega) (by omega)]
    exact this
end Go.Proofs.YtjeiojibnmfibaaGreatDoor
