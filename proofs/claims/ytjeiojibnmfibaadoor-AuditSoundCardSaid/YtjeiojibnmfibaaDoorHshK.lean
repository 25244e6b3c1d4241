/-
  strings.HasPrefix.
-/
import Derived.Test.YtjeiojibnmfibaaDoorPB
import Derived.Test.YtjeiojibnmfibaaDoorStructs
import Derived.Test.YtjeiojibnmfibaaDoorPI
set_option linter.all false
set_option maxRecDepth 100000
namespace Go.Proofs.YtjeiojibnmfibaaDoor
open Go Hold
variable {E : World0} {w : World} {H R : HP} {K : Value → World → Prop}
theorem HasPrefix_spec {l p : List UInt8} (k : K (.bool (decide (p <+: l))) w) : Calls prog 62 #[tv l, tv p] w (Ret K) := by
  refine c62 ?_
  unfold B62
  refine c73 ?_
  unfold B73
  rw [o_lenT, o_lenT, o_geq]
  by_cases h : p.length ≤ l.length
  · have t1 : decide ((p.length : Int) ≤ (l.length : Int)) = true := decide_eq_true (by omega)
    simp only [t1, ↓o_lenT, ↓o_nil, ↓o_field, ↓o_add, ↓o_sub, ↓o_mul, ↓o_lss, ↓o_leq, ↓o_gtr, ↓o_geq, ↓o_not, ↓o_pick, ↓o_eqInt, ↓o_neInt, ↓o_eqBool, ↓o_neBool, ↓o_eqPtr, ↓o_nePtr, ↓o_eqPtr', ↓o_eqSl, ↓o_neSl, ↓o_eqStr, ↓o_neStr, ↓o_len, ↓o_lenS, ↓o_min, ↓o_max, ↓o_extract, ↓o_convInt, ↓cd_true, ↓cd_false, ↓gate_tt, ↓gate_ff, ↓gate_tf, ↓gate_ft, ↓gate_undef, ↓o_bind, ↓stay_v, ↓pop_cons, ↓fin_nil, Option.isNone_none, Option.isNone_some, Bool.not_true, Bool.not_false, Nat.zero_add, decide_true, decide_false, if_true, if_false, Bool.false_eq_true, ↓reduceIte]
    rw [o_sliceT_h (by omega) (by omega), Int.toNat_natCast, o_eqT]
    have e : decide (l.take p.length = p) = decide (p <+: l) := by
      rw [decide_eq_decide, List.prefix_iff_eq_take]
      exact eq_comm
    rw [e]
    try simp only [↓o_nil, ↓o_field, ↓o_add, ↓o_sub, ↓o_mul, ↓o_lss, ↓o_leq, ↓o_gtr, ↓o_geq, ↓o_not, ↓o_pick, ↓o_eqInt, ↓o_neInt, ↓o_eqBool, ↓o_neBool, ↓o_eqPtr, ↓o_nePtr, ↓o_eqPtr', ↓o_eqSl, ↓o_neSl, ↓o_eqStr, ↓o_neStr, ↓o_len, ↓o_lenS, ↓o_min, ↓o_max, ↓o_extract, ↓o_convInt, ↓cd_true, ↓cd_false, ↓gate_tt, ↓gate_ff, ↓gate_tf, ↓gate_ft, ↓gate_undef, ↓o_bind, ↓stay_v, ↓pop_cons, ↓fin_nil, Option.isNone_none, Option.isNone_some, Bool.not_true, Bool.not_false, Nat.zero_add, decide_true, decide_false, if_true, if_false, Bool.false_eq_true, ↓reduceIte]
    exact k
  · have t1 : decide ((p.length : Int) ≤ (l.length : Int)) = false := decide_eq_false (by omega)
    have e : decide (p <+: l) = false := decide_eq_false (fun hp => h hp.length_le)
    rw [e] at k
    simp only [t1, ↓o_nil, ↓o_field, ↓o_add, ↓o_sub, ↓o_mul, ↓o_lss, ↓o_leq, ↓o_gtr, ↓o_geq, ↓o_not, ↓o_pick, ↓o_eqInt, ↓o_neInt, ↓o_eqBool, ↓o_neBool, ↓o_eqPtr, ↓o_nePtr, ↓o_eqPtr', ↓o_eqSl, ↓o_neSl, ↓o_eqStr, ↓o_neStr, ↓o_len, ↓o_lenS, ↓o_min, ↓o_max, ↓o_extract, ↓o_convInt, ↓cd_true, ↓cd_false, ↓gate_tt, ↓gate_ff, ↓gate_tf, ↓gate_ft, ↓gate_undef, ↓o_bind, ↓stay_v, ↓pop_cons, ↓fin_nil, Option.isNone_none, Option.isNone_some, Bool.not_true, Bool.not_false, Nat.zero_add, decide_true, decide_false, if_true, if_false, Bool.false_eq_true, ↓reduceIte]
    exact k
end Go.Proofs.YtjeiojibnmfibaaDoor

/-
  strings.Trim by a set of ASCII signs.
-/
set_option linter.all false
set_option maxRecDepth 100000
namespace Go.Proofs.YtjeiojibnmfibaaDoor
open Go Hold
variable {E : World0} {w : World} {H R : HP} {K : Value → World → Prop}
/-- The set, as it lies: a place for each byte. -/
def setC (f : Nat → Bool) : List Value := (List.range 256).map fun i => .bool (f i)
theorem setC_length (f : Nat → Bool) : (setC f).length = 256 := by simp [setC]
theorem setC_at (f : Nat → Bool) {i : Nat} (hi : i < 256) : (setC f)[i]? = some (.bool (f i)) := by
  unfold setC
  rw [List.getElem?_map, List.getElem?_range hi]
  rfl
theorem setC_set (f : Nat → Bool) {i : Nat} (hi : i < 256) : (setC f).set i (.bool true) = setC fun j => f j || decide (j = i) := by
  refine List.ext_getElem? fun j => ?_
  rw [List.getElem?_set]
  by_cases hij : i = j
  · subst hij
    rw [if_pos rfl, if_pos (by rw [setC_length]; exact hi), setC_at _ hi]
    simp
  · rw [if_neg hij]
    by_cases hj : j < 256
    · rw [setC_at _ hj, setC_at _ hj]
      have : decide (j = i) = false := decide_eq_false (fun h => hij h.symm)
      simp [this]
    · rw [List.getElem?_eq_none (by rw [setC_length]; omega), List.getElem?_eq_none (by rw [setC_length]; omega)]
def inSet (cs : List UInt8) (i : Nat) : Bool := cs.any fun c => decide (i = c.toNat)
theorem inSet_mem {cs : List UInt8} {b : UInt8} : inSet cs b.toNat = decide (b ∈ cs) := by
  rw [Bool.eq_iff_iff]
  simp only [inSet, List.any_eq_true, decide_eq_true_eq]
  constructor
  · rintro ⟨c, hc, h⟩
    rwa [UInt8.toNat_inj.1 h]
  · exact fun h => ⟨b, h, rfl⟩
theorem contains_spec {b : Nat} {cs : List UInt8} {c : UInt8} (h : sat E w H) [Has H b (.cells (setC (inSet cs)).toArray 115 (0, 0))] (k : K (.bool (decide (c ∈ cs))) w) : Calls prog 88 #[.pointer (some ⟨b, 0, none⟩), bv c] w (Ret K) := by
  have hc := c.toNat_lt
  refine c88 ?_
  unfold B88
  rw [o_nil, show bv c = .int .u8 (c.toNat : Int) from rfl, o_indexA (by omega) (by omega)]
  refine ld_in (b := b) (v := .bool (decide (c ∈ cs))) h ?_ k
  rw [← inSet_mem]
  simp only [Nat.zero_add, Int.toNat_natCast]
  exact setC_at _ (by omega)
theorem makeSet_spec {cs : List UInt8} (hc : ∀ c ∈ cs, c.toNat < 128) (hl : cs.length ≤ 1000) (h : sat E w H) (k : ∀ w', sat E w' H → K (.tuple #[.agg (setC (inSet cs)).toArray, .bool true]) w') : Calls prog 76 #[tv cs] w (Ret K) := by
  refine c76 ?_
  unfold B76
  refine alloc_sl h fun b w h => ?_
  have h : sat E w (pts b (.cells (setC (inSet [])).toArray 115 (0, 0)) * H) := h
  refine lp_nat (fun q σ w => ∃ i : Nat, σ = [.int .i64 (i : Int)] ∧ q = cs.length - i ∧ i ≤ cs.length ∧ sat E w (pts b (.cells (setC (inSet (cs.take i))).toArray 115 (0, 0)) * H)) cs.length ⟨0, rfl, by omega, by omega, by simpa using h⟩ ?_
  clear h
  rintro q σ w again ⟨i, rfl, rfl, hi, h⟩ hag
  rw [pop_cons, fin_nil, o_lenT, o_lss]
  refine cd_dec (fun hlt => ?_) (fun hge => ?_)
  · have hi1 : i < cs.length := by omega
    have hm : cs.getD i 0 ∈ cs := by rw [List.getD_eq_getElem?_getD, List.getElem?_eq_getElem hi1]; exact List.getElem_mem hi1
    have hlt := hc _ hm
    have hb := (cs.getD i 0).toNat_lt
    rw [o_indexT (by omega) (by rw [Int.toNat_natCast]; exact hi1), Int.toNat_natCast, show bv (cs.getD i 0) = .int .u8 ((cs.getD i 0).toNat : Int) from rfl, o_geq, show decide ((128 : Int) ≤ ((cs.getD i 0).toNat : Int)) = false from decide_eq_false (by omega), cd_false]
    rw [o_indexA (by omega) (by omega)]
    simp only [Nat.zero_add, Int.toNat_natCast]
    refine store_sl (b := b) h rfl (by rw [setC_length]; omega) fun w h => ?_
    rw [o_add, i64_of (by omega) (by omega)]
    refine hag (cs.length - (i + 1)) _ _ (by omega) ⟨i + 1, rfl, rfl, by omega, ?_⟩
    rw [setC_set _ (by omega)] at h
    have e : (fun j => inSet (cs.take i) j || decide (j = (cs.getD i 0).toNat)) = inSet (cs.take (i + 1)) := by
      funext j
      have : cs.getD i 0 = cs[i] := by rw [List.getD_eq_getElem?_getD, List.getElem?_eq_getElem hi1]; rfl
      unfold inSet
      rw [List.take_succ_eq_append_getElem hi1, List.any_append, this]
      simp only [List.any_cons, List.any_nil, Bool.or_false]
    rw [e] at h
    exact h
  · have hi2 : i = cs.length := by omega
    subst hi2
    rw [List.take_length] at h
    have ho : ∀ x ∈ setC (inSet cs), x.oneCell' = true := by
      intro x hx
      simp only [setC, List.mem_map] at hx
      obtain ⟨_, _, rfl⟩ := hx
      rfl
    refine ld_agg (b := b) h (setC_length _) ?_
    refine store_all (b := b) h (xs := setC (inSet cs)) (vs := setC (inSet cs)) (setC_length _) (setC_length _) ho fun w h => ?_
    exact res_agg h (b := b) (setC_length _) (k _ h.drop)
def trimR (cs : List UInt8) (l : List UInt8) : List UInt8 := (l.reverse.dropWhile (· ∈ cs)).reverse
def trimL (cs : List UInt8) (l : List UInt8) : List UInt8 := l.dropWhile (· ∈ cs)
theorem trimR_snoc (cs l : List UInt8) (c : UInt8) : trimR cs (l ++ [c]) = if c ∈ cs then trimR cs l else l ++ [c] := by
  unfold trimR
  rw [List.reverse_append, List.reverse_singleton, List.singleton_append, List.dropWhile_cons]
  by_cases h : c ∈ cs
  · simp [h]
  · simp [h]
theorem trimLeft_spec {b : Nat} {cs : List UInt8} (l : List UInt8) (hl : l.length ≤ 9223372036854775807) (h : sat E w H) [Has H b (.cells (setC (inSet cs)).toArray 115 (0, 0))] (k : ∀ w', sat E w' H → K (tv (trimL cs l)) w') : Calls prog 77 #[tv l, .pointer (some ⟨b, 0, none⟩)] w (Ret K) := by
  refine c77 ?_
  unfold B77
  refine jn_cut (fun σ w => σ = [tv (trimL cs l)] ∧ sat E w H) (fun kj hkj => ?_) ?_
  · refine lp_nat (fun q σ w => ∃ m : List UInt8, σ = [tv m] ∧ q = m.length ∧ m.length ≤ l.length ∧ trimL cs m = trimL cs l ∧ sat E w H) l.length ⟨l, rfl, rfl, Nat.le_refl _, rfl, h⟩ ?_
    clear h
    rintro q σ w again ⟨m, rfl, rfl, hm, he, h⟩ hag
    rw [pop_cons, fin_nil, o_lenT, o_gtr]
    cases m with
    | nil =>
      rw [show decide ((0 : Int) < (([] : List UInt8).length : Int)) = false from rfl, cd_false]
      exact hkj _ _ ⟨by rw [← he]; rfl, h⟩
    | cons c m =>
      have hm' : m.length + 1 ≤ l.length := by simpa using hm
      rw [show decide ((0 : Int) < ((c :: m).length : Int)) = true from decide_eq_true (by rw [List.length_cons]; omega), cd_true]
      rw [o_indexT (by omega) (by simp)]
      refine contains_spec (b := b) (cs := cs) (c := c) h ?_
      rw [o_not]
      by_cases hc : c ∈ cs
      · rw [show (!decide (c ∈ cs)) = false by simp [hc], cd_false, o_sliceT_l (by omega) (by rw [List.length_cons]; omega)]
        refine hag m.length _ _ (by simp) ⟨m, rfl, rfl, by omega, ?_, h⟩
        rw [← he]
        simp [trimL, List.dropWhile_cons, hc]
      · rw [show (!decide (c ∈ cs)) = true by simp [hc], cd_true]
        refine hkj _ _ ⟨?_, h⟩
        rw [← he]
        simp [trimL, List.dropWhile_cons, hc]
  · rintro σ w ⟨rfl, h⟩
    rw [pop_cons, fin_nil]
    exact k _ h
theorem trimRight_spec {b : Nat} {cs : List UInt8} (l : List UInt8) (hl : l.length ≤ 9223372036854775807) (h : sat E w H) [Has H b (.cells (setC (inSet cs)).toArray 115 (0, 0))] (k : ∀ w', sat E w' H → K (tv (trimR cs l)) w') : Calls prog 78 #[tv l, .pointer (some ⟨b, 0, none⟩)] w (Ret K) := by
  refine c78 ?_
  unfold B78
  refine jn_cut (fun σ w => σ = [tv (trimR cs l)] ∧ sat E w H) (fun kj hkj => ?_) ?_
  · refine lp_nat (fun q σ w => ∃ m : List UInt8, σ = [tv m] ∧ q = m.length ∧ m.length ≤ l.length ∧ trimR cs m = trimR cs l ∧ sat E w H) l.length ⟨l, rfl, rfl, Nat.le_refl _, rfl, h⟩ ?_
    clear h
    rintro q σ w again ⟨m, rfl, rfl, hm, he, h⟩ hag
    rw [pop_cons, fin_nil, o_lenT, o_gtr]
    rcases List.eq_nil_or_concat m with rfl | ⟨m, c, rfl⟩
    · rw [show decide ((0 : Int) < (([] : List UInt8).length : Int)) = false from rfl, cd_false]
      exact hkj _ _ ⟨by rw [← he]; rfl, h⟩
    · rw [List.concat_eq_append] at hm he hag ⊢
      have hm' : m.length + 1 ≤ l.length := by simpa using hm
      have e1 : (((m ++ [c]).length : Nat) : Int) = (m.length : Int) + 1 := by simp
      rw [show decide ((0 : Int) < ((m ++ [c]).length : Int)) = true from decide_eq_true (by rw [e1]; omega), cd_true, o_lenT, o_sub, e1]
      have e2 : IntKind.i64.wrap ((m.length : Int) + 1 - 1) = ((m.length : Nat) : Int) := by rw [i64_of (by omega) (by omega)]; omega
      rw [e2, o_indexT (by omega) (by simp), Int.toNat_natCast, show (m ++ [c]).getD m.length 0 = c by simp [List.getD_eq_getElem?_getD]]
      refine contains_spec (b := b) (cs := cs) (c := c) h ?_
      rw [o_not]
      rw [trimR_snoc] at he
      by_cases hc : c ∈ cs
      · rw [show (!decide (c ∈ cs)) = false by simp [hc], cd_false, o_lenT, o_sub, e1, e2, o_sliceT_h (by omega) (by rw [e1]; omega)]
        rw [if_pos hc] at he
        refine hag m.length _ _ (by simp) ⟨m, by simp, rfl, by omega, he, h⟩
      · rw [show (!decide (c ∈ cs)) = true by simp [hc], cd_true]
        rw [if_neg hc] at he
        exact hkj _ _ ⟨by rw [← he], h⟩
  · rintro σ w ⟨rfl, h⟩
    rw [pop_cons, fin_nil]
    exact k _ h
/-- Trim, by a set of at least two signs. -/
theorem Trim_spec {cs : List UInt8} (l : List UInt8) (hc : ∀ c ∈ cs, c.toNat < 128) (hl2 : 2 ≤ cs.length) (hl : cs.length ≤ 1000) (hl' : l.length ≤ 9223372036854775807) (h : sat E w H) (k : ∀ w', sat E w' H → K (tv (trimL cs (trimR cs l))) w') :
    Calls prog 63 #[tv l, tv cs] w (Ret K) := by
  have e0 : (.string ⟨#[]⟩ : Value) = tv [] := rfl
  refine c63 ?_
  unfold B63
  rw [e0, o_eqT]
  have fin : ∀ w, sat E w H → trimL cs (trimR cs l) = trimL cs (trimR cs l) → Calls prog 76 #[tv cs] w (Ret fun t_16 w =>
      pvv prog (Instr.extract t_16 0) w fun t_17 w =>
      pvv prog (Instr.extract t_16 1) w fun t_18 w =>
      efv prog (Instr.alloc 115 true (.tuple #[])) w fun as_19 w =>
      efu prog (Instr.storeAt 115 as_19 t_17) w fun u_20 w =>
      cd t_18 (
        Calls prog 78 #[tv l, as_19] w (Ret fun t_21 w =>
        Calls prog 77 #[t_21, as_19] w (Ret fun t_22 w =>
        K t_22 w))) <|
      Calls prog 80 #[tv l, tv cs] w (Ret fun t_23 w =>
      Calls prog 79 #[t_23, tv cs] w (Ret fun t_24 w =>
      K t_24 w))) := by
    intro w h _
    refine makeSet_spec hc hl h fun w h => ?_
    rw [o_extract, o_extract]
    refine alloc_sl h fun b w h => ?_
    have h : sat E w (pts b (.cells (setC (inSet [])).toArray 115 (0, 0)) * H) := h
    have ho : ∀ x ∈ setC (inSet cs), x.oneCell' = true := by
      intro x hx
      simp only [setC, List.mem_map] at hx
      obtain ⟨_, _, rfl⟩ := hx
      rfl
    refine store_all (b := b) h (xs := setC (inSet [])) (vs := setC (inSet cs)) (setC_length _) (setC_length _) ho fun w h => ?_
    rw [cd_true]
    refine trimRight_spec (b := b) l hl' h fun w h => ?_
    refine trimLeft_spec (b := b) (trimR cs l) ?_ h fun w h => k _ h.drop
    have : (trimR cs l).length ≤ l.length := by
      unfold trimR
      rw [List.length_reverse]
      exact Nat.le_trans (List.dropWhile_sublist _).length_le (by simp)
    omega
  have hne : ¬ cs = [] := by rintro rfl; simp at hl2
  have h1 : ¬ ((cs.length : Int) = 1) := by omega
  by_cases hl0 : l = []
  · simp only [hl0, ↓o_nil, ↓o_field, ↓o_add, ↓o_sub, ↓o_mul, ↓o_lss, ↓o_leq, ↓o_gtr, ↓o_geq, ↓o_not, ↓o_pick, ↓o_eqInt, ↓o_neInt, ↓o_eqBool, ↓o_neBool, ↓o_eqPtr, ↓o_nePtr, ↓o_eqPtr', ↓o_eqSl, ↓o_neSl, ↓o_eqStr, ↓o_neStr, ↓o_len, ↓o_lenS, ↓o_min, ↓o_max, ↓o_extract, ↓o_convInt, ↓cd_true, ↓cd_false, ↓gate_tt, ↓gate_ff, ↓gate_tf, ↓gate_ft, ↓gate_undef, ↓o_bind, ↓stay_v, ↓pop_cons, ↓fin_nil, Option.isNone_none, Option.isNone_some, Bool.not_true, Bool.not_false, Nat.zero_add, decide_true, decide_false, if_true, if_false, Bool.false_eq_true, ↓reduceIte]
    have := k w h
    rw [hl0] at this
    exact this
  · simp only [hl0, hne, ↓o_eqT, ↓o_lenT, h1, ↓o_nil, ↓o_field, ↓o_add, ↓o_sub, ↓o_mul, ↓o_lss, ↓o_leq, ↓o_gtr, ↓o_geq, ↓o_not, ↓o_pick, ↓o_eqInt, ↓o_neInt, ↓o_eqBool, ↓o_neBool, ↓o_eqPtr, ↓o_nePtr, ↓o_eqPtr', ↓o_eqSl, ↓o_neSl, ↓o_eqStr, ↓o_neStr, ↓o_len, ↓o_lenS, ↓o_min, ↓o_max, ↓o_extract, ↓o_convInt, ↓cd_true, ↓cd_false, ↓gate_tt, ↓gate_ff, ↓gate_tf, ↓gate_ft, ↓gate_undef, ↓o_bind, ↓stay_v, ↓pop_cons, ↓fin_nil, Option.isNone_none, Option.isNone_some, Bool.not_true, Bool.not_false, Nat.zero_add, decide_true, decide_false, if_true, if_false, Bool.false_eq_true, ↓reduceIte]
    exact fin w h rfl
theorem dw (cs : List UInt8) : ∀ m : List UInt8, m.dropWhile (fun x => decide (x ∈ cs)) = [] ↔ ∀ c ∈ m, c ∈ cs
  | [] => by simp
  | c :: m => by
    have ih := dw cs m
    rw [List.dropWhile_cons]
    by_cases h : c ∈ cs
    · simp [h, ih]
    · simp [h]
theorem dw_head (cs : List UInt8) : ∀ m : List UInt8, m.dropWhile (fun x => decide (x ∈ cs)) ≠ [] → ∃ c ∈ m.dropWhile (fun x => decide (x ∈ cs)), c ∉ cs
  | [], h => absurd rfl h
  | c :: m, h => by
    rw [List.dropWhile_cons] at h ⊢
    by_cases hc : c ∈ cs
    · simp only [hc, decide_true, if_true] at h ⊢
      exact dw_head cs m h
    · simp only [hc, decide_false, Bool.false_eq_true, if_false]
      exact ⟨c, by simp, hc⟩
theorem trim_all {cs l : List UInt8} : trimL cs (trimR cs l) = [] ↔ ∀ c ∈ l, c ∈ cs := by
  unfold trimL
  rw [dw]
  constructor
  · intro h c hc
    by_cases hn : trimR cs l = []
    · unfold trimR at hn
      rw [List.reverse_eq_nil_iff, dw] at hn
      exact hn c (by simpa using hc)
    · exfalso
      have hne : l.reverse.dropWhile (fun x => decide (x ∈ cs)) ≠ [] := by
        intro h0
        exact hn (by unfold trimR; rw [h0]; rfl)
      obtain ⟨d, hd1, hd2⟩ := dw_head cs _ hne
      exact hd2 (h d (by unfold trimR; rw [List.mem_reverse]; exact hd1))
  · intro h c hc
    refine h c ?_
    unfold trimR at hc
    rw [List.mem_reverse] at hc
    have := (List.dropWhile_sublist _).subset hc
    simpa using this
end Go.Proofs.YtjeiojibnmfibaaDoor

/-
  strconv.ParseUint on hexadecimal digits; codec.ToNumber.
-/
set_option linter.all false
set_option maxRecDepth 100000
namespace Go.Proofs.YtjeiojibnmfibaaDoor
open Go Hold
variable {E : World0} {w : World} {H R : HP} {K : Value → World → Prop}
def hexSet : List UInt8 := [48, 49, 50, 51, 52, 53, 54, 55, 56, 57, 97, 98, 99, 100, 101, 102]
def hexv (c : UInt8) : Nat := if c.toNat ≤ 57 then c.toNat - 48 else c.toNat - 87
def hexVal (l : List UInt8) : Nat := l.foldl (fun n c => n * 16 + hexv c) 0
theorem hex_byte : ∀ n, n < 256 → UInt8.ofNat n ∈ hexSet → (48 ≤ n ∧ n ≤ 57) ∨ (97 ≤ n ∧ n ≤ 102) := by decide +kernel
theorem hex_mem {c : UInt8} (h : c ∈ hexSet) : (48 ≤ c.toNat ∧ c.toNat ≤ 57) ∨ (97 ≤ c.toNat ∧ c.toNat ≤ 102) := hex_byte c.toNat c.toNat_lt (by simpa using h)
theorem or32 : ∀ n, n < 256 → 97 ≤ n → n ≤ 102 → UInt8.ofNat n ||| 32 = UInt8.ofNat n := by decide +kernel
theorem or32c {c : UInt8} (h : 97 ≤ c.toNat ∧ c.toNat ≤ 102) : c ||| 32 = c := by
  have := or32 c.toNat c.toNat_lt h.1 h.2
  simpa using this
theorem hexv_lt {c : UInt8} (h : c ∈ hexSet) : hexv c < 16 := by
  unfold hexv
  rcases hex_mem h with h | h
  · rw [if_pos h.2]; omega
  · rw [if_neg (by omega)]; omega
theorem hexVal_snoc (l : List UInt8) (c : UInt8) : hexVal (l ++ [c]) = hexVal l * 16 + hexv c := by unfold hexVal; rw [List.foldl_append]; rfl
theorem foldl_lt : ∀ (l : List UInt8) (n : Nat), (∀ c ∈ l, c ∈ hexSet) → l.foldl (fun n c => n * 16 + hexv c) n < (n + 1) * 16 ^ l.length
  | [], n, _ => by simp
  | c :: l, n, h => by
    have ih := foldl_lt l (n * 16 + hexv c) fun d hd => h d (by simp [hd])
    have hc := hexv_lt (h c (by simp))
    refine Nat.lt_of_lt_of_le (by simpa using ih) ?_
    rw [List.length_cons, Nat.pow_succ, Nat.mul_comm (16 ^ l.length) 16, ← Nat.mul_assoc]
    exact Nat.mul_le_mul_right _ (by omega)
theorem hexVal_lt {l : List UInt8} (h : ∀ c ∈ l, c ∈ hexSet) : hexVal l < 16 ^ l.length := by
  have := foldl_lt l 0 h
  unfold hexVal
  simpa using this
theorem lower_spec {c : UInt8} (k : K (bv (c ||| 32)) w) : Calls prog 92 #[bv c] w (Ret K) := by
  refine c92 ?_
  unfold B92
  rw [show (Value.int .u8 32) = bv 32 from rfl, o_orB]
  exact k
theorem Parse_spec {ds : List UInt8} (hd : ∀ c ∈ ds, c ∈ hexSet) (hl : ds.length ≤ 16) (h : sat E w H) (k : ∀ w', sat E w' H → K (.tuple #[.int .u64 (hexVal ds : Int), .nilIface]) w') :
    Calls prog 81 #[tv (48 :: ds), .int .i64 16, .int .i64 64] w (Ret K) := by
  have e0 : (.string ⟨#[]⟩ : Value) = tv [] := rfl
  have w9 : IntKind.u64.wrap ((0 : Int) - 1) = 18446744073709551615 := by rw [IntKind.wrap_u64]; rfl
  refine c81 ?_
  unfold B81
  rw [e0, o_eqT, decide_eq_false (by simp), cd_false, o_eqInt, decide_eq_false (by decide)]
  refine jn_cut (fun σ w => σ = [tv (48 :: ds), .int .i64 16] ∧ sat E w H) (fun kj hkj => ?_) ?_
  · simp only [decide_eq_true (show (2 : Int) ≤ 16 by decide), decide_eq_true (show (16 : Int) ≤ 36 by decide), ↓o_nil, ↓o_field, ↓o_add, ↓o_sub, ↓o_mul, ↓o_lss, ↓o_leq, ↓o_gtr, ↓o_geq, ↓o_not, ↓o_pick, ↓o_eqInt, ↓o_neInt, ↓o_eqBool, ↓o_neBool, ↓o_eqPtr, ↓o_nePtr, ↓o_eqPtr', ↓o_eqSl, ↓o_neSl, ↓o_eqStr, ↓o_neStr, ↓o_len, ↓o_lenS, ↓o_min, ↓o_max, ↓o_extract, ↓o_convInt, ↓cd_true, ↓cd_false, ↓gate_tt, ↓gate_ff, ↓gate_tf, ↓gate_ft, ↓gate_undef, ↓o_bind, ↓stay_v, ↓pop_cons, ↓fin_nil, Option.isNone_none, Option.isNone_some, Bool.not_true, Bool.not_false, Nat.zero_add, decide_true, decide_false, if_true, if_false, Bool.false_eq_true, ↓reduceIte]
    exact hkj _ _ ⟨rfl, h⟩
  clear h
  rintro σ w ⟨rfl, h⟩
  rw [pop_cons, pop_cons, fin_nil]
  refine jn_cut (fun σ w => σ = [.int .i64 64] ∧ sat E w H) (fun kj hkj => ?_) ?_
  · rw [o_eqInt, decide_eq_false (by decide), cd_false, o_lss]
    simp only [decide_eq_false (show ¬ (64 : Int) < 0 by decide), decide_eq_false (show ¬ (64 : Int) < 64 by decide), ↓o_nil, ↓o_field, ↓o_add, ↓o_sub, ↓o_mul, ↓o_lss, ↓o_leq, ↓o_gtr, ↓o_geq, ↓o_not, ↓o_pick, ↓o_eqInt, ↓o_neInt, ↓o_eqBool, ↓o_neBool, ↓o_eqPtr, ↓o_nePtr, ↓o_eqPtr', ↓o_eqSl, ↓o_neSl, ↓o_eqStr, ↓o_neStr, ↓o_len, ↓o_lenS, ↓o_min, ↓o_max, ↓o_extract, ↓o_convInt, ↓cd_true, ↓cd_false, ↓gate_tt, ↓gate_ff, ↓gate_tf, ↓gate_ft, ↓gate_undef, ↓o_bind, ↓stay_v, ↓pop_cons, ↓fin_nil, Option.isNone_none, Option.isNone_some, Bool.not_true, Bool.not_false, Nat.zero_add, decide_true, decide_false, if_true, if_false, Bool.false_eq_true, ↓reduceIte]
    exact hkj _ _ ⟨rfl, h⟩
  clear h
  rintro σ w ⟨rfl, h⟩
  rw [pop_cons, fin_nil]
  refine jn_cut (fun σ w => σ = [.int .u64 1152921504606846976] ∧ sat E w H) (fun kj hkj => ?_) ?_
  · rw [o_eqInt, decide_eq_false (by decide), cd_false, o_eqInt, decide_eq_true (by decide), cd_true]
    exact hkj _ _ ⟨rfl, h⟩
  clear h
  rintro σ w ⟨rfl, h⟩
  rw [pop_cons, fin_nil, o_convInt, show (IntKind.u64.wrap 64) = ((64 : Nat) : Int) by rw [IntKind.wrap_u64]; rfl, o_shl (by decide), show IntKind.u64.wrap (1 * 2 ^ 64) = 0 by rw [IntKind.wrap_u64]; rfl, o_sub, w9]
  refine conv_sb h fun b c sp fr w h hc => ?_
  have hL : ∀ c ∈ (48 :: ds), c ∈ hexSet := fun c hc => by
    rcases List.mem_cons.1 hc with rfl | hc
    · decide
    · exact hd c hc
  have hval : ∀ i, i ≤ 16 → hexVal ((48 :: ds).take i) < 1152921504606846976 := by
    intro i hi
    cases i with
    | zero => simp [hexVal]
    | succ i =>
      have e : hexVal ((48 :: ds).take (i + 1)) = hexVal (ds.take i) := by
        rw [List.take_succ_cons]
        unfold hexVal
        rw [List.foldl_cons, show (0 * 16 + hexv 48) = 0 from rfl]
      rw [e]
      have h1 := hexVal_lt (l := ds.take i) fun c hc => hd c (List.mem_of_mem_take hc)
      refine Nat.lt_of_lt_of_le h1 ?_
      have h2 : (ds.take i).length ≤ 15 := by rw [List.length_take]; omega
      calc 16 ^ (ds.take i).length ≤ 16 ^ 15 := Nat.pow_le_pow_right (by decide) h2
        _ = 1152921504606846976 := by decide
  have hlen : (48 :: ds).length ≤ 17 := by simp; omega
  have hfin : hexVal (48 :: ds) = hexVal ds := by
    unfold hexVal
    rw [List.foldl_cons, show (0 * 16 + hexv 48) = 0 from rfl]
  rw [o_len]
  generalize 48 :: ds = l at hL hval hlen hfin h hc
  refine lp_nat (fun r σ w => ∃ i : Nat, σ = [.bool false, .int .u64 (hexVal (l.take i) : Int), .int .i64 (i : Int)] ∧ r = l.length - i ∧ i ≤ l.length ∧ sat E w (pts b (.cells (l.map bv ++ sp).toArray 5 fr) * H)) l.length ⟨0, by simp [hexVal], by omega, by omega, h⟩ ?_
  clear h
  rintro r σ w again ⟨i, rfl, rfl, hi, h⟩ hag
  rw [pop_cons, pop_cons, pop_cons, fin_nil, o_lss]
  refine cd_dec (fun hlt => ?_) (fun hge => ?_)
  · have hi1 : i < l.length := by omega
    have hx : l[i]? = some l[i] := List.getElem?_eq_getElem hi1
    have hm := hL _ (List.getElem_mem hi1)
    have htk : l.take (i + 1) = l.take i ++ [l[i]] := List.take_succ_eq_append_getElem hi1
    generalize l[i] = d at hx hm htk
    have hv := hval i (by omega)
    have hdv := hexv_lt hm
    have hnext : hexVal (l.take (i + 1)) = hexVal (l.take i) * 16 + hexv d := by rw [htk, hexVal_snoc]
    refine jn_cut (fun σ w => σ = [.bool false, .int .u64 (hexVal (l.take (i + 1)) : Int)] ∧ sat E w (pts b (.cells (l.map bv ++ sp).toArray 5 fr) * H)) (fun kj hkj => ?_) ?_
    · rw [o_index (by omega) (by omega)]
      refine ld_in (b := b) (v := bv d) h (by
        rw [Nat.zero_add, Int.toNat_natCast, List.getElem?_append_left (by simpa using hi1), List.getElem?_map, Nat.mul_one, hx]
        rfl) ?_
      have hdn := d.toNat_lt
      refine jn_cut (fun σ w => σ = [.bool false, .int .u8 (hexv d : Int)] ∧ sat E w (pts b (.cells (l.map bv ++ sp).toArray 5 fr) * H)) (fun kj2 hkj2 => ?_) ?_
      · rw [show bv d = .int .u8 (d.toNat : Int) from rfl, o_eqInt]
        have h95 : ¬ (d.toNat : Int) = 95 := by rcases hex_mem hm with h | h <;> omega
        simp only [decide_eq_false h95, ↓o_nil, ↓o_field, ↓o_add, ↓o_sub, ↓o_mul, ↓o_lss, ↓o_leq, ↓o_gtr, ↓o_geq, ↓o_not, ↓o_pick, ↓o_eqInt, ↓o_neInt, ↓o_eqBool, ↓o_neBool, ↓o_eqPtr, ↓o_nePtr, ↓o_eqPtr', ↓o_eqSl, ↓o_neSl, ↓o_eqStr, ↓o_neStr, ↓o_len, ↓o_lenS, ↓o_min, ↓o_max, ↓o_extract, ↓o_convInt, ↓cd_true, ↓cd_false, ↓gate_tt, ↓gate_ff, ↓gate_tf, ↓gate_ft, ↓gate_undef, ↓o_bind, ↓stay_v, ↓pop_cons, ↓fin_nil, Option.isNone_none, Option.isNone_some, Bool.not_true, Bool.not_false, Nat.zero_add, decide_true, decide_false, if_true, if_false, Bool.false_eq_true, ↓reduceIte]
        rcases hex_mem hm with hr | hr
        · simp only [decide_eq_true (show (48 : Int) ≤ (d.toNat : Int) by omega), decide_eq_true (show (d.toNat : Int) ≤ 57 by omega), ↓o_nil, ↓o_field, ↓o_add, ↓o_sub, ↓o_mul, ↓o_lss, ↓o_leq, ↓o_gtr, ↓o_geq, ↓o_not, ↓o_pick, ↓o_eqInt, ↓o_neInt, ↓o_eqBool, ↓o_neBool, ↓o_eqPtr, ↓o_nePtr, ↓o_eqPtr', ↓o_eqSl, ↓o_neSl, ↓o_eqStr, ↓o_neStr, ↓o_len, ↓o_lenS, ↓o_min, ↓o_max, ↓o_extract, ↓o_convInt, ↓cd_true, ↓cd_false, ↓gate_tt, ↓gate_ff, ↓gate_tf, ↓gate_ft, ↓gate_undef, ↓o_bind, ↓stay_v, ↓pop_cons, ↓fin_nil, Option.isNone_none, Option.isNone_some, Bool.not_true, Bool.not_false, Nat.zero_add, decide_true, decide_false, if_true, if_false, Bool.false_eq_true, ↓reduceIte]
          refine hkj2 _ _ ⟨?_, h⟩
          have e : hexv d = d.toNat - 48 := by unfold hexv; rw [if_pos hr.2]
          rw [e, IntKind.wrap_u8]
          congr 3
          omega
        · simp only [decide_eq_true (show (48 : Int) ≤ (d.toNat : Int) by omega), decide_eq_false (show ¬ (d.toNat : Int) ≤ 57 by omega), ↓o_nil, ↓o_field, ↓o_add, ↓o_sub, ↓o_mul, ↓o_lss, ↓o_leq, ↓o_gtr, ↓o_geq, ↓o_not, ↓o_pick, ↓o_eqInt, ↓o_neInt, ↓o_eqBool, ↓o_neBool, ↓o_eqPtr, ↓o_nePtr, ↓o_eqPtr', ↓o_eqSl, ↓o_neSl, ↓o_eqStr, ↓o_neStr, ↓o_len, ↓o_lenS, ↓o_min, ↓o_max, ↓o_extract, ↓o_convInt, ↓cd_true, ↓cd_false, ↓gate_tt, ↓gate_ff, ↓gate_tf, ↓gate_ft, ↓gate_undef, ↓o_bind, ↓stay_v, ↓pop_cons, ↓fin_nil, Option.isNone_none, Option.isNone_some, Bool.not_true, Bool.not_false, Nat.zero_add, decide_true, decide_false, if_true, if_false, Bool.false_eq_true, ↓reduceIte]
          rw [show Value.int .u8 (d.toNat : Int) = bv d from rfl]
          refine lower_spec ?_
          rw [or32c hr, show bv d = .int .u8 (d.toNat : Int) from rfl]
          simp only [decide_eq_true (show (97 : Int) ≤ (d.toNat : Int) by omega), ↓o_nil, ↓o_field, ↓o_add, ↓o_sub, ↓o_mul, ↓o_lss, ↓o_leq, ↓o_gtr, ↓o_geq, ↓o_not, ↓o_pick, ↓o_eqInt, ↓o_neInt, ↓o_eqBool, ↓o_neBool, ↓o_eqPtr, ↓o_nePtr, ↓o_eqPtr', ↓o_eqSl, ↓o_neSl, ↓o_eqStr, ↓o_neStr, ↓o_len, ↓o_lenS, ↓o_min, ↓o_max, ↓o_extract, ↓o_convInt, ↓cd_true, ↓cd_false, ↓gate_tt, ↓gate_ff, ↓gate_tf, ↓gate_ft, ↓gate_undef, ↓o_bind, ↓stay_v, ↓pop_cons, ↓fin_nil, Option.isNone_none, Option.isNone_some, Bool.not_true, Bool.not_false, Nat.zero_add, decide_true, decide_false, if_true, if_false, Bool.false_eq_true, ↓reduceIte]
          rw [show Value.int .u8 (d.toNat : Int) = bv d from rfl]
          refine lower_spec ?_
          rw [or32c hr, show bv d = .int .u8 (d.toNat : Int) from rfl]
          simp only [decide_eq_true (show (d.toNat : Int) ≤ 122 by omega), ↓o_nil, ↓o_field, ↓o_add, ↓o_sub, ↓o_mul, ↓o_lss, ↓o_leq, ↓o_gtr, ↓o_geq, ↓o_not, ↓o_pick, ↓o_eqInt, ↓o_neInt, ↓o_eqBool, ↓o_neBool, ↓o_eqPtr, ↓o_nePtr, ↓o_eqPtr', ↓o_eqSl, ↓o_neSl, ↓o_eqStr, ↓o_neStr, ↓o_len, ↓o_lenS, ↓o_min, ↓o_max, ↓o_extract, ↓o_convInt, ↓cd_true, ↓cd_false, ↓gate_tt, ↓gate_ff, ↓gate_tf, ↓gate_ft, ↓gate_undef, ↓o_bind, ↓stay_v, ↓pop_cons, ↓fin_nil, Option.isNone_none, Option.isNone_some, Bool.not_true, Bool.not_false, Nat.zero_add, decide_true, decide_false, if_true, if_false, Bool.false_eq_true, ↓reduceIte]
          rw [show Value.int .u8 (d.toNat : Int) = bv d from rfl]
          refine lower_spec ?_
          rw [or32c hr, show bv d = .int .u8 (d.toNat : Int) from rfl]
          try simp only [↓o_nil, ↓o_field, ↓o_add, ↓o_sub, ↓o_mul, ↓o_lss, ↓o_leq, ↓o_gtr, ↓o_geq, ↓o_not, ↓o_pick, ↓o_eqInt, ↓o_neInt, ↓o_eqBool, ↓o_neBool, ↓o_eqPtr, ↓o_nePtr, ↓o_eqPtr', ↓o_eqSl, ↓o_neSl, ↓o_eqStr, ↓o_neStr, ↓o_len, ↓o_lenS, ↓o_min, ↓o_max, ↓o_extract, ↓o_convInt, ↓cd_true, ↓cd_false, ↓gate_tt, ↓gate_ff, ↓gate_tf, ↓gate_ft, ↓gate_undef, ↓o_bind, ↓stay_v, ↓pop_cons, ↓fin_nil, Option.isNone_none, Option.isNone_some, Bool.not_true, Bool.not_false, Nat.zero_add, decide_true, decide_false, if_true, if_false, Bool.false_eq_true, ↓reduceIte]
          refine hkj2 _ _ ⟨?_, h⟩
          have e : hexv d = d.toNat - 87 := by unfold hexv; rw [if_neg (by omega)]
          rw [e, IntKind.wrap_u8, IntKind.wrap_u8]
          congr 3
          omega
      · clear h
        rintro σ w ⟨rfl, h⟩
        rw [pop_cons, pop_cons, fin_nil, o_convInt, show IntKind.u8.wrap 16 = 16 by rw [IntKind.wrap_u8]; rfl, o_geq, decide_eq_false (by omega), cd_false, o_geq, decide_eq_false (by omega), cd_false, o_convInt, show IntKind.u64.wrap 16 = 16 by rw [IntKind.wrap_u64]; rfl, o_mul,
          show IntKind.u64.wrap ((hexVal (l.take i) : Int) * 16) = ((hexVal (l.take i) * 16 : Nat) : Int) by rw [IntKind.wrap_u64]; omega, o_convInt, show IntKind.u64.wrap (hexv d : Int) = (hexv d : Int) by rw [IntKind.wrap_u64]; omega, o_add,
          show IntKind.u64.wrap (((hexVal (l.take i) * 16 : Nat) : Int) + (hexv d : Int)) = ((hexVal (l.take (i + 1)) : Nat) : Int) by rw [IntKind.wrap_u64, hnext]; omega, o_lss, decide_eq_false (by omega)]
        simp only [decide_eq_false (show ¬ (18446744073709551615 : Int) < (hexVal (l.take (i + 1)) : Int) by omega), ↓o_nil, ↓o_field, ↓o_add, ↓o_sub, ↓o_mul, ↓o_lss, ↓o_leq, ↓o_gtr, ↓o_geq, ↓o_not, ↓o_pick, ↓o_eqInt, ↓o_neInt, ↓o_eqBool, ↓o_neBool, ↓o_eqPtr, ↓o_nePtr, ↓o_eqPtr', ↓o_eqSl, ↓o_neSl, ↓o_eqStr, ↓o_neStr, ↓o_len, ↓o_lenS, ↓o_min, ↓o_max, ↓o_extract, ↓o_convInt, ↓cd_true, ↓cd_false, ↓gate_tt, ↓gate_ff, ↓gate_tf, ↓gate_ft, ↓gate_undef, ↓o_bind, ↓stay_v, ↓pop_cons, ↓fin_nil, Option.isNone_none, Option.isNone_some, Bool.not_true, Bool.not_false, Nat.zero_add, decide_true, decide_false, if_true, if_false, Bool.false_eq_true, ↓reduceIte]
        exact hkj _ _ ⟨rfl, h⟩
    · clear h
      rintro σ w ⟨rfl, h⟩
      rw [pop_cons, pop_cons, fin_nil, o_add, i64_of (by omega) (by omega)]
      exact hag (l.length - (i + 1)) _ _ (by omega) ⟨i + 1, rfl, rfl, by omega, h⟩
  · have hi2 : i = l.length := by omega
    subst hi2
    rw [List.take_length, hfin]
    simp only [↓o_nil, ↓o_field, ↓o_add, ↓o_sub, ↓o_mul, ↓o_lss, ↓o_leq, ↓o_gtr, ↓o_geq, ↓o_not, ↓o_pick, ↓o_eqInt, ↓o_neInt, ↓o_eqBool, ↓o_neBool, ↓o_eqPtr, ↓o_nePtr, ↓o_eqPtr', ↓o_eqSl, ↓o_neSl, ↓o_eqStr, ↓o_neStr, ↓o_len, ↓o_lenS, ↓o_min, ↓o_max, ↓o_extract, ↓o_convInt, ↓cd_true, ↓cd_false, ↓gate_tt, ↓gate_ff, ↓gate_tf, ↓gate_ft, ↓gate_undef, ↓o_bind, ↓stay_v, ↓pop_cons, ↓fin_nil, Option.isNone_none, Option.isNone_some, Bool.not_true, Bool.not_false, Nat.zero_add, decide_true, decide_false, if_true, if_false, Bool.false_eq_true, ↓reduceIte]
    exact k w h.drop
theorem neNil {n : Nat} {K : Value → World → Prop} (k : K (.bool false) w) : pvv prog (oEq .neq 98 (.tmp n) (.const .nilIface) .nilIface .nilIface) w K := by
  refine pvv_of (v := .bool false) (fun w => ?_) k
  kernel_rfl
def toNum (l : List UInt8) : Int × Int :=
  if l = [] ∨ ((l.getD 0 0).toNat : Int) ≠ 97 + l.length - 1 ∨ 17 < l.length then (0, 3)
  else if [48] <+: l.drop 1 ∨ ¬ ∀ c ∈ l.drop 1, c ∈ hexSet then (0, 3)
  else if 4611686018427387904 < hexVal (l.drop 1) then (0, 2) else ((hexVal (l.drop 1) : Int), 0)
theorem ToNumber_spec (h : sat E w H) {l : List UInt8} (hl : l.length ≤ 140737488351232) (k : ∀ w', sat E w' H → K (.tuple #[.int .i64 (toNum l).1, .int .i64 (toNum l).2]) w') : Calls prog 53 #[tv l] w (Ret K) := by
  have e0 : (.string ⟨#[]⟩ : Value) = tv [] := rfl
  have e48 : (.string ⟨#[48]⟩ : Value) = tv [48] := rfl
  have eh : (.string ⟨#[48, 49, 50, 51, 52, 53, 54, 55, 56, 57, 97, 98, 99, 100, 101, 102]⟩ : Value) = tv hexSet := rfl
  refine c53 ?_
  unfold B53
  rw [e0, e48, eh, o_eqT]
  have bad : (l = [] ∨ ((l.getD 0 0).toNat : Int) ≠ 97 + l.length - 1 ∨ 17 < l.length) → ∀ w, sat E w H → K (.tuple #[.int .i64 0, .int .i64 3]) w := fun hb w h => by
    have := k w h
    unfold toNum at this
    rw [if_pos hb] at this
    exact this
  by_cases h0 : l = []
  · simp only [decide_eq_true h0, ↓o_nil, ↓o_field, ↓o_add, ↓o_sub, ↓o_mul, ↓o_lss, ↓o_leq, ↓o_gtr, ↓o_geq, ↓o_not, ↓o_pick, ↓o_eqInt, ↓o_neInt, ↓o_eqBool, ↓o_neBool, ↓o_eqPtr, ↓o_nePtr, ↓o_eqPtr', ↓o_eqSl, ↓o_neSl, ↓o_eqStr, ↓o_neStr, ↓o_len, ↓o_lenS, ↓o_min, ↓o_max, ↓o_extract, ↓o_convInt, ↓cd_true, ↓cd_false, ↓gate_tt, ↓gate_ff, ↓gate_tf, ↓gate_ft, ↓gate_undef, ↓o_bind, ↓stay_v, ↓pop_cons, ↓fin_nil, Option.isNone_none, Option.isNone_some, Bool.not_true, Bool.not_false, Nat.zero_add, decide_true, decide_false, if_true, if_false, Bool.false_eq_true, ↓reduceIte]
    exact bad (.inl h0) w h
  have hpos : 0 < l.length := List.length_pos_iff.2 h0
  simp only [decide_eq_false h0, ↓o_nil, ↓o_field, ↓o_add, ↓o_sub, ↓o_mul, ↓o_lss, ↓o_leq, ↓o_gtr, ↓o_geq, ↓o_not, ↓o_pick, ↓o_eqInt, ↓o_neInt, ↓o_eqBool, ↓o_neBool, ↓o_eqPtr, ↓o_nePtr, ↓o_eqPtr', ↓o_eqSl, ↓o_neSl, ↓o_eqStr, ↓o_neStr, ↓o_len, ↓o_lenS, ↓o_min, ↓o_max, ↓o_extract, ↓o_convInt, ↓cd_true, ↓cd_false, ↓gate_tt, ↓gate_ff, ↓gate_tf, ↓gate_ft, ↓gate_undef, ↓o_bind, ↓stay_v, ↓pop_cons, ↓fin_nil, Option.isNone_none, Option.isNone_some, Bool.not_true, Bool.not_false, Nat.zero_add, decide_true, decide_false, if_true, if_false, Bool.false_eq_true, ↓reduceIte]
  rw [o_indexT (x := 0) (by decide) (by simpa using hpos), show (0 : Int).toNat = 0 from rfl]
  rw [show bv (l.getD 0 0) = .int .u8 ((l.getD 0 0).toNat : Int) from rfl]
  have hb0 := (l.getD 0 0).toNat_lt
  simp only [↓o_lenT, ↓o_nil, ↓o_field, ↓o_add, ↓o_sub, ↓o_mul, ↓o_lss, ↓o_leq, ↓o_gtr, ↓o_geq, ↓o_not, ↓o_pick, ↓o_eqInt, ↓o_neInt, ↓o_eqBool, ↓o_neBool, ↓o_eqPtr, ↓o_nePtr, ↓o_eqPtr', ↓o_eqSl, ↓o_neSl, ↓o_eqStr, ↓o_neStr, ↓o_len, ↓o_lenS, ↓o_min, ↓o_max, ↓o_extract, ↓o_convInt, ↓cd_true, ↓cd_false, ↓gate_tt, ↓gate_ff, ↓gate_tf, ↓gate_ft, ↓gate_undef, ↓o_bind, ↓stay_v, ↓pop_cons, ↓fin_nil, Option.isNone_none, Option.isNone_some, Bool.not_true, Bool.not_false, Nat.zero_add, decide_true, decide_false, if_true, if_false, Bool.false_eq_true, ↓reduceIte]
  rw [i64_of (n := ((l.getD 0 0).toNat : Int)) (by omega) (by omega), i64_of (n := (97 : Int) + l.length) (by omega) (by omega), i64_of (by omega) (by omega)]
  by_cases h1 : ((l.getD 0 0).toNat : Int) = 97 + l.length - 1
  case neg =>
    simp only [decide_eq_false h1, ↓o_nil, ↓o_field, ↓o_add, ↓o_sub, ↓o_mul, ↓o_lss, ↓o_leq, ↓o_gtr, ↓o_geq, ↓o_not, ↓o_pick, ↓o_eqInt, ↓o_neInt, ↓o_eqBool, ↓o_neBool, ↓o_eqPtr, ↓o_nePtr, ↓o_eqPtr', ↓o_eqSl, ↓o_neSl, ↓o_eqStr, ↓o_neStr, ↓o_len, ↓o_lenS, ↓o_min, ↓o_max, ↓o_extract, ↓o_convInt, ↓cd_true, ↓cd_false, ↓gate_tt, ↓gate_ff, ↓gate_tf, ↓gate_ft, ↓gate_undef, ↓o_bind, ↓stay_v, ↓pop_cons, ↓fin_nil, Option.isNone_none, Option.isNone_some, Bool.not_true, Bool.not_false, Nat.zero_add, decide_true, decide_false, if_true, if_false, Bool.false_eq_true, ↓reduceIte]
    exact bad (.inr (.inl h1)) w h
  simp only [decide_eq_true h1, ↓o_lenT, ↓o_nil, ↓o_field, ↓o_add, ↓o_sub, ↓o_mul, ↓o_lss, ↓o_leq, ↓o_gtr, ↓o_geq, ↓o_not, ↓o_pick, ↓o_eqInt, ↓o_neInt, ↓o_eqBool, ↓o_neBool, ↓o_eqPtr, ↓o_nePtr, ↓o_eqPtr', ↓o_eqSl, ↓o_neSl, ↓o_eqStr, ↓o_neStr, ↓o_len, ↓o_lenS, ↓o_min, ↓o_max, ↓o_extract, ↓o_convInt, ↓cd_true, ↓cd_false, ↓gate_tt, ↓gate_ff, ↓gate_tf, ↓gate_ft, ↓gate_undef, ↓o_bind, ↓stay_v, ↓pop_cons, ↓fin_nil, Option.isNone_none, Option.isNone_some, Bool.not_true, Bool.not_false, Nat.zero_add, decide_true, decide_false, if_true, if_false, Bool.false_eq_true, ↓reduceIte]
  by_cases h2 : (17 : Int) < l.length
  · simp only [decide_eq_true h2, ↓o_nil, ↓o_field, ↓o_add, ↓o_sub, ↓o_mul, ↓o_lss, ↓o_leq, ↓o_gtr, ↓o_geq, ↓o_not, ↓o_pick, ↓o_eqInt, ↓o_neInt, ↓o_eqBool, ↓o_neBool, ↓o_eqPtr, ↓o_nePtr, ↓o_eqPtr', ↓o_eqSl, ↓o_neSl, ↓o_eqStr, ↓o_neStr, ↓o_len, ↓o_lenS, ↓o_min, ↓o_max, ↓o_extract, ↓o_convInt, ↓cd_true, ↓cd_false, ↓gate_tt, ↓gate_ff, ↓gate_tf, ↓gate_ft, ↓gate_undef, ↓o_bind, ↓stay_v, ↓pop_cons, ↓fin_nil, Option.isNone_none, Option.isNone_some, Bool.not_true, Bool.not_false, Nat.zero_add, decide_true, decide_false, if_true, if_false, Bool.false_eq_true, ↓reduceIte]
    exact bad (.inr (.inr (by omega))) w h
  simp only [decide_eq_false h2, ↓o_nil, ↓o_field, ↓o_add, ↓o_sub, ↓o_mul, ↓o_lss, ↓o_leq, ↓o_gtr, ↓o_geq, ↓o_not, ↓o_pick, ↓o_eqInt, ↓o_neInt, ↓o_eqBool, ↓o_neBool, ↓o_eqPtr, ↓o_nePtr, ↓o_eqPtr', ↓o_eqSl, ↓o_neSl, ↓o_eqStr, ↓o_neStr, ↓o_len, ↓o_lenS, ↓o_min, ↓o_max, ↓o_extract, ↓o_convInt, ↓cd_true, ↓cd_false, ↓gate_tt, ↓gate_ff, ↓gate_tf, ↓gate_ft, ↓gate_undef, ↓o_bind, ↓stay_v, ↓pop_cons, ↓fin_nil, Option.isNone_none, Option.isNone_some, Bool.not_true, Bool.not_false, Nat.zero_add, decide_true, decide_false, if_true, if_false, Bool.false_eq_true, ↓reduceIte]
  have hno : ¬ (l = [] ∨ ((l.getD 0 0).toNat : Int) ≠ 97 + l.length - 1 ∨ 17 < l.length) := by
    rintro (h | h | h)
    · exact h0 h
    · exact h h1
    · omega
  unfold toNum at k
  rw [if_neg hno] at k
  rw [o_sliceT_l (by omega) (by omega), show (1 : Int).toNat = 1 from rfl]
  generalize hds : l.drop 1 = ds at k
  have hdl : ds.length ≤ 16 := by rw [← hds, List.length_drop]; omega
  refine HasPrefix_spec ?_
  by_cases h3 : [48] <+: ds
  · simp only [decide_eq_true h3, ↓o_nil, ↓o_field, ↓o_add, ↓o_sub, ↓o_mul, ↓o_lss, ↓o_leq, ↓o_gtr, ↓o_geq, ↓o_not, ↓o_pick, ↓o_eqInt, ↓o_neInt, ↓o_eqBool, ↓o_neBool, ↓o_eqPtr, ↓o_nePtr, ↓o_eqPtr', ↓o_eqSl, ↓o_neSl, ↓o_eqStr, ↓o_neStr, ↓o_len, ↓o_lenS, ↓o_min, ↓o_max, ↓o_extract, ↓o_convInt, ↓cd_true, ↓cd_false, ↓gate_tt, ↓gate_ff, ↓gate_tf, ↓gate_ft, ↓gate_undef, ↓o_bind, ↓stay_v, ↓pop_cons, ↓fin_nil, Option.isNone_none, Option.isNone_some, Bool.not_true, Bool.not_false, Nat.zero_add, decide_true, decide_false, if_true, if_false, Bool.false_eq_true, ↓reduceIte]
    have := k w h
    rw [if_pos (.inl h3)] at this
    exact this
  simp only [decide_eq_false h3, ↓o_nil, ↓o_field, ↓o_add, ↓o_sub, ↓o_mul, ↓o_lss, ↓o_leq, ↓o_gtr, ↓o_geq, ↓o_not, ↓o_pick, ↓o_eqInt, ↓o_neInt, ↓o_eqBool, ↓o_neBool, ↓o_eqPtr, ↓o_nePtr, ↓o_eqPtr', ↓o_eqSl, ↓o_neSl, ↓o_eqStr, ↓o_neStr, ↓o_len, ↓o_lenS, ↓o_min, ↓o_max, ↓o_extract, ↓o_convInt, ↓cd_true, ↓cd_false, ↓gate_tt, ↓gate_ff, ↓gate_tf, ↓gate_ft, ↓gate_undef, ↓o_bind, ↓stay_v, ↓pop_cons, ↓fin_nil, Option.isNone_none, Option.isNone_some, Bool.not_true, Bool.not_false, Nat.zero_add, decide_true, decide_false, if_true, if_false, Bool.false_eq_true, ↓reduceIte]
  refine Trim_spec ds (by decide) (by decide) (by decide) (by omega) h fun w h => ?_
  rw [o_neT]
  by_cases h4 : ∀ c ∈ ds, c ∈ hexSet
  case neg =>
    have e : decide (trimL hexSet (trimR hexSet ds) = []) = false := decide_eq_false fun e => h4 (trim_all.1 e)
    simp only [e, ↓o_nil, ↓o_field, ↓o_add, ↓o_sub, ↓o_mul, ↓o_lss, ↓o_leq, ↓o_gtr, ↓o_geq, ↓o_not, ↓o_pick, ↓o_eqInt, ↓o_neInt, ↓o_eqBool, ↓o_neBool, ↓o_eqPtr, ↓o_nePtr, ↓o_eqPtr', ↓o_eqSl, ↓o_neSl, ↓o_eqStr, ↓o_neStr, ↓o_len, ↓o_lenS, ↓o_min, ↓o_max, ↓o_extract, ↓o_convInt, ↓cd_true, ↓cd_false, ↓gate_tt, ↓gate_ff, ↓gate_tf, ↓gate_ft, ↓gate_undef, ↓o_bind, ↓stay_v, ↓pop_cons, ↓fin_nil, Option.isNone_none, Option.isNone_some, Bool.not_true, Bool.not_false, Nat.zero_add, decide_true, decide_false, if_true, if_false, Bool.false_eq_true, ↓reduceIte]
    have := k w h
    rw [if_pos (.inr h4)] at this
    exact this
  rw [decide_eq_true (trim_all.2 h4)]
  simp only [↓o_nil, ↓o_field, ↓o_add, ↓o_sub, ↓o_mul, ↓o_lss, ↓o_leq, ↓o_gtr, ↓o_geq, ↓o_not, ↓o_pick, ↓o_eqInt, ↓o_neInt, ↓o_eqBool, ↓o_neBool, ↓o_eqPtr, ↓o_nePtr, ↓o_eqPtr', ↓o_eqSl, ↓o_neSl, ↓o_eqStr, ↓o_neStr, ↓o_len, ↓o_lenS, ↓o_min, ↓o_max, ↓o_extract, ↓o_convInt, ↓cd_true, ↓cd_false, ↓gate_tt, ↓gate_ff, ↓gate_tf, ↓gate_ft, ↓gate_undef, ↓o_bind, ↓stay_v, ↓pop_cons, ↓fin_nil, Option.isNone_none, Option.isNone_some, Bool.not_true, Bool.not_false, Nat.zero_add, decide_true, decide_false, if_true, if_false, Bool.false_eq_true, ↓reduceIte]
  have hn : ¬ ([48] <+: ds ∨ ¬ ∀ c ∈ ds, c ∈ hexSet) := by
    rintro (h | h)
    · exact h3 h
    · exact h h4
  rw [if_neg hn] at k
  rw [o_catT (by simp; omega)]
  refine c64 ?_
  unfold B64
  rw [show [48] ++ ds = 48 :: ds from rfl]
  refine Parse_spec h4 hdl h fun w h => ?_
  rw [o_extract, o_extract]
  refine neNil ?_
  rw [cd_false]
  simp only [↓o_nil, ↓o_field, ↓o_add, ↓o_sub, ↓o_mul, ↓o_lss, ↓o_leq, ↓o_gtr, ↓o_geq, ↓o_not, ↓o_pick, ↓o_eqInt, ↓o_neInt, ↓o_eqBool, ↓o_neBool, ↓o_eqPtr, ↓o_nePtr, ↓o_eqPtr', ↓o_eqSl, ↓o_neSl, ↓o_eqStr, ↓o_neStr, ↓o_len, ↓o_lenS, ↓o_min, ↓o_max, ↓o_extract, ↓o_convInt, ↓cd_true, ↓cd_false, ↓gate_tt, ↓gate_ff, ↓gate_tf, ↓gate_ft, ↓gate_undef, ↓o_bind, ↓stay_v, ↓pop_cons, ↓fin_nil, Option.isNone_none, Option.isNone_some, Bool.not_true, Bool.not_false, Nat.zero_add, decide_true, decide_false, if_true, if_false, Bool.false_eq_true, ↓reduceIte]
  refine neNil ?_
  have hv := hexVal_lt h4
  have hv2 : hexVal ds < 18446744073709551616 := Nat.lt_of_lt_of_le hv (by
    calc 16 ^ ds.length ≤ 16 ^ 16 := Nat.pow_le_pow_right (by decide) hdl
      _ = 18446744073709551616 := by decide)
  by_cases h5 : 4611686018427387904 < hexVal ds
  · simp only [decide_eq_true (show (4611686018427387904 : Int) < (hexVal ds : Int) by omega), ↓o_nil, ↓o_field, ↓o_add, ↓o_sub, ↓o_mul, ↓o_lss, ↓o_leq, ↓o_gtr, ↓o_geq, ↓o_not, ↓o_pick, ↓o_eqInt, ↓o_neInt, ↓o_eqBool, ↓o_neBool, ↓o_eqPtr, ↓o_nePtr, ↓o_eqPtr', ↓o_eqSl, ↓o_neSl, ↓o_eqStr, ↓o_neStr, ↓o_len, ↓o_lenS, ↓o_min, ↓o_max, ↓o_extract, ↓o_convInt, ↓cd_true, ↓cd_false, ↓gate_tt, ↓gate_ff, ↓gate_tf, ↓gate_ft, ↓gate_undef, ↓o_bind, ↓stay_v, ↓pop_cons, ↓fin_nil, Option.isNone_none, Option.isNone_some, Bool.not_true, Bool.not_false, Nat.zero_add, decide_true, decide_false, if_true, if_false, Bool.false_eq_true, ↓reduceIte]
    have := k w h
    rw [if_pos h5] at this
    exact this
  · simp only [decide_eq_false (show ¬ (4611686018427387904 : Int) < (hexVal ds : Int) by omega), ↓o_nil, ↓o_field, ↓o_add, ↓o_sub, ↓o_mul, ↓o_lss, ↓o_leq, ↓o_gtr, ↓o_geq, ↓o_not, ↓o_pick, ↓o_eqInt, ↓o_neInt, ↓o_eqBool, ↓o_neBool, ↓o_eqPtr, ↓o_nePtr, ↓o_eqPtr', ↓o_eqSl, ↓o_neSl, ↓o_eqStr, ↓o_neStr, ↓o_len, ↓o_lenS, ↓o_min, ↓o_max, ↓o_extract, ↓o_convInt, ↓cd_true, ↓cd_false, ↓gate_tt, ↓gate_ff, ↓gate_tf, ↓gate_ft, ↓gate_undef, ↓o_bind, ↓stay_v, ↓pop_cons, ↓fin_nil, Option.isNone_none, Option.isNone_some, Bool.not_true, Bool.not_false, Nat.zero_add, decide_true, decide_false, if_true, if_false, Bool.false_eq_true, ↓reduceIte]
    have := k w h
    rw [if_neg h5] at this
    try rw [i64_of (by omega) (by omega)]
    exact this
end Go.Proofs.YtjeiojibnmfibaaDoor

/-
  Copies and comparisons.
-/
set_option linter.all false
set_option maxRecDepth 10000
namespace Go.Proofs.YtjeiojibnmfibaaDoor
open Go Hold
variable {E : World0} {w : World} {H R : HP} {K : Value → World → Prop}

theorem Clone_spec (h : sat E w H) {v : Value} {l : List UInt8} (hr : Rds H v l.length (l.map bv)) (hl : l.length ≤ 140737488355328)
    (k : ∀ v' w', sat E w' (osl 5 1 v' l.length (l.map bv) * H) → K v' w') : Calls prog 69 #[v] w (Ret K) := by
  obtain ⟨a, c, rfl, hc, hr, ha⟩ := hr.shape h
  refine c69 ?_
  unfold B69
  simp only [↓o_nil, ↓o_field, ↓o_add, ↓o_sub, ↓o_mul, ↓o_lss, ↓o_leq, ↓o_gtr, ↓o_geq, ↓o_not, ↓o_pick, ↓o_eqInt, ↓o_neInt, ↓o_eqBool, ↓o_neBool, ↓o_eqPtr, ↓o_nePtr, ↓o_eqPtr', ↓o_eqSl, ↓o_neSl, ↓o_eqStr, ↓o_neStr, ↓o_len, ↓o_lenS, ↓o_min, ↓o_max, ↓o_extract, ↓o_convInt, ↓cd_true, ↓cd_false, ↓gate_tt, ↓gate_ff, ↓gate_tf, ↓gate_ft, ↓gate_undef, ↓o_bind, ↓stay_v, ↓pop_cons, ↓fin_nil, Option.isNone_none, Option.isNone_some, Bool.not_true, Bool.not_false, Nat.zero_add, decide_true, decide_false, if_true, if_false, Bool.false_eq_true, ↓reduceIte]
  cases a with
  | none =>
    have hn : l = [] := by simpa using ha rfl
    subst hn
    simp only [↓o_nil, ↓o_field, ↓o_add, ↓o_sub, ↓o_mul, ↓o_lss, ↓o_leq, ↓o_gtr, ↓o_geq, ↓o_not, ↓o_pick, ↓o_eqInt, ↓o_neInt, ↓o_eqBool, ↓o_neBool, ↓o_eqPtr, ↓o_nePtr, ↓o_eqPtr', ↓o_eqSl, ↓o_neSl, ↓o_eqStr, ↓o_neStr, ↓o_len, ↓o_lenS, ↓o_min, ↓o_max, ↓o_extract, ↓o_convInt, ↓cd_true, ↓cd_false, ↓gate_tt, ↓gate_ff, ↓gate_tf, ↓gate_ft, ↓gate_undef, ↓o_bind, ↓stay_v, ↓pop_cons, ↓fin_nil, Option.isNone_none, Option.isNone_some, Bool.not_true, Bool.not_false, Nat.zero_add, decide_true, decide_false, if_true, if_false, Bool.false_eq_true, ↓reduceIte]
    exact k _ _ (osl_nil h 5 1)
  | some a =>
    simp only [↓o_nil, ↓o_field, ↓o_add, ↓o_sub, ↓o_mul, ↓o_lss, ↓o_leq, ↓o_gtr, ↓o_geq, ↓o_not, ↓o_pick, ↓o_eqInt, ↓o_neInt, ↓o_eqBool, ↓o_neBool, ↓o_eqPtr, ↓o_nePtr, ↓o_eqPtr', ↓o_eqSl, ↓o_neSl, ↓o_eqStr, ↓o_neStr, ↓o_len, ↓o_lenS, ↓o_min, ↓o_max, ↓o_extract, ↓o_convInt, ↓cd_true, ↓cd_false, ↓gate_tt, ↓gate_ff, ↓gate_tf, ↓gate_ft, ↓gate_undef, ↓o_bind, ↓stay_v, ↓pop_cons, ↓fin_nil, Option.isNone_none, Option.isNone_some, Bool.not_true, Bool.not_false, Nat.zero_add, decide_true, decide_false, if_true, if_false, Bool.false_eq_true, ↓reduceIte]
    refine buildSlice_sl h (e := 5) (cs := #[]) (fun w => by kernel_rfl) ?_
    intro b w1 h1
    refine append_sl (osl_of (n := 0) (sz := 1) h1 rfl (by omega)) (l.map bv) (by simp) (hr.win h1.drop) (bv_one l) (by omega) (by omega) ?_
    intro v' w2 h2
    exact k _ _ (by simpa using h2)

end Go.Proofs.YtjeiojibnmfibaaDoor

/-
  Bits turned.
-/
set_option linter.all false
set_option maxRecDepth 10000
namespace Go.Proofs.YtjeiojibnmfibaaDoor
open Go Hold
variable {E : World0} {w : World} {H R : HP} {K : Value → World → Prop}
/-- Bits turned right. -/
def rotr (x : UInt32) (n : Nat) : UInt32 := (x <<< UInt32.ofNat (32 - n)) ||| (x >>> UInt32.ofNat n)
theorem Rot_spec (x : UInt32) {n : Nat} (h1 : 1 ≤ n) (h2 : n ≤ 31) (k : K (wv (rotr x n)) w) : Calls prog 83 #[wv x, .int .i64 (-(n : Int))] w (Ret K) := by
  refine c83 ?_
  unfold B83
  have e1 : IntKind.u64.wrap (-(n : Int)) = ((18446744073709551616 - n : Nat) : Int) := by rw [IntKind.wrap_u64]; omega
  simp only [↓o_nil, ↓o_field, ↓o_add, ↓o_sub, ↓o_mul, ↓o_lss, ↓o_leq, ↓o_gtr, ↓o_geq, ↓o_not, ↓o_pick, ↓o_eqInt, ↓o_neInt, ↓o_eqBool, ↓o_neBool, ↓o_eqPtr, ↓o_nePtr, ↓o_eqPtr', ↓o_eqSl, ↓o_neSl, ↓o_eqStr, ↓o_neStr, ↓o_len, ↓o_lenS, ↓o_min, ↓o_max, ↓o_extract, ↓o_convInt, ↓cd_true, ↓cd_false, ↓gate_tt, ↓gate_ff, ↓gate_tf, ↓gate_ft, ↓gate_undef, ↓o_bind, ↓stay_v, ↓pop_cons, ↓fin_nil, Option.isNone_none, Option.isNone_some, Bool.not_true, Bool.not_false, Nat.zero_add, decide_true, decide_false, if_true, if_false, Bool.false_eq_true, ↓reduceIte, e1]
  refine pvv_of (v := .int .u64 ((32 - n : Nat) : Int)) (fun _ => ?_) ?_
  · have key : ∀ n : Fin 32, 1 ≤ n.val → IntKind.u64.wrap (((BitVec.ofInt 64 ((18446744073709551616 - n.val : Nat) : Int)) &&& (BitVec.ofInt 64 31)).toNat : Int) = ((32 - n.val : Nat) : Int) := by decide +kernel
    have := key ⟨n, by omega⟩ h1
    simp only [binOp, Op.intBits, IntKind.bits]
    simp
    exact this
  rw [o_shlW (by omega)]
  have e2 : IntKind.u64.wrap (32 - ((32 - n : Nat) : Int)) = (n : Int) := by rw [IntKind.wrap_u64]; omega
  simp only [↓o_nil, ↓o_field, ↓o_add, ↓o_sub, ↓o_mul, ↓o_lss, ↓o_leq, ↓o_gtr, ↓o_geq, ↓o_not, ↓o_pick, ↓o_eqInt, ↓o_neInt, ↓o_eqBool, ↓o_neBool, ↓o_eqPtr, ↓o_nePtr, ↓o_eqPtr', ↓o_eqSl, ↓o_neSl, ↓o_eqStr, ↓o_neStr, ↓o_len, ↓o_lenS, ↓o_min, ↓o_max, ↓o_extract, ↓o_convInt, ↓cd_true, ↓cd_false, ↓gate_tt, ↓gate_ff, ↓gate_tf, ↓gate_ft, ↓gate_undef, ↓o_bind, ↓stay_v, ↓pop_cons, ↓fin_nil, Option.isNone_none, Option.isNone_some, Bool.not_true, Bool.not_false, Nat.zero_add, decide_true, decide_false, if_true, if_false, Bool.false_eq_true, ↓reduceIte, e2]
  rw [o_shrW (by omega), o_orW]
  exact k
end Go.Proofs.YtjeiojibnmfibaaDoor

/-
  SHA-256, as the code reckons it.
-/
set_option linter.all false
set_option maxRecDepth 10000
namespace Go.Proofs.YtjeiojibnmfibaaDoor
open Go Hold
def word (b : List UInt8) (i : Nat) : UInt32 :=
  (((b.getD (4 * i) 0).toUInt32 <<< UInt32.ofNat 24 ||| (b.getD (4 * i + 1) 0).toUInt32 <<< UInt32.ofNat 16) ||| (b.getD (4 * i + 2) 0).toUInt32 <<< UInt32.ofNat 8) ||| (b.getD (4 * i + 3) 0).toUInt32
def wNext (w : List UInt32) (i : Nat) : UInt32 :=
  w.getD (i - 16) 0 + ((rotr (w.getD (i - 15) 0) 7 ^^^ rotr (w.getD (i - 15) 0) 18) ^^^ w.getD (i - 15) 0 >>> UInt32.ofNat 3) + w.getD (i - 7) 0 + ((rotr (w.getD (i - 2) 0) 17 ^^^ rotr (w.getD (i - 2) 0) 19) ^^^ w.getD (i - 2) 0 >>> UInt32.ofNat 10)
def sched (b : List UInt8) : Nat → List UInt32
  | 0 => []
  | i + 1 => sched b i ++ [if i < 16 then word b i else wNext (sched b i) i]
theorem sched_length (b : List UInt8) : ∀ n, (sched b n).length = n
  | 0 => rfl
  | n + 1 => by simp [sched, sched_length b n]
structure St where
  (a b c d e f g h : UInt32)
def St.list (v : St) : List UInt32 := [v.a, v.b, v.c, v.d, v.e, v.f, v.g, v.h]
def big1 (e : UInt32) : UInt32 := (rotr e 6 ^^^ rotr e 11) ^^^ rotr e 25
def big0 (a : UInt32) : UInt32 := (rotr a 2 ^^^ rotr a 13) ^^^ rotr a 22
def tOf (k w : UInt32) (v : St) : UInt32 := v.h + big1 v.e + (v.g ^^^ (v.e &&& (v.f ^^^ v.g))) + k + w
def uOf (v : St) : UInt32 := big0 v.a + ((v.a &&& v.b) ||| (v.c &&& (v.a ||| v.b)))
def round (k w : UInt32) (v : St) : St := ⟨tOf k w v + uOf v, v.a, v.b, v.c, v.d + tOf k w v, v.e, v.f, v.g⟩
def rounds (ks ws : List UInt32) (v : St) : Nat → St
  | 0 => v
  | n + 1 => round (ks.getD n 0) (ws.getD n 0) (rounds ks ws v n)
def St.add (x y : St) : St := ⟨x.a + y.a, x.b + y.b, x.c + y.c, x.d + y.d, x.e + y.e, x.f + y.f, x.g + y.g, x.h + y.h⟩
def mix (ks : List UInt32) (st : St) (b : List UInt8) : St := st.add (rounds ks (sched b 64) st 64)
end Go.Proofs.YtjeiojibnmfibaaDoor

/-
  mix: a block of 64 bytes, mixed into a hash.
-/
set_option linter.all false
set_option maxRecDepth 10000
namespace Go.Proofs.YtjeiojibnmfibaaDoor
open Go Hold
variable {E : World0} {w : World} {H R : HP} {K : Value → World → Prop}
/-- The words of the block, the first sixteen. -/
theorem mix_early (h : sat E w H) {i : Nat} (hi : i < 64) (h16 : (i : Int) < 16) {b3 o bb c : Nat} {e : TypeId} {us : List UInt32} (hus : us.length = i) {b : List UInt8} (hb : Rds H (.slice (some ⟨bb, o, none⟩) b.length c) b.length (b.map bv)) (hbl : 64 ≤ b.length)
    [Own H b3 (.cells (us.map wv ++ List.replicate (64 - i) (wv 0)).toArray e (0, 0)) R] {k : List Value → World → Prop}
    (hk : ∀ w, sat E w (pts b3 (.cells ((us ++ [word b i]).map wv ++ List.replicate (64 - (i + 1)) (wv 0)).toArray e (0, 0)) * R) → k [] w) :
        dr w fun w =>
        pvv prog (binOp .mul 3 (.int .i64 4) (.int .i64 i)) w fun t_9 w =>
        pvv prog (Instr.indexAt 72 (.slice (some ⟨bb, o, none⟩) b.length c) t_9) w fun t_10 w =>
        pvv prog (binOp .mul 3 (.int .i64 4) (.int .i64 i)) w fun t_11 w =>
        pvv prog (binOp .add 3 t_11 (.int .i64 1)) w fun t_12 w =>
        pvv prog (Instr.indexAt 72 (.slice (some ⟨bb, o, none⟩) b.length c) t_12) w fun t_13 w =>
        pvv prog (binOp .mul 3 (.int .i64 4) (.int .i64 i)) w fun t_14 w =>
        pvv prog (binOp .add 3 t_14 (.int .i64 2)) w fun t_15 w =>
        pvv prog (Instr.indexAt 72 (.slice (some ⟨bb, o, none⟩) b.length c) t_15) w fun t_16 w =>
        pvv prog (binOp .mul 3 (.int .i64 4) (.int .i64 i)) w fun t_17 w =>
        pvv prog (binOp .add 3 t_17 (.int .i64 3)) w fun t_18 w =>
        pvv prog (Instr.indexAt 72 (.slice (some ⟨bb, o, none⟩) b.length c) t_18) w fun t_19 w =>
        bindS (vN (Instr.loadAt 5 t_10)) fun m_21 => ldv prog (Instr.loadAt 5 t_10) w fun t_20 w =>
        pvv prog (convert 5 101 t_20) w fun t_22 w =>
        pvv prog (binOp .shl 101 t_22 (.int .u64 24)) w fun t_23 w =>
        bindS (vN (Instr.loadAt 5 t_13)) fun m_25 => ldv prog (Instr.loadAt 5 t_13) w fun t_24 w =>
        pvv prog (convert 5 101 t_24) w fun t_26 w =>
        pvv prog (binOp .shl 101 t_26 (.int .u64 16)) w fun t_27 w =>
        pvv prog (binOp .or 101 t_23 t_27) w fun t_28 w =>
        bindS (vN (Instr.loadAt 5 t_16)) fun m_30 => ldv prog (Instr.loadAt 5 t_16) w fun t_29 w =>
        pvv prog (convert 5 101 t_29) w fun t_31 w =>
        pvv prog (binOp .shl 101 t_31 (.int .u64 8)) w fun t_32 w =>
        pvv prog (binOp .or 101 t_28 t_32) w fun t_33 w =>
        bindS (vN (Instr.loadAt 5 t_19)) fun m_35 => ldv prog (Instr.loadAt 5 t_19) w fun t_34 w =>
        pvv prog (convert 5 101 t_34) w fun t_36 w =>
        pvv prog (binOp .or 101 t_33 t_36) w fun t_37 w =>
        pvv prog (Instr.indexAt 121 (.pointer (some ⟨b3, 0, none⟩)) (.int .i64 i)) w fun t_38 w =>
        efu prog (Instr.storeAt 101 t_38 t_37) w fun u_39 w =>
        k [] w := by
  have e0 : IntKind.i64.wrap (4 * (i : Int)) = ((4 * i : Nat) : Int) := by rw [i64_of (by omega) (by omega)]; omega
  have e1 : IntKind.i64.wrap (((4 * i : Nat) : Int) + 1) = ((4 * i + 1 : Nat) : Int) := by rw [i64_of (by omega) (by omega)]; omega
  have e2 : IntKind.i64.wrap (((4 * i : Nat) : Int) + 2) = ((4 * i + 2 : Nat) : Int) := by rw [i64_of (by omega) (by omega)]; omega
  have e3 : IntKind.i64.wrap (((4 * i : Nat) : Int) + 3) = ((4 * i + 3 : Nat) : Int) := by rw [i64_of (by omega) (by omega)]; omega
  refine dr_sl h fun w h _ => ?_
  have ix : ∀ {j : Nat}, j < b.length → ∀ {w : World} {K : Value → World → Prop}, pvv prog (Instr.indexAt 72 (.slice (some ⟨bb, o, none⟩) b.length c) (.int .i64 (j : Int))) w K = K (.pointer (some ⟨bb, o + j, none⟩)) w := fun {j} hj {w K} => by
    rw [o_index (by omega) (by omega)]; simp
  simp only [e0, e1, e2, e3, ↓o_nil, ↓o_field, ↓o_add, ↓o_sub, ↓o_mul, ↓o_lss, ↓o_leq, ↓o_gtr, ↓o_geq, ↓o_not, ↓o_pick, ↓o_eqInt, ↓o_neInt, ↓o_eqBool, ↓o_neBool, ↓o_eqPtr, ↓o_nePtr, ↓o_eqPtr', ↓o_eqSl, ↓o_neSl, ↓o_eqStr, ↓o_neStr, ↓o_len, ↓o_lenS, ↓o_min, ↓o_max, ↓o_extract, ↓o_convInt, ↓cd_true, ↓cd_false, ↓gate_tt, ↓gate_ff, ↓gate_tf, ↓gate_ft, ↓gate_undef, ↓o_bind, ↓stay_v, ↓pop_cons, ↓fin_nil, Option.isNone_none, Option.isNone_some, Bool.not_true, Bool.not_false, Nat.zero_add, decide_true, decide_false, if_true, if_false, Bool.false_eq_true, ↓reduceIte, ix (j := 4 * i) (by omega), ix (j := 4 * i + 1) (by omega), ix (j := 4 * i + 2) (by omega), ix (j := 4 * i + 3) (by omega)]
  refine ld_rd h hb _ rfl (getbv (by omega)) ?_
  rw [o_convBW, o_shlW' (by decide) (by decide)]
  refine ld_rd h hb _ rfl (getbv (by omega)) ?_
  rw [o_convBW, o_shlW' (by decide) (by decide), o_orW]
  refine ld_rd h hb _ rfl (getbv (by omega)) ?_
  rw [o_convBW, o_shlW' (by decide) (by decide), o_orW]
  refine ld_rd h hb _ rfl (getbv (by omega)) ?_
  rw [o_convBW, o_orW, o_indexA (by omega) (by omega)]
  refine store_sl (o := 0 + i) h rfl (by simp [hus]; omega) fun w h => ?_
  refine hk _ ?_
  have : (us.map wv ++ List.replicate (64 - i) (wv 0)).set (0 + i) (wv (word b i)) = (us ++ [word b i]).map wv ++ List.replicate (64 - (i + 1)) (wv 0) := by
    rw [Nat.zero_add, set_fill (by simpa using hus) (by omega)]; simp
  rw [← this]
  exact h
end Go.Proofs.YtjeiojibnmfibaaDoor

/-
  mix: the block's further words.
-/
set_option linter.all false
set_option maxRecDepth 10000
namespace Go.Proofs.YtjeiojibnmfibaaDoor
open Go Hold
variable {E : World0} {w : World} {H R : HP} {K : Value → World → Prop}
theorem mix_late (h : sat E w H) {i : Nat} (hi : i < 64) (h16 : ¬ (i : Int) < 16) {b3 : Nat} {e : TypeId} {us : List UInt32} (hus : us.length = i)
    [own : Own H b3 (.cells (us.map wv ++ List.replicate (64 - i) (wv 0)).toArray e (0, 0)) R] {k : List Value → World → Prop}
    (hk : ∀ w, sat E w (pts b3 (.cells ((us ++ [wNext us i]).map wv ++ List.replicate (64 - (i + 1)) (wv 0)).toArray e (0, 0)) * R) → k [] w) :
      dr w fun w =>
      pvv prog (binOp .sub 3 (.int .i64 i) (.int .i64 15)) w fun t_41 w =>
      pvv prog (Instr.indexAt 121 (.pointer (some ⟨b3, 0, none⟩)) t_41) w fun t_42 w =>
      pvv prog (binOp .sub 3 (.int .i64 i) (.int .i64 15)) w fun t_43 w =>
      pvv prog (Instr.indexAt 121 (.pointer (some ⟨b3, 0, none⟩)) t_43) w fun t_44 w =>
      pvv prog (binOp .sub 3 (.int .i64 i) (.int .i64 15)) w fun t_45 w =>
      pvv prog (Instr.indexAt 121 (.pointer (some ⟨b3, 0, none⟩)) t_45) w fun t_46 w =>
      bindS (vN (Instr.loadAt 101 t_42)) fun m_48 => ldv prog (Instr.loadAt 101 t_42) w fun t_47 w =>
      bindS (vN (Instr.loadAt 101 t_44)) fun m_50 => ldv prog (Instr.loadAt 101 t_44) w fun t_49 w =>
      bindS (vN (Instr.loadAt 101 t_46)) fun m_52 => ldv prog (Instr.loadAt 101 t_46) w fun t_51 w =>
      pvv prog (binOp .shr 101 t_51 (.int .u64 3)) w fun t_53 w =>
      Calls prog 83 #[t_47, (.int .i64 (-7))] w (Ret fun t_54 w => stay prog none m_52 t_51 w <| stay prog none m_50 t_49 w <| 
      Calls prog 83 #[t_49, (.int .i64 (-18))] w (Ret fun t_55 w => stay prog none m_52 t_51 w <| stay prog none m_48 t_47 w <| 
      pvv prog (binOp .xor 101 t_54 t_55) w fun t_56 w =>
      pvv prog (binOp .xor 101 t_56 t_53) w fun t_57 w =>
      dr w fun w =>
      pvv prog (binOp .sub 3 (.int .i64 i) (.int .i64 2)) w fun t_58 w =>
      pvv prog (Instr.indexAt 121 (.pointer (some ⟨b3, 0, none⟩)) t_58) w fun t_59 w =>
      pvv prog (binOp .sub 3 (.int .i64 i) (.int .i64 2)) w fun t_60 w =>
      pvv prog (Instr.indexAt 121 (.pointer (some ⟨b3, 0, none⟩)) t_60) w fun t_61 w =>
      pvv prog (binOp .sub 3 (.int .i64 i) (.int .i64 2)) w fun t_62 w =>
      pvv prog (Instr.indexAt 121 (.pointer (some ⟨b3, 0, none⟩)) t_62) w fun t_63 w =>
      bindS (vN (Instr.loadAt 101 t_59)) fun m_65 => ldv prog (Instr.loadAt 101 t_59) w fun t_64 w =>
      bindS (vN (Instr.loadAt 101 t_61)) fun m_67 => ldv prog (Instr.loadAt 101 t_61) w fun t_66 w =>
      bindS (vN (Instr.loadAt 101 t_63)) fun m_69 => ldv prog (Instr.loadAt 101 t_63) w fun t_68 w =>
      pvv prog (binOp .shr 101 t_68 (.int .u64 10)) w fun t_70 w =>
      Calls prog 83 #[t_64, (.int .i64 (-17))] w (Ret fun t_71 w => stay prog none m_69 t_68 w <| stay prog none m_67 t_66 w <| 
      Calls prog 83 #[t_66, (.int .i64 (-19))] w (Ret fun t_72 w => stay prog none m_69 t_68 w <| stay prog none m_65 t_64 w <| 
      pvv prog (binOp .xor 101 t_71 t_72) w fun t_73 w =>
      pvv prog (binOp .xor 101 t_73 t_70) w fun t_74 w =>
      dr w fun w =>
      pvv prog (binOp .sub 3 (.int .i64 i) (.int .i64 16)) w fun t_75 w =>
      pvv prog (Instr.indexAt 121 (.pointer (some ⟨b3, 0, none⟩)) t_75) w fun t_76 w =>
      pvv prog (binOp .sub 3 (.int .i64 i) (.int .i64 7)) w fun t_77 w =>
      pvv prog (Instr.indexAt 121 (.pointer (some ⟨b3, 0, none⟩)) t_77) w fun t_78 w =>
      bindS (vN (Instr.loadAt 101 t_76)) fun m_80 => ldv prog (Instr.loadAt 101 t_76) w fun t_79 w =>
      pvv prog (binOp .add 101 t_79 t_57) w fun t_81 w =>
      bindS (vN (Instr.loadAt 101 t_78)) fun m_83 => ldv prog (Instr.loadAt 101 t_78) w fun t_82 w =>
      pvv prog (binOp .add 101 t_81 t_82) w fun t_84 w =>
      pvv prog (binOp .add 101 t_84 t_74) w fun t_85 w =>
      pvv prog (Instr.indexAt 121 (.pointer (some ⟨b3, 0, none⟩)) (.int .i64 i)) w fun t_86 w =>
      efu prog (Instr.storeAt 101 t_86 t_85) w fun u_87 w =>
      k [] w)))) := by
  have e15 : IntKind.i64.wrap ((i : Int) - 15) = ((i - 15 : Nat) : Int) := by rw [i64_of (by omega) (by omega)]; omega
  have e2 : IntKind.i64.wrap ((i : Int) - 2) = ((i - 2 : Nat) : Int) := by rw [i64_of (by omega) (by omega)]; omega
  have e16 : IntKind.i64.wrap ((i : Int) - 16) = ((i - 16 : Nat) : Int) := by rw [i64_of (by omega) (by omega)]; omega
  have e7 : IntKind.i64.wrap ((i : Int) - 7) = ((i - 7 : Nat) : Int) := by rw [i64_of (by omega) (by omega)]; omega
  have ix : ∀ {j : Nat}, j < 64 → ∀ {w : World} {K : Value → World → Prop}, pvv prog (Instr.indexAt 121 (.pointer (some ⟨b3, 0, none⟩)) (.int .i64 (j : Int))) w K = K (.pointer (some ⟨b3, j, none⟩)) w := fun {j} hj {w K} => by
    rw [o_indexA (by omega) (by omega)]; simp
  have h := h.own b3
  have gw : ∀ {j : Nat}, j < i → (us.map wv ++ List.replicate (64 - i) (wv 0))[j]? = some (wv (us.getD j 0)) := fun hj => getwv (by omega)
  refine dr_sl h fun w h _ => ?_
  simp only [e15, ↓o_nil, ↓o_field, ↓o_add, ↓o_sub, ↓o_mul, ↓o_lss, ↓o_leq, ↓o_gtr, ↓o_geq, ↓o_not, ↓o_pick, ↓o_eqInt, ↓o_neInt, ↓o_eqBool, ↓o_neBool, ↓o_eqPtr, ↓o_nePtr, ↓o_eqPtr', ↓o_eqSl, ↓o_neSl, ↓o_eqStr, ↓o_neStr, ↓o_len, ↓o_lenS, ↓o_min, ↓o_max, ↓o_extract, ↓o_convInt, ↓cd_true, ↓cd_false, ↓gate_tt, ↓gate_ff, ↓gate_tf, ↓gate_ft, ↓gate_undef, ↓o_bind, ↓stay_v, ↓pop_cons, ↓fin_nil, Option.isNone_none, Option.isNone_some, Bool.not_true, Bool.not_false, Nat.zero_add, decide_true, decide_false, if_true, if_false, Bool.false_eq_true, ↓reduceIte, ix (j := i - 15) (by omega)]
  refine ld_in h (gw (by omega)) (ld_in h (gw (by omega)) (ld_in h (gw (by omega)) ?_))
  rw [o_shrW' (by decide) (by decide)]
  refine Rot_spec _ (n := 7) (by decide) (by decide) ?_
  try simp only [stay_v]
  refine st_in h (gw (by omega)) (st_in h (gw (by omega)) ?_)
  refine Rot_spec _ (n := 18) (by decide) (by decide) ?_
  try simp only [stay_v]
  refine st_in h (gw (by omega)) (st_in h (gw (by omega)) ?_)
  rw [o_xorW, o_xorW]
  refine dr_sl h fun w h _ => ?_
  simp only [e2, ↓o_nil, ↓o_field, ↓o_add, ↓o_sub, ↓o_mul, ↓o_lss, ↓o_leq, ↓o_gtr, ↓o_geq, ↓o_not, ↓o_pick, ↓o_eqInt, ↓o_neInt, ↓o_eqBool, ↓o_neBool, ↓o_eqPtr, ↓o_nePtr, ↓o_eqPtr', ↓o_eqSl, ↓o_neSl, ↓o_eqStr, ↓o_neStr, ↓o_len, ↓o_lenS, ↓o_min, ↓o_max, ↓o_extract, ↓o_convInt, ↓cd_true, ↓cd_false, ↓gate_tt, ↓gate_ff, ↓gate_tf, ↓gate_ft, ↓gate_undef, ↓o_bind, ↓stay_v, ↓pop_cons, ↓fin_nil, Option.isNone_none, Option.isNone_some, Bool.not_true, Bool.not_false, Nat.zero_add, decide_true, decide_false, if_true, if_false, Bool.false_eq_true, ↓reduceIte, ix (j := i - 2) (by omega)]
  refine ld_in h (gw (by omega)) (ld_in h (gw (by omega)) (ld_in h (gw (by omega)) ?_))
  rw [o_shrW' (by decide) (by decide)]
  refine Rot_spec _ (n := 17) (by decide) (by decide) ?_
  try simp only [stay_v]
  refine st_in h (gw (by omega)) (st_in h (gw (by omega)) ?_)
  refine Rot_spec _ (n := 19) (by decide) (by decide) ?_
  try simp only [stay_v]
  refine st_in h (gw (by omega)) (st_in h (gw (by omega)) ?_)
  rw [o_xorW, o_xorW]
  refine dr_sl h fun w h _ => ?_
  simp only [e16, e7, ↓o_nil, ↓o_field, ↓o_add, ↓o_sub, ↓o_mul, ↓o_lss, ↓o_leq, ↓o_gtr, ↓o_geq, ↓o_not, ↓o_pick, ↓o_eqInt, ↓o_neInt, ↓o_eqBool, ↓o_neBool, ↓o_eqPtr, ↓o_nePtr, ↓o_eqPtr', ↓o_eqSl, ↓o_neSl, ↓o_eqStr, ↓o_neStr, ↓o_len, ↓o_lenS, ↓o_min, ↓o_max, ↓o_extract, ↓o_convInt, ↓cd_true, ↓cd_false, ↓gate_tt, ↓gate_ff, ↓gate_tf, ↓gate_ft, ↓gate_undef, ↓o_bind, ↓stay_v, ↓pop_cons, ↓fin_nil, Option.isNone_none, Option.isNone_some, Bool.not_true, Bool.not_false, Nat.zero_add, decide_true, decide_false, if_true, if_false, Bool.false_eq_true, ↓reduceIte, ix (j := i - 16) (by omega), ix (j := i - 7) (by omega)]
  refine ld_in h (gw (by omega)) ?_
  rw [o_addW]
  refine ld_in h (gw (by omega)) ?_
  rw [o_addW, o_addW, ix hi]
  refine store_sl h rfl (by simp [hus]; omega) fun w h => ?_
  refine hk _ ?_
  rw [set_fill (by simpa using hus) (by omega)] at h
  have e : us.map wv ++ [wv (wNext us i)] = (us ++ [wNext us i]).map wv := by simp
  rw [← e]
  exact h
end Go.Proofs.YtjeiojibnmfibaaDoor

/-
  mix: one round.
-/
set_option linter.all false
set_option maxRecDepth 10000
namespace Go.Proofs.YtjeiojibnmfibaaDoor
open Go Hold
variable {E : World0} {w : World} {H R : HP} {K : Value → World → Prop}
theorem mix_round (h : sat E w H) {i : Nat} (hi : i < 64) {b3 bk bq : Nat} {e1 e2 e3 : TypeId} {fr1 fr2 : Nat × Nat} {ks ws : List UInt32} (hks : ks.length = 64) (hws : ws.length = 64) {v : St}
    [own : Own H bq (.cells (v.list.map wv).toArray e3 (0, 0)) R] [hb3 : Has R b3 (.cells (ws.map wv).toArray e1 fr1)] [hbk : Has R bk (.cells (ks.map wv).toArray e2 fr2)] {k : List Value → World → Prop}
    (hk : ∀ w, sat E w (pts bq (.cells ((round (ks.getD i 0) (ws.getD i 0) v).list.map wv).toArray e3 (0, 0)) * R) → k [.int .i64 ((i + 1 : Nat) : Int)] w) :
        dr w fun w =>
        pvv prog (Instr.indexAt 107 (.pointer (some ⟨bq, 0, none⟩)) (.int .i64 4)) w fun t_99 w =>
        pvv prog (Instr.indexAt 107 (.pointer (some ⟨bq, 0, none⟩)) (.int .i64 4)) w fun t_100 w =>
        pvv prog (Instr.indexAt 107 (.pointer (some ⟨bq, 0, none⟩)) (.int .i64 4)) w fun t_101 w =>
        bindS (vN (Instr.loadAt 101 t_99)) fun m_103 => ldv prog (Instr.loadAt 101 t_99) w fun t_102 w =>
        bindS (vN (Instr.loadAt 101 t_100)) fun m_105 => ldv prog (Instr.loadAt 101 t_100) w fun t_104 w =>
        bindS (vN (Instr.loadAt 101 t_101)) fun m_107 => ldv prog (Instr.loadAt 101 t_101) w fun t_106 w =>
        Calls prog 83 #[t_102, (.int .i64 (-6))] w (Ret fun t_108 w => stay prog none m_107 t_106 w <| stay prog none m_105 t_104 w <| 
        Calls prog 83 #[t_104, (.int .i64 (-11))] w (Ret fun t_109 w => stay prog none m_107 t_106 w <| stay prog none m_103 t_102 w <| 
        pvv prog (binOp .xor 101 t_108 t_109) w fun t_110 w =>
        Calls prog 83 #[t_106, (.int .i64 (-25))] w (Ret fun t_111 w => stay prog none m_105 t_104 w <| stay prog none m_103 t_102 w <| 
        pvv prog (binOp .xor 101 t_110 t_111) w fun t_112 w =>
        dr w fun w =>
        pvv prog (Instr.indexAt 107 (.pointer (some ⟨bq, 0, none⟩)) (.int .i64 7)) w fun t_113 w =>
        pvv prog (Instr.indexAt 107 (.pointer (some ⟨bq, 0, none⟩)) (.int .i64 6)) w fun t_114 w =>
        pvv prog (Instr.indexAt 107 (.pointer (some ⟨bq, 0, none⟩)) (.int .i64 4)) w fun t_115 w =>
        pvv prog (Instr.indexAt 107 (.pointer (some ⟨bq, 0, none⟩)) (.int .i64 5)) w fun t_116 w =>
        pvv prog (Instr.indexAt 107 (.pointer (some ⟨bq, 0, none⟩)) (.int .i64 6)) w fun t_117 w =>
        pv prog (oNil (.pointer (some ⟨bk, 0, none⟩))) w fun t_118 w =>
        pvv prog (Instr.indexAt 121 t_118 (.int .i64 i)) w fun t_119 w =>
        pvv prog (Instr.indexAt 121 (.pointer (some ⟨b3, 0, none⟩)) (.int .i64 i)) w fun t_120 w =>
        bindS (vN (Instr.loadAt 101 t_113)) fun m_122 => ldv prog (Instr.loadAt 101 t_113) w fun t_121 w =>
        pvv prog (binOp .add 101 t_121 t_112) w fun t_123 w =>
        bindS (vN (Instr.loadAt 101 t_114)) fun m_125 => ldv prog (Instr.loadAt 101 t_114) w fun t_124 w =>
        bindS (vN (Instr.loadAt 101 t_115)) fun m_127 => ldv prog (Instr.loadAt 101 t_115) w fun t_126 w =>
        bindS (vN (Instr.loadAt 101 t_116)) fun m_129 => ldv prog (Instr.loadAt 101 t_116) w fun t_128 w =>
        bindS (vN (Instr.loadAt 101 t_117)) fun m_131 => ldv prog (Instr.loadAt 101 t_117) w fun t_130 w =>
        pvv prog (binOp .xor 101 t_128 t_130) w fun t_132 w =>
        pvv prog (binOp .and 101 t_126 t_132) w fun t_133 w =>
        pvv prog (binOp .xor 101 t_124 t_133) w fun t_134 w =>
        pvv prog (binOp .add 101 t_123 t_134) w fun t_135 w =>
        bindS (vN (Instr.loadAt 101 t_119)) fun m_137 => ldv prog (Instr.loadAt 101 t_119) w fun t_136 w =>
        pvv prog (binOp .add 101 t_135 t_136) w fun t_138 w =>
        bindS (vN (Instr.loadAt 101 t_120)) fun m_140 => ldv prog (Instr.loadAt 101 t_120) w fun t_139 w =>
        pvv prog (binOp .add 101 t_138 t_139) w fun t_141 w =>
        dr w fun w =>
        pvv prog (Instr.indexAt 107 (.pointer (some ⟨bq, 0, none⟩)) (.int .i64 0)) w fun t_142 w =>
        pvv prog (Instr.indexAt 107 (.pointer (some ⟨bq, 0, none⟩)) (.int .i64 0)) w fun t_143 w =>
        pvv prog (Instr.indexAt 107 (.pointer (some ⟨bq, 0, none⟩)) (.int .i64 0)) w fun t_144 w =>
        bindS (vN (Instr.loadAt 101 t_142)) fun m_146 => ldv prog (Instr.loadAt 101 t_142) w fun t_145 w =>
        bindS (vN (Instr.loadAt 101 t_143)) fun m_148 => ldv prog (Instr.loadAt 101 t_143) w fun t_147 w =>
        bindS (vN (Instr.loadAt 101 t_144)) fun m_150 => ldv prog (Instr.loadAt 101 t_144) w fun t_149 w =>
        Calls prog 83 #[t_145, (.int .i64 (-2))] w (Ret fun t_151 w => stay prog none m_150 t_149 w <| stay prog none m_148 t_147 w <| 
        Calls prog 83 #[t_147, (.int .i64 (-13))] w (Ret fun t_152 w => stay prog none m_150 t_149 w <| stay prog none m_146 t_145 w <| 
        pvv prog (binOp .xor 101 t_151 t_152) w fun t_153 w =>
        Calls prog 83 #[t_149, (.int .i64 (-22))] w (Ret fun t_154 w => stay prog none m_148 t_147 w <| stay prog none m_146 t_145 w <| 
        pvv prog (binOp .xor 101 t_153 t_154) w fun t_155 w =>
        pvv prog (Instr.indexAt 107 (.pointer (some ⟨bq, 0, none⟩)) (.int .i64 0)) w fun t_156 w =>
        ldv prog (Instr.loadAt 101 t_156) w fun t_157 w =>
        pvv prog (Instr.indexAt 107 (.pointer (some ⟨bq, 0, none⟩)) (.int .i64 1)) w fun t_158 w =>
        ldv prog (Instr.loadAt 101 t_158) w fun t_159 w =>
        pvv prog (binOp .and 101 t_157 t_159) w fun t_160 w =>
        pvv prog (Instr.indexAt 107 (.pointer (some ⟨bq, 0, none⟩)) (.int .i64 2)) w fun t_161 w =>
        ldv prog (Instr.loadAt 101 t_161) w fun t_162 w =>
        pvv prog (Instr.indexAt 107 (.pointer (some ⟨bq, 0, none⟩)) (.int .i64 0)) w fun t_163 w =>
        ldv prog (Instr.loadAt 101 t_163) w fun t_164 w =>
        pvv prog (Instr.indexAt 107 (.pointer (some ⟨bq, 0, none⟩)) (.int .i64 1)) w fun t_165 w =>
        ldv prog (Instr.loadAt 101 t_165) w fun t_166 w =>
        pvv prog (binOp .or 101 t_164 t_166) w fun t_167 w =>
        pvv prog (binOp .and 101 t_162 t_167) w fun t_168 w =>
        pvv prog (binOp .or 101 t_160 t_168) w fun t_169 w =>
        pvv prog (binOp .add 101 t_155 t_169) w fun t_170 w =>
        dr w fun w =>
        pvv prog (Instr.sliceAt 107 (.pointer (some ⟨bq, 0, none⟩)) (some (.int .i64 1)) none none) w fun t_171 w =>
        pvv prog (Instr.sliceAt 107 (.pointer (some ⟨bq, 0, none⟩)) none (some (.int .i64 7)) none) w fun t_172 w =>
        ef prog (oBi .copy #[102, 102] 3 #[false, false] #[t_171, t_172]) w fun t_173 w =>
        pvv prog (Instr.indexAt 107 (.pointer (some ⟨bq, 0, none⟩)) (.int .i64 4)) w fun t_174 w =>
        ldv prog (Instr.loadAt 101 t_174) w fun t_175 w =>
        pvv prog (binOp .add 101 t_175 t_141) w fun t_176 w =>
        pvv prog (Instr.indexAt 107 (.pointer (some ⟨bq, 0, none⟩)) (.int .i64 4)) w fun t_177 w =>
        efu prog (Instr.storeAt 101 t_177 t_176) w fun u_178 w =>
        pvv prog (binOp .add 101 t_141 t_170) w fun t_179 w =>
        pvv prog (Instr.indexAt 107 (.pointer (some ⟨bq, 0, none⟩)) (.int .i64 0)) w fun t_180 w =>
        efu prog (Instr.storeAt 101 t_180 t_179) w fun u_181 w =>
        pvv prog (binOp .add 3 (.int .i64 i) (.int .i64 1)) w fun t_182 w =>
        k [t_182] w)))))) := by
  have ix : ∀ {j : Nat}, j < 64 → ∀ {b : Nat} {w : World} {K : Value → World → Prop}, pvv prog (Instr.indexAt 121 (.pointer (some ⟨b, 0, none⟩)) (.int .i64 (j : Int))) w K = K (.pointer (some ⟨b, j, none⟩)) w := fun {j} hj {b w K} => by
    rw [o_indexA (by omega) (by omega)]; simp
  have i0 : ∀ {w : World} {K : Value → World → Prop}, pvv prog (Instr.indexAt 107 (.pointer (some ⟨bq, 0, none⟩)) (.int .i64 0)) w K = K (.pointer (some ⟨bq, 0, none⟩)) w := o_indexA (by decide) (by decide)
  have i1 : ∀ {w : World} {K : Value → World → Prop}, pvv prog (Instr.indexAt 107 (.pointer (some ⟨bq, 0, none⟩)) (.int .i64 1)) w K = K (.pointer (some ⟨bq, 1, none⟩)) w := o_indexA (by decide) (by decide)
  have i2 : ∀ {w : World} {K : Value → World → Prop}, pvv prog (Instr.indexAt 107 (.pointer (some ⟨bq, 0, none⟩)) (.int .i64 2)) w K = K (.pointer (some ⟨bq, 2, none⟩)) w := o_indexA (by decide) (by decide)
  have i4 : ∀ {w : World} {K : Value → World → Prop}, pvv prog (Instr.indexAt 107 (.pointer (some ⟨bq, 0, none⟩)) (.int .i64 4)) w K = K (.pointer (some ⟨bq, 4, none⟩)) w := o_indexA (by decide) (by decide)
  have i5 : ∀ {w : World} {K : Value → World → Prop}, pvv prog (Instr.indexAt 107 (.pointer (some ⟨bq, 0, none⟩)) (.int .i64 5)) w K = K (.pointer (some ⟨bq, 5, none⟩)) w := o_indexA (by decide) (by decide)
  have i6 : ∀ {w : World} {K : Value → World → Prop}, pvv prog (Instr.indexAt 107 (.pointer (some ⟨bq, 0, none⟩)) (.int .i64 6)) w K = K (.pointer (some ⟨bq, 6, none⟩)) w := o_indexA (by decide) (by decide)
  have i7 : ∀ {w : World} {K : Value → World → Prop}, pvv prog (Instr.indexAt 107 (.pointer (some ⟨bq, 0, none⟩)) (.int .i64 7)) w K = K (.pointer (some ⟨bq, 7, none⟩)) w := o_indexA (by decide) (by decide)
  have h : sat E w (pts bq (.cells [wv v.a, wv v.b, wv v.c, wv v.d, wv v.e, wv v.f, wv v.g, wv v.h].toArray e3 (0, 0)) * R) := h.own bq
  refine dr_sl h fun w h _ => ?_
  simp only [↓o_nil, ↓o_field, ↓o_add, ↓o_sub, ↓o_mul, ↓o_lss, ↓o_leq, ↓o_gtr, ↓o_geq, ↓o_not, ↓o_pick, ↓o_eqInt, ↓o_neInt, ↓o_eqBool, ↓o_neBool, ↓o_eqPtr, ↓o_nePtr, ↓o_eqPtr', ↓o_eqSl, ↓o_neSl, ↓o_eqStr, ↓o_neStr, ↓o_len, ↓o_lenS, ↓o_min, ↓o_max, ↓o_extract, ↓o_convInt, ↓cd_true, ↓cd_false, ↓gate_tt, ↓gate_ff, ↓gate_tf, ↓gate_ft, ↓gate_undef, ↓o_bind, ↓stay_v, ↓pop_cons, ↓fin_nil, Option.isNone_none, Option.isNone_some, Bool.not_true, Bool.not_false, Nat.zero_add, decide_true, decide_false, if_true, if_false, Bool.false_eq_true, ↓reduceIte, i4]
  refine ld_at h (ld_at h (ld_at h ?_))
  refine Rot_spec _ (n := 6) (by decide) (by decide) ?_
  try simp only [stay_v]
  refine st_at h (st_at h ?_)
  refine Rot_spec _ (n := 11) (by decide) (by decide) ?_
  try simp only [stay_v]
  refine st_at h (st_at h ?_)
  rw [o_xorW]
  refine Rot_spec _ (n := 25) (by decide) (by decide) ?_
  try simp only [stay_v]
  refine st_at h (st_at h ?_)
  rw [o_xorW]
  refine dr_sl h fun w h _ => ?_
  simp only [↓o_nil, ↓o_field, ↓o_add, ↓o_sub, ↓o_mul, ↓o_lss, ↓o_leq, ↓o_gtr, ↓o_geq, ↓o_not, ↓o_pick, ↓o_eqInt, ↓o_neInt, ↓o_eqBool, ↓o_neBool, ↓o_eqPtr, ↓o_nePtr, ↓o_eqPtr', ↓o_eqSl, ↓o_neSl, ↓o_eqStr, ↓o_neStr, ↓o_len, ↓o_lenS, ↓o_min, ↓o_max, ↓o_extract, ↓o_convInt, ↓cd_true, ↓cd_false, ↓gate_tt, ↓gate_ff, ↓gate_tf, ↓gate_ft, ↓gate_undef, ↓o_bind, ↓stay_v, ↓pop_cons, ↓fin_nil, Option.isNone_none, Option.isNone_some, Bool.not_true, Bool.not_false, Nat.zero_add, decide_true, decide_false, if_true, if_false, Bool.false_eq_true, ↓reduceIte, i0, i1, i2, i4, i5, i6, i7, ix hi]
  refine ld_at h ?_
  rw [o_addW]
  refine ld_at h (ld_at h (ld_at h (ld_at h ?_)))
  rw [o_xorW, o_andW, o_xorW, o_addW]
  refine ld_in (b := bk) h (getwv' (by omega)) ?_
  rw [o_addW]
  refine ld_in (b := b3) h (getwv' (by omega)) ?_
  rw [o_addW]
  refine dr_sl h fun w h _ => ?_
  try simp only [↓o_nil, ↓o_field, ↓o_add, ↓o_sub, ↓o_mul, ↓o_lss, ↓o_leq, ↓o_gtr, ↓o_geq, ↓o_not, ↓o_pick, ↓o_eqInt, ↓o_neInt, ↓o_eqBool, ↓o_neBool, ↓o_eqPtr, ↓o_nePtr, ↓o_eqPtr', ↓o_eqSl, ↓o_neSl, ↓o_eqStr, ↓o_neStr, ↓o_len, ↓o_lenS, ↓o_min, ↓o_max, ↓o_extract, ↓o_convInt, ↓cd_true, ↓cd_false, ↓gate_tt, ↓gate_ff, ↓gate_tf, ↓gate_ft, ↓gate_undef, ↓o_bind, ↓stay_v, ↓pop_cons, ↓fin_nil, Option.isNone_none, Option.isNone_some, Bool.not_true, Bool.not_false, Nat.zero_add, decide_true, decide_false, if_true, if_false, Bool.false_eq_true, ↓reduceIte, i0, i1, i2, i4, i5, i6, i7]
  refine ld_at h (ld_at h (ld_at h ?_))
  refine Rot_spec _ (n := 2) (by decide) (by decide) ?_
  try simp only [stay_v]
  refine st_at h (st_at h ?_)
  refine Rot_spec _ (n := 13) (by decide) (by decide) ?_
  try simp only [stay_v]
  refine st_at h (st_at h ?_)
  rw [o_xorW]
  refine Rot_spec _ (n := 22) (by decide) (by decide) ?_
  try simp only [stay_v]
  refine st_at h (st_at h ?_)
  rw [o_xorW]
  try simp only [↓o_nil, ↓o_field, ↓o_add, ↓o_sub, ↓o_mul, ↓o_lss, ↓o_leq, ↓o_gtr, ↓o_geq, ↓o_not, ↓o_pick, ↓o_eqInt, ↓o_neInt, ↓o_eqBool, ↓o_neBool, ↓o_eqPtr, ↓o_nePtr, ↓o_eqPtr', ↓o_eqSl, ↓o_neSl, ↓o_eqStr, ↓o_neStr, ↓o_len, ↓o_lenS, ↓o_min, ↓o_max, ↓o_extract, ↓o_convInt, ↓cd_true, ↓cd_false, ↓gate_tt, ↓gate_ff, ↓gate_tf, ↓gate_ft, ↓gate_undef, ↓o_bind, ↓stay_v, ↓pop_cons, ↓fin_nil, Option.isNone_none, Option.isNone_some, Bool.not_true, Bool.not_false, Nat.zero_add, decide_true, decide_false, if_true, if_false, Bool.false_eq_true, ↓reduceIte, i0, i1, i2, i4, i5, i6, i7]
  refine ld_at h ?_
  refine ld_at h ?_
  rw [o_andW]
  refine ld_at h (ld_at h (ld_at h ?_))
  rw [o_orW, o_andW, o_orW, o_addW]
  refine dr_sl h fun w h _ => ?_
  rw [o_sliceA_l (by decide) (by decide), o_sliceA_h (by decide) (by decide)]
  refine copy_in (b := bq) (k' := 7) h (news := [wv v.a, wv v.b, wv v.c, wv v.d, wv v.e, wv v.f, wv v.g]) rfl (.inr ⟨bq, 0, _, _, _, rfl, Has.get h, fun j u hj => ?_⟩) (by simp [wv, Value.oneCell']) (by simp) fun w h => ?_
  · have := (List.getElem?_eq_some_iff.1 hj).1
    have hj7 : j < 7 := this
    rw [Nat.zero_add]
    match j, hj7 with
    | 0, _ => exact hj
    | 1, _ => exact hj
    | 2, _ => exact hj
    | 3, _ => exact hj
    | 4, _ => exact hj
    | 5, _ => exact hj
    | 6, _ => exact hj
  have h : sat E w (pts bq (.cells [wv v.a, wv v.a, wv v.b, wv v.c, wv v.d, wv v.e, wv v.f, wv v.g].toArray e3 (0, 0)) * R) := h
  try simp only [↓o_nil, ↓o_field, ↓o_add, ↓o_sub, ↓o_mul, ↓o_lss, ↓o_leq, ↓o_gtr, ↓o_geq, ↓o_not, ↓o_pick, ↓o_eqInt, ↓o_neInt, ↓o_eqBool, ↓o_neBool, ↓o_eqPtr, ↓o_nePtr, ↓o_eqPtr', ↓o_eqSl, ↓o_neSl, ↓o_eqStr, ↓o_neStr, ↓o_len, ↓o_lenS, ↓o_min, ↓o_max, ↓o_extract, ↓o_convInt, ↓cd_true, ↓cd_false, ↓gate_tt, ↓gate_ff, ↓gate_tf, ↓gate_ft, ↓gate_undef, ↓o_bind, ↓stay_v, ↓pop_cons, ↓fin_nil, Option.isNone_none, Option.isNone_some, Bool.not_true, Bool.not_false, Nat.zero_add, decide_true, decide_false, if_true, if_false, Bool.false_eq_true, ↓reduceIte, i0, i1, i2, i4, i5, i6, i7]
  refine ld_at h ?_
  rw [o_addW]
  try rw [i4]
  refine store_at h rfl (by simp) fun w h => ?_
  rw [o_addW]
  try rw [i0]
  refine store_at h rfl (by simp) fun w h => ?_
  try rw [o_add]
  rw [i64_of (by omega) (by omega)]
  exact hk _ h
end Go.Proofs.YtjeiojibnmfibaaDoor

/-
  mix, whole.
-/
set_option linter.all false
set_option maxRecDepth 10000
namespace Go.Proofs.YtjeiojibnmfibaaDoor
open Go Hold
variable {E : World0} {w : World} {H R : HP} {K : Value → World → Prop}
theorem take_drop_set {α : Type} {x y : List α} {n i : Nat} {v : α} (hx : x.length = n) (hy : y.length = n) (hi : i < n) (hv : x[i]? = some v) : (x.take i ++ y.drop i).set i v = x.take (i + 1) ++ y.drop (i + 1) := by
  apply List.ext_getElem?
  intro j
  rw [List.getElem?_set, List.getElem?_append, List.getElem?_append]
  simp only [List.length_append, List.length_take, List.length_drop, List.getElem?_take, List.getElem?_drop, hx, hy]
  by_cases h1 : i = j
  · subst h1
    have : i < min i n + (n - i) := by omega
    have h3 : i < min (i + 1) n := by omega
    simp [this, h3, hv]
  · rw [if_neg h1]
    by_cases h2 : j < i
    · have h3 : j < min i n := by omega
      have h4 : j < min (i + 1) n := by omega
      have h5 : j < i + 1 := by omega
      simp [h3, h4, h2, h5]
    · have h3 : ¬ j < min i n := by omega
      have h4 : ¬ j < min (i + 1) n := by omega
      rw [if_neg h3, if_neg h4]
      congr 1; omega
theorem take_drop_get {α : Type} {x y : List α} {n i : Nat} (hx : x.length = n) (hi : i < n) : (x.take i ++ y.drop i)[i]? = y[i]? := by
  rw [List.getElem?_append_right (by simp; omega)]
  simp only [List.length_take, List.getElem?_drop]
  congr 1; omega
theorem wv_one (l : List UInt32) : ∀ x ∈ l.map wv, x.oneCell' = true := by
  intro x hx
  obtain ⟨b, _, rfl⟩ := List.mem_map.1 hx
  rfl
theorem St.len (v : St) : v.list.length = 8 := rfl
theorem St.add_get (x y : St) : ∀ {i : Nat}, i < 8 → (x.add y).list.getD i 0 = x.list.getD i 0 + y.list.getD i 0
  | 0, _ => rfl
  | 1, _ => rfl
  | 2, _ => rfl
  | 3, _ => rfl
  | 4, _ => rfl
  | 5, _ => rfl
  | 6, _ => rfl
  | 7, _ => rfl
  | n + 8, h => by omega
theorem mix_spec (h : sat E w H) {st : St} {bk : Nat} {ek : TypeId} {frk : Nat × Nat} {ks : List UInt32} (hks : ks.length = 64) [hbk : Has H bk (.cells (ks.map wv).toArray ek frk)] {vb : Value} {b : List UInt8} (hb : Rds H vb b.length (b.map bv)) (hbl : 64 ≤ b.length)
    (hK : ∀ w, sat E w H → K (.agg ((mix ks st b).list.map wv).toArray) w) :
    Calls prog 68 #[.agg (st.list.map wv).toArray, .pointer (some ⟨bk, 0, none⟩), vb] w (Ret K) := by
  obtain ⟨bb, o, c, rfl, hc, hb⟩ := hb.opened h (by simp; omega)
  refine c68 ?_
  unfold B68
  refine box_sl h fun b1 w h => ?_
  refine alloc_sl h fun b2 w h => ?_
  refine alloc_sl h fun b3 w h => ?_
  have h : sat E w (pts b3 (.cells (List.replicate 64 (wv 0)).toArray 121 (0, 0)) * (pts b2 (.cells (List.replicate 8 (wv 0)).toArray 107 (0, 0)) * (pts b1 (.cells (st.list.map wv).toArray 107 (0, 0)) * H))) := h
  refine lp_nat (fun m σ w => ∃ i : Nat, σ = [.int .i64 i] ∧ m = 64 - i ∧ i ≤ 64 ∧
    sat E w (pts b3 (.cells ((sched b i).map wv ++ List.replicate (64 - i) (wv 0)).toArray 121 (0, 0)) * (pts b2 (.cells (List.replicate 8 (wv 0)).toArray 107 (0, 0)) * (pts b1 (.cells (st.list.map wv).toArray 107 (0, 0)) * H)))) 64 ⟨0, rfl, rfl, by omega, h⟩ ?_
  rintro m σ w again ⟨i, rfl, rfl, hi, h⟩ hag
  have hb' : Rds (pts b3 (.cells ((sched b i).map wv ++ List.replicate (64 - i) (wv 0)).toArray 121 (0, 0)) * (pts b2 (.cells (List.replicate 8 (wv 0)).toArray 107 (0, 0)) * (pts b1 (.cells (st.list.map wv).toArray 107 (0, 0)) * H))) _ _ _ := hb.right.right.right
  rw [pop_cons, fin_nil, o_lss]
  refine cd_dec (fun hlt => ?_) (fun hge => ?_)
  · have hlt : i < 64 := by omega
    refine jn_cut (fun σ w => σ = [] ∧ sat E w (pts b3 (.cells ((sched b (i + 1)).map wv ++ List.replicate (64 - (i + 1)) (wv 0)).toArray 121 (0, 0)) * (pts b2 (.cells (List.replicate 8 (wv 0)).toArray 107 (0, 0)) * (pts b1 (.cells (st.list.map wv).toArray 107 (0, 0)) * H)))) ?_ ?_
    · intro kk hk
      rw [o_lss]
      by_cases h16 : (i : Int) < 16
      · rw [decide_eq_true h16, cd_true]
        refine mix_early h hlt h16 (sched_length b i) hb' hbl fun w h => hk _ _ ⟨rfl, ?_⟩
        have h16' : i < 16 := by omega
        have e : sched b (i + 1) = sched b i ++ [word b i] := by simp [sched, h16']
        rw [e]; exact h
      · rw [decide_eq_false h16, cd_false]
        refine mix_late h hlt h16 (sched_length b i) fun w h => hk _ _ ⟨rfl, ?_⟩
        have h16' : ¬ i < 16 := by omega
        have e : sched b (i + 1) = sched b i ++ [wNext (sched b i) i] := by simp [sched, h16']
        rw [e]; exact h
    · rintro σ w ⟨rfl, h⟩
      simp only [↓o_nil, ↓o_field, ↓o_add, ↓o_sub, ↓o_mul, ↓o_lss, ↓o_leq, ↓o_gtr, ↓o_geq, ↓o_not, ↓o_pick, ↓o_eqInt, ↓o_neInt, ↓o_eqBool, ↓o_neBool, ↓o_eqPtr, ↓o_nePtr, ↓o_eqPtr', ↓o_eqSl, ↓o_neSl, ↓o_eqStr, ↓o_neStr, ↓o_len, ↓o_lenS, ↓o_min, ↓o_max, ↓o_extract, ↓o_convInt, ↓cd_true, ↓cd_false, ↓gate_tt, ↓gate_ff, ↓gate_tf, ↓gate_ft, ↓gate_undef, ↓o_bind, ↓stay_v, ↓pop_cons, ↓fin_nil, Option.isNone_none, Option.isNone_some, Bool.not_true, Bool.not_false, Nat.zero_add, decide_true, decide_false, if_true, if_false, Bool.false_eq_true, ↓reduceIte]
      rw [i64_of (by omega) (by omega)]
      exact hag _ _ _ (by omega) ⟨i + 1, rfl, rfl, by omega, h⟩
  · have hi64 : i = 64 := by omega
    subst hi64
    have h : sat E w (pts b3 (.cells ((sched b 64).map wv).toArray 121 (0, 0)) * (pts b2 (.cells (List.replicate 8 (wv 0)).toArray 107 (0, 0)) * (pts b1 (.cells (st.list.map wv).toArray 107 (0, 0)) * H))) := by
      simpa using h
    refine ld_agg h (by simp [St.len]) ?_
    refine alloc_sl h fun b4 w h => ?_
    have h : sat E w (pts b4 (.cells (List.replicate 8 (wv 0)).toArray 107 (0, 0)) * (pts b3 (.cells ((sched b 64).map wv).toArray 121 (0, 0)) * (pts b2 (.cells (List.replicate 8 (wv 0)).toArray 107 (0, 0)) * (pts b1 (.cells (st.list.map wv).toArray 107 (0, 0)) * H)))) := h
    refine storeN_sl (b := b4) h (aggC_107).size (vs := st.list.map wv) (by simp [Value.cells]) (by simp [St.len]) (wv_one _) (by simp) fun w h => ?_
    have h : sat E w (pts b4 (.cells (st.list.map wv).toArray 107 (0, 0)) * (pts b3 (.cells ((sched b 64).map wv).toArray 121 (0, 0)) * (pts b2 (.cells (List.replicate 8 (wv 0)).toArray 107 (0, 0)) * (pts b1 (.cells (st.list.map wv).toArray 107 (0, 0)) * H)))) := h
    refine lp_nat (fun m σ w => ∃ i : Nat, σ = [.int .i64 i] ∧ m = 64 - i ∧ i ≤ 64 ∧
      sat E w (pts b4 (.cells ((Go.Proofs.YtjeiojibnmfibaaDoor.rounds ks (sched b 64) st i).list.map wv).toArray 107 (0, 0)) * (pts b3 (.cells ((sched b 64).map wv).toArray 121 (0, 0)) * (pts b2 (.cells (List.replicate 8 (wv 0)).toArray 107 (0, 0)) * (pts b1 (.cells (st.list.map wv).toArray 107 (0, 0)) * H))))) 64 ⟨0, rfl, rfl, by omega, h⟩ ?_
    rintro m σ w again ⟨i, rfl, rfl, hi, h⟩ hag
    rw [pop_cons, fin_nil, o_lss]
    refine cd_dec (fun hlt => ?_) (fun hge => ?_)
    · refine mix_round h (by omega) hks (sched_length b 64) fun w h => ?_
      exact hag _ _ _ (by omega) ⟨i + 1, rfl, rfl, by omega, h⟩
    · have hi64 : i = 64 := by omega
      subst hi64
      refine lp_nat (fun m σ w => ∃ i : Nat, σ = [.int .i64 i] ∧ m = 8 - i ∧ i ≤ 8 ∧
        sat E w (pts b1 (.cells (((mix ks st b).list.take i ++ st.list.drop i).map wv).toArray 107 (0, 0)) * (pts b4 (.cells ((Go.Proofs.YtjeiojibnmfibaaDoor.rounds ks (sched b 64) st 64).list.map wv).toArray 107 (0, 0)) * (pts b3 (.cells ((sched b 64).map wv).toArray 121 (0, 0)) * (pts b2 (.cells (List.replicate 8 (wv 0)).toArray 107 (0, 0)) * H))))) 8 ⟨0, rfl, rfl, by omega, ?_⟩ ?_
      · have := h.own b1
        exact this
      rintro m σ w again ⟨i, rfl, rfl, hi, h⟩ hag
      rw [pop_cons, fin_nil, o_lss]
      refine cd_dec (fun hlt => ?_) (fun hge => ?_)
      · have hlt : i < 8 := by omega
        have ix : ∀ {b : Nat} {w : World} {K : Value → World → Prop}, pvv prog (Instr.indexAt 107 (.pointer (some ⟨b, 0, none⟩)) (.int .i64 (i : Int))) w K = K (.pointer (some ⟨b, i, none⟩)) w := fun {b w K} => by
          rw [o_indexA (by omega) (by omega)]; simp
        refine dr_sl h fun w h _ => ?_
        simp only [↓o_nil, ↓o_field, ↓o_add, ↓o_sub, ↓o_mul, ↓o_lss, ↓o_leq, ↓o_gtr, ↓o_geq, ↓o_not, ↓o_pick, ↓o_eqInt, ↓o_neInt, ↓o_eqBool, ↓o_neBool, ↓o_eqPtr, ↓o_nePtr, ↓o_eqPtr', ↓o_eqSl, ↓o_neSl, ↓o_eqStr, ↓o_neStr, ↓o_len, ↓o_lenS, ↓o_min, ↓o_max, ↓o_extract, ↓o_convInt, ↓cd_true, ↓cd_false, ↓gate_tt, ↓gate_ff, ↓gate_tf, ↓gate_ft, ↓gate_undef, ↓o_bind, ↓stay_v, ↓pop_cons, ↓fin_nil, Option.isNone_none, Option.isNone_some, Bool.not_true, Bool.not_false, Nat.zero_add, decide_true, decide_false, if_true, if_false, Bool.false_eq_true, ↓reduceIte, ix]
        have g1 : (((mix ks st b).list.take i ++ st.list.drop i).map wv)[i]? = some (wv (st.list.getD i 0)) := by
          rw [List.getElem?_map, take_drop_get (St.len _) hlt, ← List.getElem?_map]
          exact getwv' (by rw [St.len]; exact hlt)
        refine ld_in (b := b1) h g1 ?_
        refine ld_in (b := b4) h (getwv' (by rw [St.len]; exact hlt)) ?_
        rw [o_addW]
        try rw [ix]
        refine store_sl (b := b1) h rfl (by simp [St.len]; omega) fun w h => ?_
        try rw [o_add]
        rw [i64_of (by omega) (by omega)]
        refine hag _ _ _ (by omega) ⟨i + 1, rfl, rfl, by omega, ?_⟩
        have e : (mix ks st b).list.getD i 0 = st.list.getD i 0 + (Go.Proofs.YtjeiojibnmfibaaDoor.rounds ks (sched b 64) st 64).list.getD i 0 := St.add_get _ _ hlt
        have e2 : (((mix ks st b).list.take i ++ st.list.drop i).map wv).set i (wv (st.list.getD i 0 + (Go.Proofs.YtjeiojibnmfibaaDoor.rounds ks (sched b 64) st 64).list.getD i 0)) = ((mix ks st b).list.take (i + 1) ++ st.list.drop (i + 1)).map wv := by
          rw [← List.map_set]
          congr 1
          refine take_drop_set (St.len _) (St.len _) hlt ?_
          rw [← e]
          have hl : i < (mix ks st b).list.length := by rw [St.len]; exact hlt
          simp [List.getD_eq_getElem?_getD, hl]
        rw [e2] at h
        exact h
      · have hi8 : i = 8 := by omega
        subst hi8
        have e : (mix ks st b).list.take 8 ++ st.list.drop 8 = (mix ks st b).list := rfl
        rw [e] at h
        refine ld_agg (b := b1) h (by simp [St.len]) ?_
        refine storeN_sl (b := b2) h (aggC_107).size (vs := (mix ks st b).list.map wv) (by simp [Value.cells]) (by simp [St.len]) (wv_one _) (by simp) fun w h => ?_
        have h : sat E w (pts b2 (.cells ((mix ks st b).list.map wv).toArray 107 (0, 0)) * (pts b1 (.cells ((mix ks st b).list.map wv).toArray 107 (0, 0)) * (pts b4 (.cells ((Go.Proofs.YtjeiojibnmfibaaDoor.rounds ks (sched b 64) st 64).list.map wv).toArray 107 (0, 0)) * (pts b3 (.cells ((sched b 64).map wv).toArray 121 (0, 0)) * H)))) := h
        exact res_agg (b := b2) h (by simp [St.len]) (hK _ h.drop.drop.drop.drop)
end Go.Proofs.YtjeiojibnmfibaaDoor

/-
  SHA-256 of bytes, as plain functions, and what they say of each other.
-/
set_option linter.all false
set_option maxRecDepth 10000
namespace Go.Proofs.YtjeiojibnmfibaaDoor
open Go Hold
def K0 : List UInt32 := [1116352408, 1899447441, 3049323471, 3921009573, 961987163, 1508970993, 2453635748, 2870763221, 3624381080, 310598401, 607225278, 1426881987, 1925078388, 2162078206, 2614888103, 3248222580, 3835390401, 4022224774, 264347078, 604807628, 770255983, 1249150122, 1555081692, 1996064986, 2554220882, 2821834349, 2952996808, 3210313671, 3336571891, 3584528711, 113926993, 338241895, 666307205, 773529912, 1294757372, 1396182291, 1695183700, 1986661051, 2177026350, 2456956037, 2730485921, 2820302411, 3259730800, 3345764771, 3516065817, 3600352804, 4094571909, 275423344, 430227734, 506948616, 659060556, 883997877, 958139571, 1322822218, 1537002063, 1747873779, 1955562222, 2024104815, 2227730452, 2361852424, 2428436474, 2756734187, 3204031479, 3329325298]
def st0 : St := ⟨1779033703, 3144134277, 1013904242, 2773480762, 1359893119, 2600822924, 528734635, 1541459225⟩
def fold (st : St) (m : List UInt8) : Nat → St
  | 0 => st
  | n + 1 => mix K0 (fold st m n) (m.drop (64 * n))
def lenBytes (n : Nat) : List UInt8 := (List.range 8).map fun i => UInt8.ofNat (n * 8 % 18446744073709551616 / 2 ^ (56 - 8 * i))
def padded (b : List UInt8) : List UInt8 := b ++ [128] ++ List.replicate ((119 - b.length % 64) % 64) 0 ++ lenBytes b.length
def digest4 (w : UInt32) : List UInt8 := [(w >>> UInt32.ofNat 24).toUInt8, (w >>> UInt32.ofNat 16).toUInt8, (w >>> UInt32.ofNat 8).toUInt8, w.toUInt8]
def digest (st : St) : List UInt8 := st.list.flatMap digest4
def sha (b : List UInt8) : List UInt8 := digest (fold st0 (padded b) ((padded b).length / 64))
theorem getD_take {l : List UInt8} {n i : Nat} (h : i < n) : (l.take n).getD i 0 = l.getD i 0 := by
  simp [List.getD_eq_getElem?_getD, List.getElem?_take, h]
theorem word_take {b : List UInt8} {i : Nat} (h : i < 16) : word (b.take 64) i = word b i := by
  unfold word
  rw [getD_take (by omega), getD_take (by omega), getD_take (by omega), getD_take (by omega)]
theorem sched_take {b : List UInt8} : ∀ n, sched (b.take 64) n = sched b n
  | 0 => rfl
  | n + 1 => by
    simp only [sched, sched_take n]
    by_cases h : n < 16
    · rw [if_pos h, if_pos h, word_take h]
    · rw [if_neg h, if_neg h]
theorem mix_take (ks : List UInt32) (st : St) (b : List UInt8) : mix ks st b = mix ks st (b.take 64) := by
  unfold mix; rw [sched_take]
theorem fold_congr {st : St} {a b : List UInt8} : ∀ {n : Nat}, a.take (64 * n) = b.take (64 * n) → fold st a n = fold st b n
  | 0, _ => rfl
  | n + 1, h => by
    have h1 : a.take (64 * n) = b.take (64 * n) := by
      have := congrArg (List.take (64 * n)) h
      rw [List.take_take, List.take_take] at this
      have e : min (64 * n) (64 * (n + 1)) = 64 * n := by omega
      rwa [e] at this
    have h2 : (a.drop (64 * n)).take 64 = (b.drop (64 * n)).take 64 := by
      have := congrArg (List.drop (64 * n)) h
      rw [List.drop_take, List.drop_take] at this
      have e : 64 * (n + 1) - 64 * n = 64 := by omega
      rwa [e] at this
    simp only [fold]
    rw [fold_congr h1, mix_take, h2, ← mix_take]
theorem fold_add (st : St) (m : List UInt8) (a : Nat) : ∀ k, fold (fold st m a) (m.drop (64 * a)) k = fold st m (a + k)
  | 0 => rfl
  | k + 1 => by
    rw [← Nat.add_assoc]
    simp only [fold]
    rw [fold_add st m a k, List.drop_drop, Nat.mul_add]
theorem lenBytes_length (n : Nat) : (lenBytes n).length = 8 := rfl
theorem padded_length (b : List UInt8) : (padded b).length % 64 = 0 := by
  simp [padded, lenBytes_length]; omega
theorem digest_length (st : St) : (digest st).length = 32 := rfl
theorem sha_length (b : List UInt8) : (sha b).length = 32 := digest_length _
end Go.Proofs.YtjeiojibnmfibaaDoor

/-
  Sum: the SHA-256 of bytes.
-/
set_option linter.all false
set_option maxRecDepth 10000
namespace Go.Proofs.YtjeiojibnmfibaaDoor
open Go Hold
variable {E : World0} {w : World} {H R : HP} {K : Value → World → Prop}
theorem K0_length : K0.length = 64 := rfl
theorem rounds_spec (h : sat E w H) (k : ∀ bk w', sat E w' (pts bk (.cells (K0.map wv).toArray 121 (0, 0)) * H) → K (.pointer (some ⟨bk, 0, none⟩)) w') : Calls prog 67 #[] w (Ret K) := by
  refine c67 ?_
  unfold B67
  refine pvv_of (v := .agg (K0.map wv).toArray) (fun w => by kernel_rfl) ?_
  exact box_sl h fun b1 w h => k _ _ h
theorem Rds.cutB {H : HP} {a : Option Addr} {n c : Nat} {l : List UInt8} (hb : Rds H (.slice a n c) n (l.map bv)) (hl : l.length = n) {lo : Nat} (h1 : lo ≤ n) :
    Rds H (.slice (cutA a c lo 1) (n - lo) (c - lo)) (n - lo) ((l.drop lo).map bv) := fun E w hs => by
  have := (hb E w hs).cutl (by simpa using hl) h1
  rwa [← List.map_drop] at this
theorem getIdx {l : List Value} {i : Nat} {v : Value} (h : l[i]? = some v) : l[(i : Int).toNat]? = some v := h
theorem digest_set : ∀ (st : St) (i : Nat) (x : UInt32), i < 8 → st.list[i]? = some x →
    (((((((digest st).map bv).take (4 * i) ++ List.replicate (32 - 4 * i) (bv 0)).set (4 * i) (bv (x >>> UInt32.ofNat 24).toUInt8)).set (4 * i + 1) (bv (x >>> UInt32.ofNat 16).toUInt8)).set (4 * i + 2) (bv (x >>> UInt32.ofNat 8).toUInt8)).set (4 * i + 3) (bv x.toUInt8)) = ((digest st).map bv).take (4 * (i + 1)) ++ List.replicate (32 - 4 * (i + 1)) (bv 0) := by
  intro st i x hi hx
  match i, hi with
  | 0, _ => cases hx; rfl
  | 1, _ => cases hx; rfl
  | 2, _ => cases hx; rfl
  | 3, _ => cases hx; rfl
  | 4, _ => cases hx; rfl
  | 5, _ => cases hx; rfl
  | 6, _ => cases hx; rfl
  | 7, _ => cases hx; rfl
  | n + 8, h => omega
theorem pad_take {b : List UInt8} {j : Nat} (h : 64 * j ≤ b.length) : (padded b).take (64 * j) = b.take (64 * j) := by
  unfold padded
  rw [List.append_assoc, List.append_assoc, List.take_append_of_le_length h]
theorem pad_drop {b : List UInt8} {j : Nat} (h : 64 * j ≤ b.length) : (padded b).drop (64 * j) = b.drop (64 * j) ++ [128] ++ List.replicate ((119 - b.length % 64) % 64) 0 ++ lenBytes b.length := by
  unfold padded
  rw [List.append_assoc, List.append_assoc, List.drop_append_of_le_length h, List.append_assoc, List.append_assoc]
theorem Sum_out {bh bo : Nat} {st : St} (h : sat E w (pts bh (.cells (st.list.map wv).toArray 107 (0, 0)) * (pts bo (.cells (List.replicate 32 (bv 0)).toArray 36 (0, 0)) * H)))
    (k : ∀ w', sat E w' H → K (.agg ((digest st).map bv).toArray) w') :
        ldv prog (Instr.loadAt 107 (.pointer (some ⟨bh, 0, none⟩))) w fun t_42 w =>
        lp (fun σ w again_44 => pop σ fun t_43 σ => fin σ <|
          pvv prog (binOp .lss 3 t_43 (.int .i64 8)) w fun t_45 w =>
          cd t_45 (
            pvv prog (Instr.index 107 t_42 t_43) w fun t_46 w =>
            pvv prog (binOp .mul 3 (.int .i64 4) t_43) w fun t_47 w =>
            pvv prog (binOp .mul 3 (.int .i64 4) t_43) w fun t_48 w =>
            pvv prog (binOp .add 3 t_48 (.int .i64 1)) w fun t_49 w =>
            pvv prog (binOp .mul 3 (.int .i64 4) t_43) w fun t_50 w =>
            pvv prog (binOp .add 3 t_50 (.int .i64 2)) w fun t_51 w =>
            pvv prog (binOp .mul 3 (.int .i64 4) t_43) w fun t_52 w =>
            pvv prog (binOp .add 3 t_52 (.int .i64 3)) w fun t_53 w =>
            pvv prog (binOp .shr 101 t_46 (.int .u64 24)) w fun t_54 w =>
            pvv prog (convert 101 5 t_54) w fun t_55 w =>
            pvv prog (binOp .shr 101 t_46 (.int .u64 16)) w fun t_56 w =>
            pvv prog (convert 101 5 t_56) w fun t_57 w =>
            pvv prog (binOp .shr 101 t_46 (.int .u64 8)) w fun t_58 w =>
            pvv prog (convert 101 5 t_58) w fun t_59 w =>
            pvv prog (convert 101 5 t_46) w fun t_60 w =>
            pvv prog (Instr.indexAt 36 (.pointer (some ⟨bo, 0, none⟩)) t_47) w fun t_61 w =>
            efu prog (Instr.storeAt 5 t_61 t_55) w fun u_62 w =>
            pvv prog (Instr.indexAt 36 (.pointer (some ⟨bo, 0, none⟩)) t_49) w fun t_63 w =>
            efu prog (Instr.storeAt 5 t_63 t_57) w fun u_64 w =>
            pvv prog (Instr.indexAt 36 (.pointer (some ⟨bo, 0, none⟩)) t_51) w fun t_65 w =>
            efu prog (Instr.storeAt 5 t_65 t_59) w fun u_66 w =>
            pvv prog (Instr.indexAt 36 (.pointer (some ⟨bo, 0, none⟩)) t_53) w fun t_67 w =>
            efu prog (Instr.storeAt 5 t_67 t_60) w fun u_68 w =>
            pvv prog (binOp .add 3 t_43 (.int .i64 1)) w fun t_69 w =>
            again_44 [t_69] w) <|
          ldv prog (Instr.loadAt 36 (.pointer (some ⟨bo, 0, none⟩))) w fun t_70 w =>
          efu prog (Instr.storeAt 36 (.pointer (some ⟨bo, 0, none⟩)) t_70) w fun u_71 w =>
          ∃ r_72, (do loadVar 36 (← asAddr (.pointer (some ⟨bo, 0, none⟩)))).run prog w = .ok r_72 w ∧ K r_72 w) [(.int .i64 0)] w := by
  refine ld_agg (b := bh) h (by simp [St.len]) ?_
  refine lp_nat (fun m σ w => ∃ i : Nat, σ = [.int .i64 i] ∧ m = 8 - i ∧ i ≤ 8 ∧
    sat E w (pts bo (.cells (((digest st).map bv).take (4 * i) ++ List.replicate (32 - 4 * i) (bv 0)).toArray 36 (0, 0)) * (pts bh (.cells (st.list.map wv).toArray 107 (0, 0)) * H))) 8 ⟨0, rfl, rfl, by omega, h.own bo⟩ ?_
  rintro m σ w again ⟨i, rfl, rfl, hi, h⟩ hag
  rw [pop_cons, fin_nil, o_lss]
  refine cd_dec (fun hlt => ?_) (fun hge => ?_)
  · have hlt : i < 8 := by omega
    have hx : st.list[i]? = some (st.list.getD i 0) := by
      have hl : i < st.list.length := by rw [St.len]; exact hlt
      simp [List.getD_eq_getElem?_getD, hl]
    rw [o_indexV (by simp [St.len]) (by omega) (getIdx (getwv' (by rw [St.len]; exact hlt)))]
    have e0 : IntKind.i64.wrap (4 * (i : Int)) = ((4 * i : Nat) : Int) := by rw [i64_of (by omega) (by omega)]; omega
    have e1 : IntKind.i64.wrap (((4 * i : Nat) : Int) + 1) = ((4 * i + 1 : Nat) : Int) := by rw [i64_of (by omega) (by omega)]; omega
    have e2 : IntKind.i64.wrap (((4 * i : Nat) : Int) + 2) = ((4 * i + 2 : Nat) : Int) := by rw [i64_of (by omega) (by omega)]; omega
    have e3 : IntKind.i64.wrap (((4 * i : Nat) : Int) + 3) = ((4 * i + 3 : Nat) : Int) := by rw [i64_of (by omega) (by omega)]; omega
    have ix : ∀ {j : Nat}, j < 32 → ∀ {w : World} {K : Value → World → Prop}, pvv prog (Instr.indexAt 36 (.pointer (some ⟨bo, 0, none⟩)) (.int .i64 (j : Int))) w K = K (.pointer (some ⟨bo, j, none⟩)) w := fun {j} hj {w K} => by
      rw [o_indexA (by omega) (by omega)]; simp
    simp only [e0, e1, e2, e3, ↓o_nil, ↓o_field, ↓o_add, ↓o_sub, ↓o_mul, ↓o_lss, ↓o_leq, ↓o_gtr, ↓o_geq, ↓o_not, ↓o_pick, ↓o_eqInt, ↓o_neInt, ↓o_eqBool, ↓o_neBool, ↓o_eqPtr, ↓o_nePtr, ↓o_eqPtr', ↓o_eqSl, ↓o_neSl, ↓o_eqStr, ↓o_neStr, ↓o_len, ↓o_lenS, ↓o_min, ↓o_max, ↓o_extract, ↓o_convInt, ↓cd_true, ↓cd_false, ↓gate_tt, ↓gate_ff, ↓gate_tf, ↓gate_ft, ↓gate_undef, ↓o_bind, ↓stay_v, ↓pop_cons, ↓fin_nil, Option.isNone_none, Option.isNone_some, Bool.not_true, Bool.not_false, Nat.zero_add, decide_true, decide_false, if_true, if_false, Bool.false_eq_true, ↓reduceIte]
    rw [o_shrW' (by decide) (by decide), o_convWB, o_shrW' (by decide) (by decide), o_convWB, o_shrW' (by decide) (by decide), o_convWB, o_convWB]
    simp only [ix (j := 4 * i) (by omega), ix (j := 4 * i + 1) (by omega), ix (j := 4 * i + 2) (by omega), ix (j := 4 * i + 3) (by omega)]
    have hlen : ∀ q, q < 32 → q < (((digest st).map bv).take (4 * i) ++ List.replicate (32 - 4 * i) (bv 0)).length := fun q hq => by
      simp [digest_length]; omega
    refine store_sl (b := bo) h rfl (hlen _ (by omega)) fun w h => ?_
    refine store_sl (b := bo) h rfl (by rw [List.length_set]; exact hlen _ (by omega)) fun w h => ?_
    refine store_sl (b := bo) h rfl (by rw [List.length_set, List.length_set]; exact hlen _ (by omega)) fun w h => ?_
    refine store_sl (b := bo) h rfl (by rw [List.length_set, List.length_set, List.length_set]; exact hlen _ (by omega)) fun w h => ?_
    try rw [o_add]
    rw [i64_of (by omega) (by omega)]
    refine hag _ _ _ (by omega) ⟨i + 1, rfl, rfl, by omega, ?_⟩
    have e := digest_set st i _ hlt hx
    rw [← e]
    exact h
  · have hi8 : i = 8 := by omega
    subst hi8
    have h : sat E w (pts bo (.cells ((digest st).map bv).toArray 36 (0, 0)) * (pts bh (.cells (st.list.map wv).toArray 107 (0, 0)) * H)) := by
      have e : ((digest st).map bv).take (4 * 8) ++ List.replicate (32 - 4 * 8) (bv 0) = (digest st).map bv := by
        rw [List.take_of_length_le (by simp [digest_length])]; simp
      rw [e] at h; exact h
    refine ld_agg (b := bo) h (by simp [digest_length]) ?_
    refine storeN_sl (b := bo) h (aggC_36).size (vs := (digest st).map bv) (by simp [Value.cells]) (by simp [digest_length]) (bv_one _) (by simp [digest_length]) fun w h => ?_
    have h : sat E w (pts bo (.cells ((digest st).map bv).toArray 36 (0, 0)) * (pts bh (.cells (st.list.map wv).toArray 107 (0, 0)) * H)) := by
      have e : ((digest st).map bv).take 0 ++ (digest st).map bv ++ ((digest st).map bv).drop (0 + 32) = (digest st).map bv := by
        rw [List.drop_eq_nil_of_le (by simp [digest_length])]; simp
      rw [e] at h; exact h
    exact res_agg (b := bo) h (by simp [digest_length]) (k _ h.drop.drop)
theorem Sum_rest {bh bo bk : Nat} {st : St} {ve : Value} {m : List UInt8} (hm : m.length % 64 = 0) (hml : m.length ≤ 140737488355328)
    (h : sat E w (pts bh (.cells (st.list.map wv).toArray 107 (0, 0)) * (pts bk (.cells (K0.map wv).toArray 121 (0, 0)) * (pts bo (.cells (List.replicate 32 (bv 0)).toArray 36 (0, 0)) * H))))
    (hv : Rds H ve m.length (m.map bv))
    (k : ∀ w', sat E w' H → K (.agg ((digest (fold st m (m.length / 64))).map bv).toArray) w') :
      lp (fun σ w again_35 => pop σ fun end_34 σ => fin σ <|
        pv prog (oBi .len #[72] 3 #[false] #[end_34]) w fun t_36 w =>
        pvv prog (binOp .gtr 3 t_36 (.int .i64 0)) w fun t_37 w =>
        cd t_37 (
          ldv prog (Instr.loadAt 107 (.pointer (some ⟨bh, 0, none⟩))) w fun t_38 w =>
          Calls prog 68 #[t_38, (.pointer (some ⟨bk, 0, none⟩)), end_34] w (Ret fun t_39 w =>
          efu prog (Instr.storeAt 107 (.pointer (some ⟨bh, 0, none⟩)) t_39) w fun u_40 w =>
          pvv prog (Instr.sliceAt 72 end_34 (some (.int .i64 64)) none none) w fun t_41 w =>
          again_35 [t_41] w)) <|
        ldv prog (Instr.loadAt 107 (.pointer (some ⟨bh, 0, none⟩))) w fun t_42 w =>
        lp (fun σ w again_44 => pop σ fun t_43 σ => fin σ <|
          pvv prog (binOp .lss 3 t_43 (.int .i64 8)) w fun t_45 w =>
          cd t_45 (
            pvv prog (Instr.index 107 t_42 t_43) w fun t_46 w =>
            pvv prog (binOp .mul 3 (.int .i64 4) t_43) w fun t_47 w =>
            pvv prog (binOp .mul 3 (.int .i64 4) t_43) w fun t_48 w =>
            pvv prog (binOp .add 3 t_48 (.int .i64 1)) w fun t_49 w =>
            pvv prog (binOp .mul 3 (.int .i64 4) t_43) w fun t_50 w =>
            pvv prog (binOp .add 3 t_50 (.int .i64 2)) w fun t_51 w =>
            pvv prog (binOp .mul 3 (.int .i64 4) t_43) w fun t_52 w =>
            pvv prog (binOp .add 3 t_52 (.int .i64 3)) w fun t_53 w =>
            pvv prog (binOp .shr 101 t_46 (.int .u64 24)) w fun t_54 w =>
            pvv prog (convert 101 5 t_54) w fun t_55 w =>
            pvv prog (binOp .shr 101 t_46 (.int .u64 16)) w fun t_56 w =>
            pvv prog (convert 101 5 t_56) w fun t_57 w =>
            pvv prog (binOp .shr 101 t_46 (.int .u64 8)) w fun t_58 w =>
            pvv prog (convert 101 5 t_58) w fun t_59 w =>
            pvv prog (convert 101 5 t_46) w fun t_60 w =>
            pvv prog (Instr.indexAt 36 (.pointer (some ⟨bo, 0, none⟩)) t_47) w fun t_61 w =>
            efu prog (Instr.storeAt 5 t_61 t_55) w fun u_62 w =>
            pvv prog (Instr.indexAt 36 (.pointer (some ⟨bo, 0, none⟩)) t_49) w fun t_63 w =>
            efu prog (Instr.storeAt 5 t_63 t_57) w fun u_64 w =>
            pvv prog (Instr.indexAt 36 (.pointer (some ⟨bo, 0, none⟩)) t_51) w fun t_65 w =>
            efu prog (Instr.storeAt 5 t_65 t_59) w fun u_66 w =>
            pvv prog (Instr.indexAt 36 (.pointer (some ⟨bo, 0, none⟩)) t_53) w fun t_67 w =>
            efu prog (Instr.storeAt 5 t_67 t_60) w fun u_68 w =>
            pvv prog (binOp .add 3 t_43 (.int .i64 1)) w fun t_69 w =>
            again_44 [t_69] w) <|
          ldv prog (Instr.loadAt 36 (.pointer (some ⟨bo, 0, none⟩))) w fun t_70 w =>
          efu prog (Instr.storeAt 36 (.pointer (some ⟨bo, 0, none⟩)) t_70) w fun u_71 w =>
          ∃ r_72, (do loadVar 36 (← asAddr (.pointer (some ⟨bo, 0, none⟩)))).run prog w = .ok r_72 w ∧ K r_72 w) [(.int .i64 0)] w) [ve] w := by
  obtain ⟨a, c, rfl, hc, hv, ha⟩ := hv.shape h.drop.drop.drop
  refine lp_nat (fun q σ w => ∃ j a' c', σ = [.slice a' (m.length - 64 * j) c'] ∧ q = m.length - 64 * j ∧ 64 * j ≤ m.length ∧ Rds H (.slice a' (m.length - 64 * j) c') (m.length - 64 * j) ((m.drop (64 * j)).map bv) ∧
    sat E w (pts bh (.cells ((fold st m j).list.map wv).toArray 107 (0, 0)) * (pts bk (.cells (K0.map wv).toArray 121 (0, 0)) * (pts bo (.cells (List.replicate 32 (bv 0)).toArray 36 (0, 0)) * H)))) m.length
    ⟨0, a, c, rfl, rfl, by omega, hv, h⟩ ?_
  rintro q σ w again ⟨j, a', c', rfl, rfl, hj, hr, h⟩ hag
  simp only [↓o_nil, ↓o_field, ↓o_add, ↓o_sub, ↓o_mul, ↓o_lss, ↓o_leq, ↓o_gtr, ↓o_geq, ↓o_not, ↓o_pick, ↓o_eqInt, ↓o_neInt, ↓o_eqBool, ↓o_neBool, ↓o_eqPtr, ↓o_nePtr, ↓o_eqPtr', ↓o_eqSl, ↓o_neSl, ↓o_eqStr, ↓o_neStr, ↓o_len, ↓o_lenS, ↓o_min, ↓o_max, ↓o_extract, ↓o_convInt, ↓cd_true, ↓cd_false, ↓gate_tt, ↓gate_ff, ↓gate_tf, ↓gate_ft, ↓gate_undef, ↓o_bind, ↓stay_v, ↓pop_cons, ↓fin_nil, Option.isNone_none, Option.isNone_some, Bool.not_true, Bool.not_false, Nat.zero_add, decide_true, decide_false, if_true, if_false, Bool.false_eq_true, ↓reduceIte]
  refine cd_dec (fun hlt => ?_) (fun hge => ?_)
  · refine ld_agg (b := bh) h (by simp [St.len]) ?_
    have hr2 : Rds (pts bh (.cells ((fold st m j).list.map wv).toArray 107 (0, 0)) * (pts bk (.cells (K0.map wv).toArray 121 (0, 0)) * (pts bo (.cells (List.replicate 32 (bv 0)).toArray 36 (0, 0)) * H))) (.slice a' (m.length - 64 * j) c') (m.drop (64 * j)).length ((m.drop (64 * j)).map bv) := by
      rw [List.length_drop]; exact hr.right.right.right
    refine mix_spec (bk := bk) h K0_length hr2 (by simp; omega) fun w h => ?_
    refine storeN_sl (b := bh) h (aggC_107).size (vs := (mix K0 (fold st m j) (m.drop (64 * j))).list.map wv) (by simp [Value.cells]) (by simp [St.len]) (wv_one _) (by simp [St.len]) fun w h => ?_
    rw [o_slice_l (by decide) (by omega)]
    refine hag (m.length - 64 * (j + 1)) _ _ (by omega) ⟨j + 1, cutA a' c' 64 1, c' - 64, ?_, rfl, by omega, ?_, ?_⟩
    · have e : m.length - 64 * j - (64 : Int).toNat = m.length - 64 * (j + 1) := by
        show m.length - 64 * j - 64 = _; omega
      rw [e]; rfl
    · have := Rds.cutB hr (by simp) (lo := 64) (by omega)
      rw [List.drop_drop] at this
      have e : m.length - 64 * j - 64 = m.length - 64 * (j + 1) := by omega
      rw [e, show 64 * j + 64 = 64 * (j + 1) by omega] at this
      exact this
    · exact h
  · have hj2 : j = m.length / 64 := by omega
    subst hj2
    have h : sat E w (pts bh (.cells ((fold st m (m.length / 64)).list.map wv).toArray 107 (0, 0)) * (pts bo (.cells (List.replicate 32 (bv 0)).toArray 36 (0, 0)) * H)) := h.lose bk
    exact Sum_out h k
theorem lenBytes_get {n i : Nat} (hi : i < 8) : (lenBytes n).take (i + 1) = (lenBytes n).take i ++ [UInt8.ofNat (n * 8 % 18446744073709551616 / 2 ^ (56 - 8 * i))] := by
  have hl : i < (lenBytes n).length := by rw [lenBytes_length]; exact hi
  rw [List.take_succ_eq_append_getElem hl]
  congr 2
  simp [lenBytes]
theorem Sum_len {bh bo bk : Nat} {st : St} {ve : Value} {m : List UInt8} {n N : Nat} (hN : n * 8 % 18446744073709551616 = N) (hm : (m.length + 8) % 64 = 0) (hml : m.length + 8 ≤ 140737488355328)
    (h : sat E w (osl 5 1 ve m.length (m.map bv) * (pts bh (.cells (st.list.map wv).toArray 107 (0, 0)) * (pts bk (.cells (K0.map wv).toArray 121 (0, 0)) * (pts bo (.cells (List.replicate 32 (bv 0)).toArray 36 (0, 0)) * H)))))
    (k : ∀ w', sat E w' H → K (.agg ((digest (fold st (m ++ lenBytes n) ((m ++ lenBytes n).length / 64))).map bv).toArray) w') :
    lp (fun σ w again_25 => pop σ fun end_23 σ => pop σ fun t_24 σ => fin σ <|
      pvv prog (binOp .lss 3 t_24 (.int .i64 8)) w fun t_26 w =>
      cd t_26 (
        pvv prog (binOp .mul 3 (.int .i64 8) t_24) w fun t_27 w =>
        pvv prog (binOp .sub 3 (.int .i64 56) t_27) w fun t_28 w =>
        pvv prog (binOp .shr 96 (.int .u64 (N : Int)) t_28) w fun t_29 w =>
        pvv prog (convert 96 5 t_29) w fun t_30 w =>
        efv prog (Instr.buildSlice 72 1 #[(0, t_30)]) w fun t_31 w =>
        ef prog (oBi .append #[72, 72] 72 #[false, false] #[end_23, t_31]) w fun t_32 w =>
        pvv prog (binOp .add 3 t_24 (.int .i64 1)) w fun t_33 w =>
        again_25 [t_32, t_33] w) <|
      lp (fun σ w again_35 => pop σ fun end_34 σ => fin σ <|
        pv prog (oBi .len #[72] 3 #[false] #[end_34]) w fun t_36 w =>
        pvv prog (binOp .gtr 3 t_36 (.int .i64 0)) w fun t_37 w =>
        cd t_37 (
          ldv prog (Instr.loadAt 107 (.pointer (some ⟨bh, 0, none⟩))) w fun t_38 w =>
          Calls prog 68 #[t_38, (.pointer (some ⟨bk, 0, none⟩)), end_34] w (Ret fun t_39 w =>
          efu prog (Instr.storeAt 107 (.pointer (some ⟨bh, 0, none⟩)) t_39) w fun u_40 w =>
          pvv prog (Instr.sliceAt 72 end_34 (some (.int .i64 64)) none none) w fun t_41 w =>
          again_35 [t_41] w)) <|
        ldv prog (Instr.loadAt 107 (.pointer (some ⟨bh, 0, none⟩))) w fun t_42 w =>
        lp (fun σ w again_44 => pop σ fun t_43 σ => fin σ <|
          pvv prog (binOp .lss 3 t_43 (.int .i64 8)) w fun t_45 w =>
          cd t_45 (
            pvv prog (Instr.index 107 t_42 t_43) w fun t_46 w =>
            pvv prog (binOp .mul 3 (.int .i64 4) t_43) w fun t_47 w =>
            pvv prog (binOp .mul 3 (.int .i64 4) t_43) w fun t_48 w =>
            pvv prog (binOp .add 3 t_48 (.int .i64 1)) w fun t_49 w =>
            pvv prog (binOp .mul 3 (.int .i64 4) t_43) w fun t_50 w =>
            pvv prog (binOp .add 3 t_50 (.int .i64 2)) w fun t_51 w =>
            pvv prog (binOp .mul 3 (.int .i64 4) t_43) w fun t_52 w =>
            pvv prog (binOp .add 3 t_52 (.int .i64 3)) w fun t_53 w =>
            pvv prog (binOp .shr 101 t_46 (.int .u64 24)) w fun t_54 w =>
            pvv prog (convert 101 5 t_54) w fun t_55 w =>
            pvv prog (binOp .shr 101 t_46 (.int .u64 16)) w fun t_56 w =>
            pvv prog (convert 101 5 t_56) w fun t_57 w =>
            pvv prog (binOp .shr 101 t_46 (.int .u64 8)) w fun t_58 w =>
            pvv prog (convert 101 5 t_58) w fun t_59 w =>
            pvv prog (convert 101 5 t_46) w fun t_60 w =>
            pvv prog (Instr.indexAt 36 (.pointer (some ⟨bo, 0, none⟩)) t_47) w fun t_61 w =>
            efu prog (Instr.storeAt 5 t_61 t_55) w fun u_62 w =>
            pvv prog (Instr.indexAt 36 (.pointer (some ⟨bo, 0, none⟩)) t_49) w fun t_63 w =>
            efu prog (Instr.storeAt 5 t_63 t_57) w fun u_64 w =>
            pvv prog (Instr.indexAt 36 (.pointer (some ⟨bo, 0, none⟩)) t_51) w fun t_65 w =>
            efu prog (Instr.storeAt 5 t_65 t_59) w fun u_66 w =>
            pvv prog (Instr.indexAt 36 (.pointer (some ⟨bo, 0, none⟩)) t_53) w fun t_67 w =>
            efu prog (Instr.storeAt 5 t_67 t_60) w fun u_68 w =>
            pvv prog (binOp .add 3 t_43 (.int .i64 1)) w fun t_69 w =>
            again_44 [t_69] w) <|
          ldv prog (Instr.loadAt 36 (.pointer (some ⟨bo, 0, none⟩))) w fun t_70 w =>
          efu prog (Instr.storeAt 36 (.pointer (some ⟨bo, 0, none⟩)) t_70) w fun u_71 w =>
          ∃ r_72, (do loadVar 36 (← asAddr (.pointer (some ⟨bo, 0, none⟩)))).run prog w = .ok r_72 w ∧ K r_72 w) [(.int .i64 0)] w) [end_23] w) [ve, .int .i64 0] w := by
  refine lp_nat (fun q σ w => ∃ (i : Nat) (ve : Value), σ = [ve, .int .i64 i] ∧ q = 8 - i ∧ i ≤ 8 ∧
    sat E w (osl 5 1 ve (m.length + i) ((m ++ (lenBytes n).take i).map bv) * (pts bh (.cells (st.list.map wv).toArray 107 (0, 0)) * (pts bk (.cells (K0.map wv).toArray 121 (0, 0)) * (pts bo (.cells (List.replicate 32 (bv 0)).toArray 36 (0, 0)) * H))))) 8
    ⟨0, ve, rfl, rfl, by omega, by simpa using h⟩ ?_
  rintro q σ w again ⟨i, ve, rfl, rfl, hi, h⟩ hag
  simp only [↓o_nil, ↓o_field, ↓o_add, ↓o_sub, ↓o_mul, ↓o_lss, ↓o_leq, ↓o_gtr, ↓o_geq, ↓o_not, ↓o_pick, ↓o_eqInt, ↓o_neInt, ↓o_eqBool, ↓o_neBool, ↓o_eqPtr, ↓o_nePtr, ↓o_eqPtr', ↓o_eqSl, ↓o_neSl, ↓o_eqStr, ↓o_neStr, ↓o_len, ↓o_lenS, ↓o_min, ↓o_max, ↓o_extract, ↓o_convInt, ↓cd_true, ↓cd_false, ↓gate_tt, ↓gate_ff, ↓gate_tf, ↓gate_ft, ↓gate_undef, ↓o_bind, ↓stay_v, ↓pop_cons, ↓fin_nil, Option.isNone_none, Option.isNone_some, Bool.not_true, Bool.not_false, Nat.zero_add, decide_true, decide_false, if_true, if_false, Bool.false_eq_true, ↓reduceIte]
  refine cd_dec (fun hlt => ?_) (fun hge => ?_)
  · have hlt : i < 8 := by omega
    have e0 : IntKind.i64.wrap (8 * (i : Int)) = ((8 * i : Nat) : Int) := by rw [i64_of (by omega) (by omega)]; omega
    have e1 : IntKind.i64.wrap (56 - ((8 * i : Nat) : Int)) = ((56 - 8 * i : Nat) : Int) := by rw [i64_of (by omega) (by omega)]; omega
    rw [e0, e1, o_shr (by simp [IntKind.bits]; omega), o_convInt]
    have e2 : Value.int .u8 (IntKind.u8.wrap ((N / 2 ^ (56 - 8 * i) : Nat) : Int)) = bv (UInt8.ofNat (N / 2 ^ (56 - 8 * i))) := by
      unfold bv; rw [IntKind.wrap_u8]; congr 1
    rw [e2]
    refine push_sl h rfl rfl (by omega) (by omega) fun v2 w h => ?_
    try rw [o_add]
    rw [i64_of (by omega) (by omega)]
    refine hag (8 - (i + 1)) _ _ (by omega) ⟨i + 1, v2, rfl, rfl, by omega, ?_⟩
    rw [lenBytes_get hlt, hN, ← List.append_assoc, List.map_append]
    exact h
  · have hi8 : i = 8 := by omega
    subst hi8
    have e : (lenBytes n).take 8 = lenBytes n := List.take_of_length_le (by rw [lenBytes_length]; omega)
    rw [e] at h
    have hfr := osl_freeze h
    have hfr : sat E w (pts bh (.cells (st.list.map wv).toArray 107 (0, 0)) * (pts bk (.cells (K0.map wv).toArray 121 (0, 0)) * (pts bo (.cells (List.replicate 32 (bv 0)).toArray 36 (0, 0)) * (pers (immS ve (m.length + 8) ((m ++ lenBytes n).map bv)) * H)))) := hfr.perm (by ac_rfl)
    refine Sum_rest (m := m ++ lenBytes n) (by rw [List.length_append, lenBytes_length]; exact hm) (by rw [List.length_append, lenBytes_length]; exact hml) hfr ?_ fun w h => k _ h.drop
    rw [List.length_append, lenBytes_length]
    exact Rds.pers.left
theorem Sum_spec (h : sat E w H) {v : Value} {b : List UInt8} (hb : Rds H v b.length (b.map bv)) (hl : b.length ≤ 140737488355000)
    (k : ∀ w', sat E w' H → K (.agg ((sha b).map bv).toArray) w') : Calls prog 57 #[v] w (Ret K) := by
  refine c57 ?_
  unfold B57
  refine alloc_sl h fun bo w h => ?_
  have h : sat E w (pts bo (.cells (List.replicate 32 (bv 0)).toArray 36 (0, 0)) * H) := h
  refine pvv_of (v := .agg (st0.list.map wv).toArray) (fun w => by kernel_rfl) ?_
  refine alloc_sl h fun bh w h => ?_
  have h : sat E w (pts bh (.cells (List.replicate 8 (wv 0)).toArray 107 (0, 0)) * (pts bo (.cells (List.replicate 32 (bv 0)).toArray 36 (0, 0)) * H)) := h
  refine storeN_sl (b := bh) h (aggC_107).size (vs := st0.list.map wv) (by simp [Value.cells]) (by simp [St.len]) (wv_one _) (by simp) fun w h => ?_
  have h : sat E w (pts bh (.cells (st0.list.map wv).toArray 107 (0, 0)) * (pts bo (.cells (List.replicate 32 (bv 0)).toArray 36 (0, 0)) * H)) := h
  refine rounds_spec h fun bk w h => ?_
  obtain ⟨a, c, rfl, hc, hb, ha⟩ := hb.shape (h.drop.drop.drop)
  simp only [↓o_nil, ↓o_field, ↓o_add, ↓o_sub, ↓o_mul, ↓o_lss, ↓o_leq, ↓o_gtr, ↓o_geq, ↓o_not, ↓o_pick, ↓o_eqInt, ↓o_neInt, ↓o_eqBool, ↓o_neBool, ↓o_eqPtr, ↓o_nePtr, ↓o_eqPtr', ↓o_eqSl, ↓o_neSl, ↓o_eqStr, ↓o_neStr, ↓o_len, ↓o_lenS, ↓o_min, ↓o_max, ↓o_extract, ↓o_convInt, ↓cd_true, ↓cd_false, ↓gate_tt, ↓gate_ff, ↓gate_tf, ↓gate_ft, ↓gate_undef, ↓o_bind, ↓stay_v, ↓pop_cons, ↓fin_nil, Option.isNone_none, Option.isNone_some, Bool.not_true, Bool.not_false, Nat.zero_add, decide_true, decide_false, if_true, if_false, Bool.false_eq_true, ↓reduceIte]
  have ew : IntKind.u64.wrap (b.length : Int) = (b.length : Int) := by rw [IntKind.wrap_u64]; omega
  rw [ew]
  rw [show (Value.int .u64 3) = Value.int .u64 ((3 : Nat) : Int) from rfl, o_shl (by decide)]
  have en : IntKind.u64.wrap ((b.length : Int) * 2 ^ 3) = ((b.length * 8 % 18446744073709551616 : Nat) : Int) := by rw [IntKind.wrap_u64]; omega
  rw [en]
  generalize hN : b.length * 8 % 18446744073709551616 = N
  refine lp_nat (fun m σ w => ∃ j a' c', σ = [.slice a' (b.length - 64 * j) c'] ∧ m = b.length - 64 * j ∧ 64 * j ≤ b.length ∧ Rds H (.slice a' (b.length - 64 * j) c') (b.length - 64 * j) ((b.drop (64 * j)).map bv) ∧
    sat E w (pts bh (.cells ((fold st0 b j).list.map wv).toArray 107 (0, 0)) * (pts bk (.cells (K0.map wv).toArray 121 (0, 0)) * (pts bo (.cells (List.replicate 32 (bv 0)).toArray 36 (0, 0)) * H)))) b.length
    ⟨0, a, c, rfl, rfl, by omega, hb, h.perm (by rw [star_left_comm]; rfl)⟩ ?_
  rintro m σ w again ⟨j, a', c', rfl, rfl, hj, hr, h⟩ hag
  simp only [↓o_nil, ↓o_field, ↓o_add, ↓o_sub, ↓o_mul, ↓o_lss, ↓o_leq, ↓o_gtr, ↓o_geq, ↓o_not, ↓o_pick, ↓o_eqInt, ↓o_neInt, ↓o_eqBool, ↓o_neBool, ↓o_eqPtr, ↓o_nePtr, ↓o_eqPtr', ↓o_eqSl, ↓o_neSl, ↓o_eqStr, ↓o_neStr, ↓o_len, ↓o_lenS, ↓o_min, ↓o_max, ↓o_extract, ↓o_convInt, ↓cd_true, ↓cd_false, ↓gate_tt, ↓gate_ff, ↓gate_tf, ↓gate_ft, ↓gate_undef, ↓o_bind, ↓stay_v, ↓pop_cons, ↓fin_nil, Option.isNone_none, Option.isNone_some, Bool.not_true, Bool.not_false, Nat.zero_add, decide_true, decide_false, if_true, if_false, Bool.false_eq_true, ↓reduceIte]
  refine cd_dec (fun hlt => ?_) (fun hge => ?_)
  · refine ld_agg (b := bh) h (by simp [St.len]) ?_
    have hr2 : Rds (pts bh (.cells ((fold st0 b j).list.map wv).toArray 107 (0, 0)) * (pts bk (.cells (K0.map wv).toArray 121 (0, 0)) * (pts bo (.cells (List.replicate 32 (bv 0)).toArray 36 (0, 0)) * H))) (.slice a' (b.length - 64 * j) c') (b.drop (64 * j)).length ((b.drop (64 * j)).map bv) := by
      rw [List.length_drop]; exact hr.right.right.right
    refine mix_spec (bk := bk) h K0_length hr2 (by simp; omega) fun w h => ?_
    refine storeN_sl (b := bh) h (aggC_107).size (vs := (mix K0 (fold st0 b j) (b.drop (64 * j))).list.map wv) (by simp [Value.cells]) (by simp [St.len]) (wv_one _) (by simp [St.len]) fun w h => ?_
    rw [o_slice_l (by decide) (by omega)]
    refine hag (b.length - 64 * (j + 1)) _ _ (by omega) ⟨j + 1, cutA a' c' 64 1, c' - 64, ?_, rfl, by omega, ?_, ?_⟩
    · have e : b.length - 64 * j - (64 : Int).toNat = b.length - 64 * (j + 1) := by
        show b.length - 64 * j - 64 = _; omega
      rw [e]; rfl
    · have := Rds.cutB hr (by simp) (lo := 64) (by omega)
      rw [List.drop_drop] at this
      have e : b.length - 64 * j - 64 = b.length - 64 * (j + 1) := by omega
      rw [e, show 64 * j + 64 = 64 * (j + 1) by omega] at this
      exact this
    · exact h
  · have hlt : b.length - 64 * j < 64 := by omega
    have hr2 : Rds (pts bh (.cells ((fold st0 b j).list.map wv).toArray 107 (0, 0)) * (pts bk (.cells (K0.map wv).toArray 121 (0, 0)) * (pts bo (.cells (List.replicate 32 (bv 0)).toArray 36 (0, 0)) * H))) (.slice a' (b.length - 64 * j) c') (b.drop (64 * j)).length ((b.drop (64 * j)).map bv) := by
      rw [List.length_drop]; exact hr.right.right.right
    refine Clone_spec h hr2 (by simp; omega) fun v1 w h => ?_
    refine push_sl h rfl rfl (by simp; omega) (by simp; omega) fun v2 w h => ?_
    have hlen : (b.drop (64 * j)).length = b.length - 64 * j := by simp
    rw [i64_of (by omega) (by omega), o_rem (by decide)]
    have ez : ((119 : Int) - ((b.length - 64 * j : Nat) : Int)).tmod 64 = (((119 - b.length % 64) % 64 : Nat) : Int) := by
      rw [Int.tmod_eq_emod_of_nonneg (by omega)]
      omega
    rw [ez]
    refine append_noughts h rfl (by rw [hlen]; omega) (by rw [hlen]; omega) fun v3 w h => ?_
    have em : (b.drop (64 * j)).map bv ++ [Value.int .u8 128] ++ List.replicate ((119 - b.length % 64) % 64) (Value.int .u8 0) = (b.drop (64 * j) ++ [128] ++ List.replicate ((119 - b.length % 64) % 64) 0).map bv := by
      simp [bv]
    rw [em] at h
    refine Sum_len (n := b.length) (m := b.drop (64 * j) ++ [128] ++ List.replicate ((119 - b.length % 64) % 64) 0) hN (by simp; omega) (by simp; omega) (by
      have el : (b.drop (64 * j) ++ [128] ++ List.replicate ((119 - b.length % 64) % 64) 0).length = (b.drop (64 * j)).length + 1 + (119 - b.length % 64) % 64 := by simp; omega
      rw [el]; exact h) fun w h => ?_
    have e1 := pad_drop hj
    have e2 : fold st0 b j = fold st0 (padded b) j := fold_congr (pad_take hj).symm
    rw [← e1, e2, fold_add]
    have e3 : j + ((padded b).drop (64 * j)).length / 64 = (padded b).length / 64 := by
      have h1 := padded_length b
      have h2 : b.length ≤ (padded b).length := by simp [padded]
      rw [List.length_drop]
      omega
    rw [e3]
    exact k _ h
end Go.Proofs.YtjeiojibnmfibaaDoor
