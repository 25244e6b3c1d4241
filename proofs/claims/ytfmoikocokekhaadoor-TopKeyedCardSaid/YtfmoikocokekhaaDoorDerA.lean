/-
  Bytes handed back with an error's number.
-/
import Derived.Test.YtfmoikocokekhaaDoorPB
import Derived.Test.YtfmoikocokekhaaDoorStrs
import Derived.Test.YtfmoikocokekhaaDoorCard
import Derived.Test.YtfmoikocokekhaaDoorCodC
set_option linter.all false
set_option maxRecDepth 10000
namespace Go.Proofs.YtfmoikocokekhaaDoor
open Go Hold
variable {E : World0} {w : World} {H R : HP} {K : Value → World → Prop}
theorem gettv {ps : List (List UInt8)} {i : Nat} (h : i < ps.length) : (ps.map tv)[i]? = some (tv (ps.getD i [])) := by
  simp [List.getD_eq_getElem?_getD, h]
/-- Bytes handed back: they are owned. -/
def back (K : Value → World → Prop) (E : World0) (H : HP) (x : List UInt8 × Int) : Prop := ∀ v w, sat E w (osl 5 1 v x.1.length (x.1.map bv) * H) → K (.tuple #[v, .int .i64 x.2]) w
theorem back_nil (h : sat E w H) {e : Int} (k : back K E H ([], e)) : K (.tuple #[.slice none 0 0, .int .i64 e]) w := k _ _ (osl_nil h 5 1)
end Go.Proofs.YtfmoikocokekhaaDoor

/-
  Keys of parts: the code's and the reference's.
-/
set_option linter.all false
set_option maxRecDepth 10000
namespace Go.Proofs.YtfmoikocokekhaaDoor
open Go Hold
variable {E : World0} {w : World} {H R : HP} {K : Value → World → Prop}
def enc (ps : List (List UInt8)) : List UInt8 := ps.flatMap fun p => esc p ++ [0, 1]
def key (ps : List (List UInt8)) : List UInt8 × Int :=
  if ps.length < 1 ∨ 8 < ps.length then ([], 2) else if ps.all (fun p => decide (p.length ≤ 64)) = true then (if 64 < (enc ps).length then ([], 6) else (enc ps, 0)) else ([], 6)
theorem enc_append (a b : List (List UInt8)) : enc (a ++ b) = enc a ++ enc b := by simp [enc]
theorem enc_take {ps : List (List UInt8)} {i : Nat} (h : i < ps.length) : enc (ps.take (i + 1)) = enc (ps.take i) ++ (esc (ps.getD i []) ++ [0, 1]) := by
  rw [List.take_succ_eq_append_getElem h, enc_append]
  simp [enc, List.getD_eq_getElem?_getD, h]
theorem enc_short {ps : List (List UInt8)} : ∀ i, i ≤ ps.length → (∀ j, j < i → (ps.getD j []).length ≤ 64) → (enc (ps.take i)).length ≤ 130 * i
  | 0, _, _ => by simp [enc]
  | i + 1, h, hs => by
    have ih := enc_short i (by omega) fun j hj => hs j (by omega)
    rw [enc_take (by omega)]
    have h1 := esc_length (ps.getD i [])
    have h2 := hs i (by omega)
    simp only [List.length_append, List.length_cons, List.length_nil]
    omega
theorem key_range {ps : List (List UInt8)} (h : ps.length < 1 ∨ 8 < ps.length) : key ps = ([], 2) := by unfold key; rw [if_pos h]
theorem key_long {ps : List (List UInt8)} (h : ¬ (ps.length < 1 ∨ 8 < ps.length)) {i : Nat} (hi : i < ps.length) (hl : 64 < (ps.getD i []).length) : key ps = ([], 6) := by
  unfold key
  rw [if_neg h, if_neg]
  intro ha
  have := List.all_eq_true.1 ha (ps.getD i []) (by rw [List.getD_eq_getElem?_getD, List.getElem?_eq_getElem hi]; exact List.getElem_mem hi)
  have := of_decide_eq_true this
  omega
theorem all_short {ps : List (List UInt8)} (h : ∀ j, j < ps.length → (ps.getD j []).length ≤ 64) : ps.all (fun p => decide (p.length ≤ 64)) = true := by
  refine List.all_eq_true.2 fun p hp => ?_
  obtain ⟨i, hi, rfl⟩ := List.getElem_of_mem hp
  have := h i hi
  rw [List.getD_eq_getElem?_getD, List.getElem?_eq_getElem hi] at this
  simpa using this
theorem key_done {ps : List (List UInt8)} (h : ¬ (ps.length < 1 ∨ 8 < ps.length)) (hs : ∀ j, j < ps.length → (ps.getD j []).length ≤ 64) : key ps = if 64 < (enc ps).length then ([], 6) else (enc ps, 0) := by
  unfold key
  rw [if_neg h, if_pos (all_short hs)]
theorem key_ok {ps : List (List UInt8)} (h : (key ps).2 = 0) : (key ps).1 = enc ps ∧ (enc ps).length ≤ 64 := by
  unfold key at h ⊢
  split at h
  · cases h
  · rename_i h1
    rw [if_neg h1]
    split at h
    · rename_i h2
      rw [if_pos h2]
      split at h
      · cases h
      · rename_i h3
        rw [if_neg h3]
        exact ⟨rfl, by omega⟩
    · cases h
theorem Key_spec (h : sat E w H) {v : Value} {ps : List (List UInt8)} (hp : Rds H v ps.length (ps.map tv)) (k : back K E H (key ps)) : Calls prog 11 #[v] w (Ret K) := by
  obtain ⟨a, c, rfl, hc, hp, _⟩ := hp.shape h
  refine c11 ?_
  unfold B11
  rw [o_len, o_lss]
  by_cases h1 : ps.length < 1
  · have f1 : (ps.length : Int) < 1 := by omega
    simp only [f1, ↓o_nil, ↓o_field, ↓o_add, ↓o_sub, ↓o_mul, ↓o_lss, ↓o_leq, ↓o_gtr, ↓o_geq, ↓o_not, ↓o_pick, ↓o_eqInt, ↓o_neInt, ↓o_eqBool, ↓o_neBool, ↓o_eqPtr, ↓o_nePtr, ↓o_eqPtr', ↓o_eqSl, ↓o_neSl, ↓o_eqStr, ↓o_neStr, ↓o_len, ↓o_lenS, ↓o_min, ↓o_max, ↓o_extract, ↓o_convInt, ↓cd_true, ↓cd_false, ↓gate_tt, ↓gate_ff, ↓gate_tf, ↓gate_ft, ↓gate_undef, ↓o_bind, ↓stay_v, ↓pop_cons, ↓fin_nil, Option.isNone_none, Option.isNone_some, Bool.not_true, Bool.not_false, Nat.zero_add, decide_true, decide_false, if_true, if_false, Bool.false_eq_true, ↓reduceIte]
    rw [key_range (.inl h1)] at k
    exact back_nil h k
  have f1 : ¬ (ps.length : Int) < 1 := by omega
  simp only [f1, ↓o_nil, ↓o_field, ↓o_add, ↓o_sub, ↓o_mul, ↓o_lss, ↓o_leq, ↓o_gtr, ↓o_geq, ↓o_not, ↓o_pick, ↓o_eqInt, ↓o_neInt, ↓o_eqBool, ↓o_neBool, ↓o_eqPtr, ↓o_nePtr, ↓o_eqPtr', ↓o_eqSl, ↓o_neSl, ↓o_eqStr, ↓o_neStr, ↓o_len, ↓o_lenS, ↓o_min, ↓o_max, ↓o_extract, ↓o_convInt, ↓cd_true, ↓cd_false, ↓gate_tt, ↓gate_ff, ↓gate_tf, ↓gate_ft, ↓gate_undef, ↓o_bind, ↓stay_v, ↓pop_cons, ↓fin_nil, Option.isNone_none, Option.isNone_some, Bool.not_true, Bool.not_false, Nat.zero_add, decide_true, decide_false, if_true, if_false, Bool.false_eq_true, ↓reduceIte]
  by_cases h2 : 8 < ps.length
  · have f2 : (8 : Int) < ps.length := by omega
    simp only [f2, ↓o_nil, ↓o_field, ↓o_add, ↓o_sub, ↓o_mul, ↓o_lss, ↓o_leq, ↓o_gtr, ↓o_geq, ↓o_not, ↓o_pick, ↓o_eqInt, ↓o_neInt, ↓o_eqBool, ↓o_neBool, ↓o_eqPtr, ↓o_nePtr, ↓o_eqPtr', ↓o_eqSl, ↓o_neSl, ↓o_eqStr, ↓o_neStr, ↓o_len, ↓o_lenS, ↓o_min, ↓o_max, ↓o_extract, ↓o_convInt, ↓cd_true, ↓cd_false, ↓gate_tt, ↓gate_ff, ↓gate_tf, ↓gate_ft, ↓gate_undef, ↓o_bind, ↓stay_v, ↓pop_cons, ↓fin_nil, Option.isNone_none, Option.isNone_some, Bool.not_true, Bool.not_false, Nat.zero_add, decide_true, decide_false, if_true, if_false, Bool.false_eq_true, ↓reduceIte]
    rw [key_range (.inr h2)] at k
    exact back_nil h k
  have f2 : ¬ (8 : Int) < ps.length := by omega
  simp only [f2, ↓o_nil, ↓o_field, ↓o_add, ↓o_sub, ↓o_mul, ↓o_lss, ↓o_leq, ↓o_gtr, ↓o_geq, ↓o_not, ↓o_pick, ↓o_eqInt, ↓o_neInt, ↓o_eqBool, ↓o_neBool, ↓o_eqPtr, ↓o_nePtr, ↓o_eqPtr', ↓o_eqSl, ↓o_neSl, ↓o_eqStr, ↓o_neStr, ↓o_len, ↓o_lenS, ↓o_min, ↓o_max, ↓o_extract, ↓o_convInt, ↓cd_true, ↓cd_false, ↓gate_tt, ↓gate_ff, ↓gate_tf, ↓gate_ft, ↓gate_undef, ↓o_bind, ↓stay_v, ↓pop_cons, ↓fin_nil, Option.isNone_none, Option.isNone_some, Bool.not_true, Bool.not_false, Nat.zero_add, decide_true, decide_false, if_true, if_false, Bool.false_eq_true, ↓reduceIte]
  have hk : ¬ (ps.length < 1 ∨ 8 < ps.length) := by omega
  obtain ⟨bb, o, c', hv, _, hp⟩ := hp.opened h (by simp; omega)
  cases hv
  refine lp_nat (fun q σ w => ∃ (i : Nat) (v : Value), σ = [v, .int .i64 (i : Int)] ∧ q = ps.length - i ∧ i ≤ ps.length ∧ (∀ j, j < i → (ps.getD j []).length ≤ 64) ∧ sat E w (osl 5 1 v (enc (ps.take i)).length ((enc (ps.take i)).map bv) * H)) ps.length
    ⟨0, _, rfl, rfl, by omega, fun j hj => by omega, by simpa [enc] using osl_nil h 5 1⟩ ?_
  clear h
  rintro q σ w again ⟨i, v, rfl, rfl, hi, hs, h⟩ hag
  have hes := enc_short i hi hs
  rw [pop_cons, pop_cons, fin_nil, o_lss]
  refine cd_dec (fun hlt => ?_) (fun hge => ?_)
  · have hlt : i < ps.length := by omega
    rw [o_index (by omega) (by omega)]
    refine ld_rd h hp.right i (by rw [Int.toNat_natCast]; omega) (gettv hlt) ?_
    rw [o_lenT, o_gtr]
    by_cases h3 : 64 < (ps.getD i []).length
    · have f3 : (64 : Int) < (ps.getD i []).length := by omega
      simp only [f3, ↓o_nil, ↓o_field, ↓o_add, ↓o_sub, ↓o_mul, ↓o_lss, ↓o_leq, ↓o_gtr, ↓o_geq, ↓o_not, ↓o_pick, ↓o_eqInt, ↓o_neInt, ↓o_eqBool, ↓o_neBool, ↓o_eqPtr, ↓o_nePtr, ↓o_eqPtr', ↓o_eqSl, ↓o_neSl, ↓o_eqStr, ↓o_neStr, ↓o_len, ↓o_lenS, ↓o_min, ↓o_max, ↓o_extract, ↓o_convInt, ↓cd_true, ↓cd_false, ↓gate_tt, ↓gate_ff, ↓gate_tf, ↓gate_ft, ↓gate_undef, ↓o_bind, ↓stay_v, ↓pop_cons, ↓fin_nil, Option.isNone_none, Option.isNone_some, Bool.not_true, Bool.not_false, Nat.zero_add, decide_true, decide_false, if_true, if_false, Bool.false_eq_true, ↓reduceIte]
      rw [key_long hk hlt h3] at k
      exact back_nil h.drop k
    · have f3 : ¬ (64 : Int) < (ps.getD i []).length := by omega
      simp only [f3, ↓o_nil, ↓o_field, ↓o_add, ↓o_sub, ↓o_mul, ↓o_lss, ↓o_leq, ↓o_gtr, ↓o_geq, ↓o_not, ↓o_pick, ↓o_eqInt, ↓o_neInt, ↓o_eqBool, ↓o_neBool, ↓o_eqPtr, ↓o_nePtr, ↓o_eqPtr', ↓o_eqSl, ↓o_neSl, ↓o_eqStr, ↓o_neStr, ↓o_len, ↓o_lenS, ↓o_min, ↓o_max, ↓o_extract, ↓o_convInt, ↓cd_true, ↓cd_false, ↓gate_tt, ↓gate_ff, ↓gate_tf, ↓gate_ft, ↓gate_undef, ↓o_bind, ↓stay_v, ↓pop_cons, ↓fin_nil, Option.isNone_none, Option.isNone_some, Bool.not_true, Bool.not_false, Nat.zero_add, decide_true, decide_false, if_true, if_false, Bool.false_eq_true, ↓reduceIte]
      have hel := esc_length (ps.getD i [])
      refine Replace_spec h (by omega) fun w h => ?_
      refine append_str (v := v) h (by omega) fun v2 w h => ?_
      refine buildSlice_sl (e := 5) (cs := #[bv 0, bv 1]) h (fun w => by kernel_rfl) fun b1 w h => ?_
      refine append_sl (v := v2) h [bv 0, bv 1] rfl (.inr ⟨b1, 0, _, 5, (0, 0), rfl, h.pts_get, fun j v hj => by simpa using hj⟩) (bv_one [0, 1]) (by omega) (by omega) fun v3 w h => ?_
      have h := h.lose b1
      (try rw [o_add]); rw [i64_of (by omega) (by omega)]
      refine hag (ps.length - (i + 1)) _ _ (by omega) ⟨i + 1, v3, rfl, rfl, by omega, fun j hj => ?_, ?_⟩
      · by_cases c1 : j < i
        · exact hs j c1
        · rw [show j = i by omega]; omega
      · rw [enc_take hlt]
        have e : (enc (ps.take i)).map bv ++ (esc (ps.getD i [])).map bv ++ [bv 0, bv 1] = (enc (ps.take i) ++ (esc (ps.getD i []) ++ [0, 1])).map bv := by simp
        have e2 : (enc (ps.take i)).length + (esc (ps.getD i [])).length + 2 = (enc (ps.take i) ++ (esc (ps.getD i []) ++ [0, 1])).length := by simp; omega
        rw [e, e2] at h
        exact h
  · have hi2 : i = ps.length := by omega
    subst hi2
    rw [List.take_length] at h hes
    obtain ⟨a2, c2, rfl, _, _, _⟩ := osl_shape h
    (try rw [o_len]); (try rw [o_gtr])
    rw [key_done hk hs] at k
    by_cases h4 : 64 < (enc ps).length
    · have f4 : (64 : Int) < (enc ps).length := by omega
      simp only [f4, ↓o_nil, ↓o_field, ↓o_add, ↓o_sub, ↓o_mul, ↓o_lss, ↓o_leq, ↓o_gtr, ↓o_geq, ↓o_not, ↓o_pick, ↓o_eqInt, ↓o_neInt, ↓o_eqBool, ↓o_neBool, ↓o_eqPtr, ↓o_nePtr, ↓o_eqPtr', ↓o_eqSl, ↓o_neSl, ↓o_eqStr, ↓o_neStr, ↓o_len, ↓o_lenS, ↓o_min, ↓o_max, ↓o_extract, ↓o_convInt, ↓cd_true, ↓cd_false, ↓gate_tt, ↓gate_ff, ↓gate_tf, ↓gate_ft, ↓gate_undef, ↓o_bind, ↓stay_v, ↓pop_cons, ↓fin_nil, Option.isNone_none, Option.isNone_some, Bool.not_true, Bool.not_false, Nat.zero_add, decide_true, decide_false, if_true, if_false, Bool.false_eq_true, ↓reduceIte]
      rw [if_pos h4] at k
      exact back_nil h.drop k
    · have f4 : ¬ (64 : Int) < (enc ps).length := by omega
      simp only [f4, ↓o_nil, ↓o_field, ↓o_add, ↓o_sub, ↓o_mul, ↓o_lss, ↓o_leq, ↓o_gtr, ↓o_geq, ↓o_not, ↓o_pick, ↓o_eqInt, ↓o_neInt, ↓o_eqBool, ↓o_neBool, ↓o_eqPtr, ↓o_nePtr, ↓o_eqPtr', ↓o_eqSl, ↓o_neSl, ↓o_eqStr, ↓o_neStr, ↓o_len, ↓o_lenS, ↓o_min, ↓o_max, ↓o_extract, ↓o_convInt, ↓cd_true, ↓cd_false, ↓gate_tt, ↓gate_ff, ↓gate_tf, ↓gate_ft, ↓gate_undef, ↓o_bind, ↓stay_v, ↓pop_cons, ↓fin_nil, Option.isNone_none, Option.isNone_some, Bool.not_true, Bool.not_false, Nat.zero_add, decide_true, decide_false, if_true, if_false, Bool.false_eq_true, ↓reduceIte]
      rw [if_neg h4] at k
      exact k _ _ h
theorem esc_take {s : List UInt8} {i : Nat} (h : i < s.length) : esc (s.take (i + 1)) = esc (s.take i) ++ esc1 (s.getD i 0) := by
  rw [List.take_succ_eq_append_getElem h, esc_append]
  simp [esc, List.getD_eq_getElem?_getD, h]
end Go.Proofs.YtfmoikocokekhaaDoor

/-
  Keys below a key; links of a chain, the reference's.
-/
set_option linter.all false
set_option maxRecDepth 10000
namespace Go.Proofs.YtfmoikocokekhaaDoor
open Go Hold
variable {E : World0} {w : World} {H R : HP} {K : Value → World → Prop}
def zeros32 : List UInt8 := List.replicate 32 0
def derive (k : List UInt8) (ls : List (List UInt8)) : List UInt8 × Int := if (key ls).2 = 0 then (tag k (key ls).1, 0) else (zeros32, (key ls).2)
theorem derive_length (k : List UInt8) (ls : List (List UInt8)) : (derive k ls).1.length = 32 := by
  unfold derive; split
  · exact tag_length _ _
  · rfl
theorem key_le (ls : List (List UInt8)) : (key ls).1.length ≤ 64 := by
  unfold key
  split
  · simp
  · split
    · split
      · simp
      · simp only; omega
    · simp
theorem hash_ret2 (h : sat E w H) {b : Nat} {l ol : List UInt8} {e : Int} (hl : l.length = 32) (hol : ol.length = 32) [Own H b (.cells (ol.map bv).toArray 23 (0, 0)) R]
    (k : ∀ w', sat E w' (pts b (.cells (l.map bv).toArray 23 (0, 0)) * R) → K (.tuple #[.agg (l.map bv).toArray, .int .i64 e]) w') :
    efu prog (Instr.storeAt 23 (.pointer (some ⟨b, 0, none⟩)) (.agg (l.map bv).toArray)) w fun _ w =>
      ∃ r, (do loadVar 23 (← asAddr (.pointer (some ⟨b, 0, none⟩)))).run prog w = .ok r w ∧ K (.tuple #[r, .int .i64 e]) w :=
  hash_ret (K := fun r w => K (.tuple #[r, .int .i64 e]) w) h hl hol k
theorem zeros_build {K : Value → World → Prop} (k : K (.agg (zeros32.map bv).toArray) w) : pvv prog (Instr.build 23 #[]) w K := pvv_of (fun w => by kernel_rfl) k
theorem Derive_spec (h : sat E w H) {l : List UInt8} (hl : l.length = 32) {v : Value} {ls : List (List UInt8)} (hp : Rds H v ls.length (ls.map tv))
    (k : ∀ w', sat E w' H → K (.tuple #[.agg ((derive l ls).1.map bv).toArray, .int .i64 (derive l ls).2]) w') : Calls prog 4 #[.agg (l.map bv).toArray, v] w (Ret K) := by
  refine c4 ?_
  unfold B4
  refine box_sl h fun b1 w h => ?_
  have h : sat E w (pts b1 (.cells (l.map bv).toArray 23 (0, 0)) * H) := h
  refine alloc_sl h fun b0 w h => ?_
  have h : sat E w (pts b0 (.cells (zeros32.map bv).toArray 23 (0, 0)) * (pts b1 (.cells (l.map bv).toArray 23 (0, 0)) * H)) := h
  refine Key_spec h hp.right.right fun v2 w h => ?_
  rw [o_extract, o_extract]
  rw [o_neInt]
  have hkl := key_le ls
  refine cd_dec' (fun heq => ?_) (fun hne => ?_)
  · have e : derive l ls = (tag l (key ls).1, 0) := by unfold derive; rw [if_pos heq]
    rw [e] at k
    rw [o_sliceA]
    refine Tag_spec h (key := l) (b := (key ls).1) (by rw [hl]; exact rds_block (b := b1) (Nat.le_refl _)) Rds.osl.left (by omega) (by omega) fun w h => ?_
    refine hash_ret2 (b := b0) h (tag_length _ _) (ol := zeros32) rfl fun w h => ?_
    exact k _ h.drop.drop.drop
  · have e : derive l ls = (zeros32, (key ls).2) := by unfold derive; rw [if_neg hne]
    rw [e] at k
    refine zeros_build ?_
    refine hash_ret2 (b := b0) h (l := zeros32) rfl (ol := zeros32) rfl fun w h => ?_
    exact k _ h.drop.drop.drop
theorem eq23 {a b : List UInt8} (ha : a.length = 32) (hb : b.length = 32) {xo yo : Operand} {K : Value → World → Prop} : pvv prog (oEq .eql 23 xo yo (.agg (a.map bv).toArray) (.agg (b.map bv).toArray)) w K = K (.bool (a == b)) w := o_eqArr (n := 32) (by kernel_rfl) ha hb
end Go.Proofs.YtfmoikocokekhaaDoor
