/-
  Bytes handed back with an error's number.
-/
import Derived.Test.YtmnaalpjhkkglaaGreatDoorPB
import Derived.Test.YtmnaalpjhkkglaaGreatDoorStrs
import Derived.Test.YtmnaalpjhkkglaaGreatDoorCard
import Derived.Test.YtmnaalpjhkkglaaGreatDoorCodC
import Derived.Test.YtmnaalpjhkkglaaGreatDoorPar
set_option linter.all false
set_option maxRecDepth 10000
namespace Go.Proofs.YtmnaalpjhkkglaaGreatDoor
open Go Hold
variable {E : World0} {w : World} {H R : HP} {K : Value → World → Prop}
theorem gettv {ps : List (List UInt8)} {i : Nat} (h : i < ps.length) : (ps.map tv)[i]? = some (tv (ps.getD i [])) := by
  simp [List.getD_eq_getElem?_getD, h]
/-- Bytes handed back: they are owned. -/
def back (K : Value → World → Prop) (E : World0) (H : HP) (x : List UInt8 × Int) : Prop := ∀ v w, sat E w (osl 5 1 v x.1.length (x.1.map bv) * H) → K (.tuple #[v, .int .i64 x.2]) w
theorem back_nil (h : sat E w H) {e : Int} (k : back K E H ([], e)) : K (.tuple #[.slice none 0 0, .int .i64 e]) w := k _ _ (osl_nil h 5 1)
end Go.Proofs.YtmnaalpjhkkglaaGreatDoor

/-
  Keys of parts: the code's and the reference's.
-/
set_option linter.all false
set_option maxRecDepth 10000
namespace Go.Proofs.YtmnaalpjhkkglaaGreatDoor
open Go Hold
variable {E : World0} {w : World} {H R : HP} {K : Value → World → Prop}
def enc (ps : List (List UInt8)) : List UInt8 := ps.flatMap fun p => esc p ++ [0, 1]
def key (ps : List (List UInt8)) : List UInt8 × Int :=
  if ps.length < 1 ∨ 8 < ps.length then ([], 2) else if ps.all (fun p => decide (p.length ≤ 64)) = true then (if 64 < (enc ps).length then ([], 6) else (enc ps, 0)) else ([], 6)
theorem enc_append (a b : List (List UInt8)) : enc (a ++ b) = enc a ++ enc b := by simp [enc]
theorem enc_take {ps : List (List UInt8)} {i : Nat} (h : i < ps.length) : enc (ps.take (i + 1)) = enc (ps.take i) ++ (esc (ps.getD i []) ++ [0, 1]) := by
  rw [List.take_succ_eq_append_getElem h, enc_append]
  simp [enc, List.getD_eq_getElem?_getD, h]
theorem enc_short {ps : List (List UInt8)} : ∀ i, i ≤ ps.length → (∀ j, j < i → (ps.getD j []).length ≤ 64) → (enc (ps.take i)).length ≤ 130 * i
  | 0, _, _ => by simp [enc]
  | i + 1, h, hs => by
    have ih := enc_short i (by omega) fun j hj => hs j (by omega)
    rw [enc_take (by omega)]
    have h1 := esc_length (ps.getD i [])
    have h2 := hs i (by omega)
    simp only [List.length_append, List.length_cons, List.length_nil]
    omega
theorem key_range {ps : List (List UInt8)} (h : ps.length < 1 ∨ 8 < ps.length) : key ps = ([], 2) := by unfold key; rw [if_pos h]
theorem key_long {ps : List (List UInt8)} (h : ¬ (ps.length < 1 ∨ 8 < ps.length)) {i : Nat} (hi : i < ps.length) (hl : 64 < (ps.getD i []).length) : key ps = ([], 6) := by
  unfold key
  rw [if_neg h, if_neg]
  intro ha
  have := List.all_eq_true.1 ha (ps.getD i []) (by rw [List.getD_eq_getElem?_getD, List.getElem?_eq_getElem hi]; exact List.getElem_mem hi)
  have := of_decide_eq_true this
  omega
theorem all_short {ps : List (List UInt8)} (h : ∀ j, j < ps.length → (ps.getD j []).length ≤ 64) : ps.all (fun p => decide (p.length ≤ 64)) = true := by
  refine List.all_eq_true.2 fun p hp => ?_
  obtain ⟨i, hi, rfl⟩ := List.getElem_of_mem hp
  have := h i hi
  rw [List.getD_eq_getElem?_getD, List.getElem?_eq_getElem hi] at this
  simpa using this
theorem key_done {ps : List (List UInt8)} (h : ¬ (ps.length < 1 ∨ 8 < ps.length)) (hs : ∀ j, j < ps.length → (ps.getD j []).length ≤ 64) : key ps = if 64 < (enc ps).length then ([], 6) else (enc ps, 0) := by
  unfold key
  rw [if_neg h, if_pos (all_short hs)]
theorem key_ok {ps : List (List UInt8)} (h : (key ps).2 = 0) : (key ps).1 = enc ps ∧ (enc ps).length ≤ 64 := by
  unfold key at h ⊢
  split at h
  · cases h
  · rename_i h1
    rw [if_neg h1]
    split at h
    · rename_i h2
      rw [if_pos h2]
      split at h
      · cases h
      · rename_i h3
        rw [if_neg h3]
        exact ⟨rfl, by omega⟩
    · cases h
theorem Key_spec (h : sat E w H) {v : Value} {ps : List (List UInt8)} (hp : Rds H v ps.length (ps.map tv)) (k : back K E H (key ps)) : Calls prog 72 #[v] w (Ret K) := by
  obtain ⟨a, c, rfl, hc, hp, _⟩ := hp.shape h
  refine c72 ?_
  unfold B72
  rw [o_len, o_lss]
  by_cases h1 : ps.length < 1
  · have f1 : (ps.length : Int) < 1 := by omega
    simp only [f1, ↓o_nil, ↓o_field, ↓o_add, ↓o_sub, ↓o_mul, ↓o_lss, ↓o_leq, ↓o_gtr, ↓o_geq, ↓o_not, ↓o_pick, ↓o_eqInt, ↓o_neInt, ↓o_eqBool, ↓o_neBool, ↓o_eqPtr, ↓o_nePtr, ↓o_eqPtr', ↓o_eqSl, ↓o_neSl, ↓o_eqStr, ↓o_neStr, ↓o_len, ↓o_lenS, ↓o_min, ↓o_max, ↓o_extract, ↓o_convInt, ↓cd_true, ↓cd_false, ↓gate_tt, ↓gate_ff, ↓gate_tf, ↓gate_ft, ↓gate_undef, ↓o_bind, ↓stay_v, ↓pop_cons, ↓fin_nil, Option.isNone_none, Option.isNone_some, Bool.not_true, Bool.not_false, Nat.zero_add, decide_true, decide_false, if_true, if_false, Bool.false_eq_true, ↓reduceIte]
    rw [key_range (.inl h1)] at k
    exact back_nil h k
  have f1 : ¬ (ps.length : Int) < 1 := by omega
  simp only [f1, ↓o_nil, ↓o_field, ↓o_add, ↓o_sub, ↓o_mul, ↓o_lss, ↓o_leq, ↓o_gtr, ↓o_geq, ↓o_not, ↓o_pick, ↓o_eqInt, ↓o_neInt, ↓o_eqBool, ↓o_neBool, ↓o_eqPtr, ↓o_nePtr, ↓o_eqPtr', ↓o_eqSl, ↓o_neSl, ↓o_eqStr, ↓o_neStr, ↓o_len, ↓o_lenS, ↓o_min, ↓o_max, ↓o_extract, ↓o_convInt, ↓cd_true, ↓cd_false, ↓gate_tt, ↓gate_ff, ↓gate_tf, ↓gate_ft, ↓gate_undef, ↓o_bind, ↓stay_v, ↓pop_cons, ↓fin_nil, Option.isNone_none, Option.isNone_some, Bool.not_true, Bool.not_false, Nat.zero_add, decide_true, decide_false, if_true, if_false, Bool.false_eq_true, ↓reduceIte]
  by_cases h2 : 8 < ps.length
  · have f2 : (8 : Int) < ps.length := by omega
    simp only [f2, ↓o_nil, ↓o_field, ↓o_add, ↓o_sub, ↓o_mul, ↓o_lss, ↓o_leq, ↓o_gtr, ↓o_geq, ↓o_not, ↓o_pick, ↓o_eqInt, ↓o_neInt, ↓o_eqBool, ↓o_neBool, ↓o_eqPtr, ↓o_nePtr, ↓o_eqPtr', ↓o_eqSl, ↓o_neSl, ↓o_eqStr, ↓o_neStr, ↓o_len, ↓o_lenS, ↓o_min, ↓o_max, ↓o_extract, ↓o_convInt, ↓cd_true, ↓cd_false, ↓gate_tt, ↓gate_ff, ↓gate_tf, ↓gate_ft, ↓gate_undef, ↓o_bind, ↓stay_v, ↓pop_cons, ↓fin_nil, Option.isNone_none, Option.isNone_some, Bool.not_true, Bool.not_false, Nat.zero_add, decide_true, decide_false, if_true, if_false, Bool.false_eq_true, ↓reduceIte]
    rw [key_range (.inr h2)] at k
    exact back_nil h k
  have f2 : ¬ (8 : Int) < ps.length := by omega
  simp only [f2, ↓o_nil, ↓o_field, ↓o_add, ↓o_sub, ↓o_mul, ↓o_lss, ↓o_leq, ↓o_gtr, ↓o_geq, ↓o_not, ↓o_pick, ↓o_eqInt, ↓o_neInt, ↓o_eqBool, ↓o_neBool, ↓o_eqPtr, ↓o_nePtr, ↓o_eqPtr', ↓o_eqSl, ↓o_neSl, ↓o_eqStr, ↓o_neStr, ↓o_len, ↓o_lenS, ↓o_min, ↓o_max, ↓o_extract, ↓o_convInt, ↓cd_true, ↓cd_false, ↓gate_tt, ↓gate_ff, ↓gate_tf, ↓gate_ft, ↓gate_undef, ↓o_bind, ↓stay_v, ↓pop_cons, ↓fin_nil, Option.isNone_none, Option.isNone_some, Bool.not_true, Bool.not_false, Nat.zero_add, decide_true, decide_false, if_true, if_false, Bool.false_eq_true, ↓reduceIte]
  have hk : ¬ (ps.length < 1 ∨ 8 < ps.length) := by omega
  obtain ⟨bb, o, c', hv, _, hp⟩ := hp.opened h (by simp; omega)
  cases hv
  refine lp_nat (fun q σ w => ∃ (i : Nat) (v : Value), σ = [v, .int .i64 (i : Int)] ∧ q = ps.length - i ∧ i ≤ ps.length ∧ (∀ j, j < i → (ps.getD j []).length ≤ 64) ∧ sat E w (osl 5 1 v (enc (ps.take i)).length ((enc (ps.take i)).map bv) * H)) ps.length
    ⟨0, _, rfl, rfl, by omega, fun j hj => by omega, by simpa [enc] using osl_nil h 5 1⟩ ?_
  clear h
  rintro q σ w again ⟨i, v, rfl, rfl, hi, hs, h⟩ hag
  have hes := enc_short i hi hs
  rw [pop_cons, pop_cons, fin_nil, o_lss]
  refine cd_dec (fun hlt => ?_) (fun hge => ?_)
  · have hlt : i < ps.length := by omega
    rw [o_index (by omega) (by omega)]
    refine ld_rd h hp.right i (by rw [Int.toNat_natCast]; omega) (gettv hlt) ?_
    rw [o_lenT, o_gtr]
    by_cases h3 : 64 < (ps.getD i []).length
    · have f3 : (64 : Int) < (ps.getD i []).length := by omega
      simp only [f3, ↓o_nil, ↓o_field, ↓o_add, ↓o_sub, ↓o_mul, ↓o_lss, ↓o_leq, ↓o_gtr, ↓o_geq, ↓o_not, ↓o_pick, ↓o_eqInt, ↓o_neInt, ↓o_eqBool, ↓o_neBool, ↓o_eqPtr, ↓o_nePtr, ↓o_eqPtr', ↓o_eqSl, ↓o_neSl, ↓o_eqStr, ↓o_neStr, ↓o_len, ↓o_lenS, ↓o_min, ↓o_max, ↓o_extract, ↓o_convInt, ↓cd_true, ↓cd_false, ↓gate_tt, ↓gate_ff, ↓gate_tf, ↓gate_ft, ↓gate_undef, ↓o_bind, ↓stay_v, ↓pop_cons, ↓fin_nil, Option.isNone_none, Option.isNone_some, Bool.not_true, Bool.not_false, Nat.zero_add, decide_true, decide_false, if_true, if_false, Bool.false_eq_true, ↓reduceIte]
      rw [key_long hk hlt h3] at k
      exact back_nil h.drop k
    · have f3 : ¬ (64 : Int) < (ps.getD i []).length := by omega
      simp only [f3, ↓o_nil, ↓o_field, ↓o_add, ↓o_sub, ↓o_mul, ↓o_lss, ↓o_leq, ↓o_gtr, ↓o_geq, ↓o_not, ↓o_pick, ↓o_eqInt, ↓o_neInt, ↓o_eqBool, ↓o_neBool, ↓o_eqPtr, ↓o_nePtr, ↓o_eqPtr', ↓o_eqSl, ↓o_neSl, ↓o_eqStr, ↓o_neStr, ↓o_len, ↓o_lenS, ↓o_min, ↓o_max, ↓o_extract, ↓o_convInt, ↓cd_true, ↓cd_false, ↓gate_tt, ↓gate_ff, ↓gate_tf, ↓gate_ft, ↓gate_undef, ↓o_bind, ↓stay_v, ↓pop_cons, ↓fin_nil, Option.isNone_none, Option.isNone_some, Bool.not_true, Bool.not_false, Nat.zero_add, decide_true, decide_false, if_true, if_false, Bool.false_eq_true, ↓reduceIte]
      have hel := esc_length (ps.getD i [])
      refine Replace_spec h (by omega) fun w h => ?_
      refine append_str (v := v) h (by omega) fun v2 w h => ?_
      refine buildSlice_sl (e := 5) (cs := #[bv 0, bv 1]) h (fun w => by kernel_rfl) fun b1 w h => ?_
      refine append_sl (v := v2) h [bv 0, bv 1] rfl (.inr ⟨b1, 0, _, 5, (0, 0), rfl, h.pts_get, fun j v hj => by simpa using hj⟩) (bv_one [0, 1]) (by omega) (by omega) fun v3 w h => ?_
      have h := h.lose b1
      (try rw [o_add]); rw [i64_of (by omega) (by omega)]
      refine hag (ps.length - (i + 1)) _ _ (by omega) ⟨i + 1, v3, rfl, rfl, by omega, fun j hj => ?_, ?_⟩
      · by_cases c1 : j < i
        · exact hs j c1
        · rw [show j = i by omega]; omega
      · rw [enc_take hlt]
        have e : (enc (ps.take i)).map bv ++ (esc (ps.getD i [])).map bv ++ [bv 0, bv 1] = (enc (ps.take i) ++ (esc (ps.getD i []) ++ [0, 1])).map bv := by simp
        have e2 : (enc (ps.take i)).length + (esc (ps.getD i [])).length + 2 = (enc (ps.take i) ++ (esc (ps.getD i []) ++ [0, 1])).length := by simp; omega
        rw [e, e2] at h
        exact h
  · have hi2 : i = ps.length := by omega
    subst hi2
    rw [List.take_length] at h hes
    obtain ⟨a2, c2, rfl, _, _, _⟩ := osl_shape h
    (try rw [o_len]); (try rw [o_gtr])
    rw [key_done hk hs] at k
    by_cases h4 : 64 < (enc ps).length
    · have f4 : (64 : Int) < (enc ps).length := by omega
      simp only [f4, ↓o_nil, ↓o_field, ↓o_add, ↓o_sub, ↓o_mul, ↓o_lss, ↓o_leq, ↓o_gtr, ↓o_geq, ↓o_not, ↓o_pick, ↓o_eqInt, ↓o_neInt, ↓o_eqBool, ↓o_neBool, ↓o_eqPtr, ↓o_nePtr, ↓o_eqPtr', ↓o_eqSl, ↓o_neSl, ↓o_eqStr, ↓o_neStr, ↓o_len, ↓o_lenS, ↓o_min, ↓o_max, ↓o_extract, ↓o_convInt, ↓cd_true, ↓cd_false, ↓gate_tt, ↓gate_ff, ↓gate_tf, ↓gate_ft, ↓gate_undef, ↓o_bind, ↓stay_v, ↓pop_cons, ↓fin_nil, Option.isNone_none, Option.isNone_some, Bool.not_true, Bool.not_false, Nat.zero_add, decide_true, decide_false, if_true, if_false, Bool.false_eq_true, ↓reduceIte]
      rw [if_pos h4] at k
      exact back_nil h.drop k
    · have f4 : ¬ (64 : Int) < (enc ps).length := by omega
      simp only [f4, ↓o_nil, ↓o_field, ↓o_add, ↓o_sub, ↓o_mul, ↓o_lss, ↓o_leq, ↓o_gtr, ↓o_geq, ↓o_not, ↓o_pick, ↓o_eqInt, ↓o_neInt, ↓o_eqBool, ↓o_neBool, ↓o_eqPtr, ↓o_nePtr, ↓o_eqPtr', ↓o_eqSl, ↓o_neSl, ↓o_eqStr, ↓o_neStr, ↓o_len, ↓o_lenS, ↓o_min, ↓o_max, ↓o_extract, ↓o_convInt, ↓cd_true, ↓cd_false, ↓gate_tt, ↓gate_ff, ↓gate_tf, ↓gate_ft, ↓gate_undef, ↓o_bind, ↓stay_v, ↓pop_cons, ↓fin_nil, Option.isNone_none, Option.isNone_some, Bool.not_true, Bool.not_false, Nat.zero_add, decide_true, decide_false, if_true, if_false, Bool.false_eq_true, ↓reduceIte]
      rw [if_neg h4] at k
      exact k _ _ h
theorem esc_take {s : List UInt8} {i : Nat} (h : i < s.length) : esc (s.take (i + 1)) = esc (s.take i) ++ esc1 (s.getD i 0) := by
  rw [List.take_succ_eq_append_getElem h, esc_append]
  simp [esc, List.getD_eq_getElem?_getD, h]
end Go.Proofs.YtmnaalpjhkkglaaGreatDoor

/-
  Keys below a key; links of a chain, the reference's.
-/
set_option linter.all false
set_option maxRecDepth 10000
namespace Go.Proofs.YtmnaalpjhkkglaaGreatDoor
open Go Hold
variable {E : World0} {w : World} {H R : HP} {K : Value → World → Prop}
def hzeros32 : List UInt8 := List.replicate 32 0
def derive (k : List UInt8) (ls : List (List UInt8)) : List UInt8 × Int := if (key ls).2 = 0 then (tag k (key ls).1, 0) else (hzeros32, (key ls).2)
theorem derive_length (k : List UInt8) (ls : List (List UInt8)) : (derive k ls).1.length = 32 := by
  unfold derive; split
  · exact tag_length _ _
  · rfl
theorem key_le (ls : List (List UInt8)) : (key ls).1.length ≤ 64 := by
  unfold key
  split
  · simp
  · split
    · split
      · simp
      · simp only; omega
    · simp
theorem hash_ret2 (h : sat E w H) {b : Nat} {l ol : List UInt8} {e : Int} (hl : l.length = 32) (hol : ol.length = 32) [Own H b (.cells (ol.map bv).toArray 28 (0, 0)) R]
    (k : ∀ w', sat E w' (pts b (.cells (l.map bv).toArray 28 (0, 0)) * R) → K (.tuple #[.agg (l.map bv).toArray, .int .i64 e]) w') :
    efu prog (Instr.storeAt 28 (.pointer (some ⟨b, 0, none⟩)) (.agg (l.map bv).toArray)) w fun _ w =>
      ∃ r, (do loadVar 28 (← asAddr (.pointer (some ⟨b, 0, none⟩)))).run prog w = .ok r w ∧ K (.tuple #[r, .int .i64 e]) w :=
  hash_ret (K := fun r w => K (.tuple #[r, .int .i64 e]) w) h hl hol k
theorem zeros_build {K : Value → World → Prop} (k : K (.agg (hzeros32.map bv).toArray) w) : pvv prog (Instr.build 28 #[]) w K := pvv_of (fun w => by kernel_rfl) k
theorem Derive_spec (h : sat E w H) {l : List UInt8} (hl : l.length = 32) {v : Value} {ls : List (List UInt8)} (hp : Rds H v ls.length (ls.map tv))
    (k : ∀ w', sat E w' H → K (.tuple #[.agg ((derive l ls).1.map bv).toArray, .int .i64 (derive l ls).2]) w') : Calls prog 54 #[.agg (l.map bv).toArray, v] w (Ret K) := by
  refine c54 ?_
  unfold B54
  refine box_sl h fun b1 w h => ?_
  have h : sat E w (pts b1 (.cells (l.map bv).toArray 28 (0, 0)) * H) := h
  refine alloc_sl h fun b0 w h => ?_
  have h : sat E w (pts b0 (.cells (hzeros32.map bv).toArray 28 (0, 0)) * (pts b1 (.cells (l.map bv).toArray 28 (0, 0)) * H)) := h
  refine Key_spec h hp.right.right fun v2 w h => ?_
  rw [o_extract, o_extract]
  rw [o_neInt]
  have hkl := key_le ls
  refine cd_dec' (fun heq => ?_) (fun hne => ?_)
  · have e : derive l ls = (tag l (key ls).1, 0) := by unfold derive; rw [if_pos heq]
    rw [e] at k
    rw [o_sliceA]
    refine Tag_spec h (key := l) (b := (key ls).1) (by rw [hl]; exact rds_block (b := b1) (Nat.le_refl _)) Rds.osl.left (by omega) (by omega) fun w h => ?_
    refine hash_ret2 (b := b0) h (tag_length _ _) (ol := hzeros32) rfl fun w h => ?_
    exact k _ h.drop.drop.drop
  · have e : derive l ls = (hzeros32, (key ls).2) := by unfold derive; rw [if_neg hne]
    rw [e] at k
    refine zeros_build ?_
    refine hash_ret2 (b := b0) h (l := hzeros32) rfl (ol := hzeros32) rfl fun w h => ?_
    exact k _ h.drop.drop.drop
theorem eq23 {a b : List UInt8} (ha : a.length = 32) (hb : b.length = 32) {xo yo : Operand} {K : Value → World → Prop} : pvv prog (oEq .eql 28 xo yo (.agg (a.map bv).toArray) (.agg (b.map bv).toArray)) w K = K (.bool (a == b)) w := o_eqArr (n := 32) (by kernel_rfl) ha hb
end Go.Proofs.YtmnaalpjhkkglaaGreatDoor

/-
  strings.Trim by a set of ASCII signs.
-/
set_option linter.all false
set_option maxRecDepth 100000
namespace Go.Proofs.YtmnaalpjhkkglaaGreatDoor
open Go Hold
variable {E : World0} {w : World} {H R : HP} {K : Value → World → Prop}
/-- The set, as it lies: a place for each byte. -/
def setC (f : Nat → Bool) : List Value := (List.range 256).map fun i => .bool (f i)
theorem setC_length (f : Nat → Bool) : (setC f).length = 256 := by simp [setC]
theorem setC_at (f : Nat → Bool) {i : Nat} (hi : i < 256) : (setC f)[i]? = some (.bool (f i)) := by
  unfold setC
  rw [List.getElem?_map, List.getElem?_range hi]
  rfl
theorem setC_set (f : Nat → Bool) {i : Nat} (hi : i < 256) : (setC f).set i (.bool true) = setC fun j => f j || decide (j = i) := by
  refine List.ext_getElem? fun j => ?_
  rw [List.getElem?_set]
  by_cases hij : i = j
  · subst hij
    rw [if_pos rfl, if_pos (by rw [setC_length]; exact hi), setC_at _ hi]
    simp
  · rw [if_neg hij]
    by_cases hj : j < 256
    · rw [setC_at _ hj, setC_at _ hj]
      have : decide (j = i) = false := decide_eq_false (fun h => hij h.symm)
      simp [this]
    · rw [List.getElem?_eq_none (by rw [setC_length]; omega), List.getElem?_eq_none (by rw [setC_length]; omega)]
def inSet (cs : List UInt8) (i : Nat) : Bool := cs.any fun c => decide (i = c.toNat)
theorem inSet_mem {cs : List UInt8} {b : UInt8} : inSet cs b.toNat = decide (b ∈ cs) := by
  rw [Bool.eq_iff_iff]
  simp only [inSet, List.any_eq_true, decide_eq_true_eq]
  constructor
  · rintro ⟨c, hc, h⟩
    rwa [UInt8.toNat_inj.1 h]
  · exact fun h => ⟨b, h, rfl⟩
theorem contains_spec {b : Nat} {cs : List UInt8} {c : UInt8} (h : sat E w H) [Has H b (.cells (setC (inSet cs)).toArray 174 (0, 0))] (k : K (.bool (decide (c ∈ cs))) w) : Calls prog 121 #[.pointer (some ⟨b, 0, none⟩), bv c] w (Ret K) := by
  have hc := c.toNat_lt
  refine c121 ?_
  unfold B121
  rw [o_nil, show bv c = .int .u8 (c.toNat : Int) from rfl, o_indexA (by omega) (by omega)]
  refine ld_in (b := b) (v := .bool (decide (c ∈ cs))) h ?_ k
  rw [← inSet_mem]
  simp only [Nat.zero_add, Int.toNat_natCast]
  exact setC_at _ (by omega)
theorem makeSet_spec {cs : List UInt8} (hc : ∀ c ∈ cs, c.toNat < 128) (hl : cs.length ≤ 1000) (h : sat E w H) (k : ∀ w', sat E w' H → K (.tuple #[.agg (setC (inSet cs)).toArray, .bool true]) w') : Calls prog 95 #[tv cs] w (Ret K) := by
  refine c95 ?_
  unfold B95
  refine alloc_sl h fun b w h => ?_
  have h : sat E w (pts b (.cells (setC (inSet [])).toArray 174 (0, 0)) * H) := h
  refine lp_nat (fun q σ w => ∃ i : Nat, σ = [.int .i64 (i : Int)] ∧ q = cs.length - i ∧ i ≤ cs.length ∧ sat E w (pts b (.cells (setC (inSet (cs.take i))).toArray 174 (0, 0)) * H)) cs.length ⟨0, rfl, by omega, by omega, by simpa using h⟩ ?_
  clear h
  rintro q σ w again ⟨i, rfl, rfl, hi, h⟩ hag
  rw [pop_cons, fin_nil, o_lenT, o_lss]
  refine cd_dec (fun hlt => ?_) (fun hge => ?_)
  · have hi1 : i < cs.length := by omega
    have hm : cs.getD i 0 ∈ cs := by rw [List.getD_eq_getElem?_getD, List.getElem?_eq_getElem hi1]; exact List.getElem_mem hi1
    have hlt := hc _ hm
    have hb := (cs.getD i 0).toNat_lt
    rw [o_indexT (by omega) (by rw [Int.toNat_natCast]; exact hi1), Int.toNat_natCast, show bv (cs.getD i 0) = .int .u8 ((cs.getD i 0).toNat : Int) from rfl, o_geq, show decide ((128 : Int) ≤ ((cs.getD i 0).toNat : Int)) = false from decide_eq_false (by omega), cd_false]
    rw [o_indexA (by omega) (by omega)]
    simp only [Nat.zero_add, Int.toNat_natCast]
    refine store_sl (b := b) h rfl (by rw [setC_length]; omega) fun w h => ?_
    rw [o_add, i64_of (by omega) (by omega)]
    refine hag (cs.length - (i + 1)) _ _ (by omega) ⟨i + 1, rfl, rfl, by omega, ?_⟩
    rw [setC_set _ (by omega)] at h
    have e : (fun j => inSet (cs.take i) j || decide (j = (cs.getD i 0).toNat)) = inSet (cs.take (i + 1)) := by
      funext j
      have : cs.getD i 0 = cs[i] := by rw [List.getD_eq_getElem?_getD, List.getElem?_eq_getElem hi1]; rfl
      unfold inSet
      rw [List.take_succ_eq_append_getElem hi1, List.any_append, this]
      simp only [List.any_cons, List.any_nil, Bool.or_false]
    rw [e] at h
    exact h
  · have hi2 : i = cs.length := by omega
    subst hi2
    rw [List.take_length] at h
    have ho : ∀ x ∈ setC (inSet cs), x.oneCell' = true := by
      intro x hx
      simp only [setC, List.mem_map] at hx
      obtain ⟨_, _, rfl⟩ := hx
      rfl
    refine ld_agg (b := b) h (setC_length _) ?_
    refine store_all (b := b) h (xs := setC (inSet cs)) (vs := setC (inSet cs)) (setC_length _) (setC_length _) ho fun w h => ?_
    exact res_agg h (b := b) (setC_length _) (k _ h.drop)
def trimR (cs : List UInt8) (l : List UInt8) : List UInt8 := (l.reverse.dropWhile (· ∈ cs)).reverse
def trimL (cs : List UInt8) (l : List UInt8) : List UInt8 := l.dropWhile (· ∈ cs)
theorem trimR_snoc (cs l : List UInt8) (c : UInt8) : trimR cs (l ++ [c]) = if c ∈ cs then trimR cs l else l ++ [c] := by
  unfold trimR
  rw [List.reverse_append, List.reverse_singleton, List.singleton_append, List.dropWhile_cons]
  by_cases h : c ∈ cs
  · simp [h]
  · simp [h]
theorem trimLeft_spec {b : Nat} {cs : List UInt8} (l : List UInt8) (hl : l.length ≤ 9223372036854775807) (h : sat E w H) [Has H b (.cells (setC (inSet cs)).toArray 174 (0, 0))] (k : ∀ w', sat E w' H → K (tv (trimL cs l)) w') : Calls prog 96 #[tv l, .pointer (some ⟨b, 0, none⟩)] w (Ret K) := by
  refine c96 ?_
  unfold B96
  refine jn_cut (fun σ w => σ = [tv (trimL cs l)] ∧ sat E w H) (fun kj hkj => ?_) ?_
  · refine lp_nat (fun q σ w => ∃ m : List UInt8, σ = [tv m] ∧ q = m.length ∧ m.length ≤ l.length ∧ trimL cs m = trimL cs l ∧ sat E w H) l.length ⟨l, rfl, rfl, Nat.le_refl _, rfl, h⟩ ?_
    clear h
    rintro q σ w again ⟨m, rfl, rfl, hm, he, h⟩ hag
    rw [pop_cons, fin_nil, o_lenT, o_gtr]
    cases m with
    | nil =>
      rw [show decide ((0 : Int) < (([] : List UInt8).length : Int)) = false from rfl, cd_false]
      exact hkj _ _ ⟨by rw [← he]; rfl, h⟩
    | cons c m =>
      have hm' : m.length + 1 ≤ l.length := by simpa using hm
      rw [show decide ((0 : Int) < ((c :: m).length : Int)) = true from decide_eq_true (by rw [List.length_cons]; omega), cd_true]
      rw [o_indexT (by omega) (by simp)]
      refine contains_spec (b := b) (cs := cs) (c := c) h ?_
      rw [o_not]
      by_cases hc : c ∈ cs
      · rw [show (!decide (c ∈ cs)) = false by simp [hc], cd_false, o_sliceT_l (by omega) (by rw [List.length_cons]; omega)]
        refine hag m.length _ _ (by simp) ⟨m, rfl, rfl, by omega, ?_, h⟩
        rw [← he]
        simp [trimL, List.dropWhile_cons, hc]
      · rw [show (!decide (c ∈ cs)) = true by simp [hc], cd_true]
        refine hkj _ _ ⟨?_, h⟩
        rw [← he]
        simp [trimL, List.dropWhile_cons, hc]
  · rintro σ w ⟨rfl, h⟩
    rw [pop_cons, fin_nil]
    exact k _ h
theorem trimRight_spec {b : Nat} {cs : List UInt8} (l : List UInt8) (hl : l.length ≤ 9223372036854775807) (h : sat E w H) [Has H b (.cells (setC (inSet cs)).toArray 174 (0, 0))] (k : ∀ w', sat E w' H → K (tv (trimR cs l)) w') : Calls prog 97 #[tv l, .pointer (some ⟨b, 0, none⟩)] w (Ret K) := by
  refine c97 ?_
  unfold B97
  refine jn_cut (fun σ w => σ = [tv (trimR cs l)] ∧ sat E w H) (fun kj hkj => ?_) ?_
  · refine lp_nat (fun q σ w => ∃ m : List UInt8, σ = [tv m] ∧ q = m.length ∧ m.length ≤ l.length ∧ trimR cs m = trimR cs l ∧ sat E w H) l.length ⟨l, rfl, rfl, Nat.le_refl _, rfl, h⟩ ?_
    clear h
    rintro q σ w again ⟨m, rfl, rfl, hm, he, h⟩ hag
    rw [pop_cons, fin_nil, o_lenT, o_gtr]
    rcases List.eq_nil_or_concat m with rfl | ⟨m, c, rfl⟩
    · rw [show decide ((0 : Int) < (([] : List UInt8).length : Int)) = false from rfl, cd_false]
      exact hkj _ _ ⟨by rw [← he]; rfl, h⟩
    · rw [List.concat_eq_append] at hm he hag ⊢
      have hm' : m.length + 1 ≤ l.length := by simpa using hm
      have e1 : (((m ++ [c]).length : Nat) : Int) = (m.length : Int) + 1 := by simp
      rw [show decide ((0 : Int) < ((m ++ [c]).length : Int)) = true from decide_eq_true (by rw [e1]; omega), cd_true, o_lenT, o_sub, e1]
      have e2 : IntKind.i64.wrap ((m.length : Int) + 1 - 1) = ((m.length : Nat) : Int) := by rw [i64_of (by omega) (by omega)]; omega
      rw [e2, o_indexT (by omega) (by simp), Int.toNat_natCast, show (m ++ [c]).getD m.length 0 = c by simp [List.getD_eq_getElem?_getD]]
      refine contains_spec (b := b) (cs := cs) (c := c) h ?_
      rw [o_not]
      rw [trimR_snoc] at he
      by_cases hc : c ∈ cs
      · rw [show (!decide (c ∈ cs)) = false by simp [hc], cd_false, o_lenT, o_sub, e1, e2, o_sliceT_h (by omega) (by rw [e1]; omega)]
        rw [if_pos hc] at he
        refine hag m.length _ _ (by simp) ⟨m, by simp, rfl, by omega, he, h⟩
      · rw [show (!decide (c ∈ cs)) = true by simp [hc], cd_true]
        rw [if_neg hc] at he
        exact hkj _ _ ⟨by rw [← he], h⟩
  · rintro σ w ⟨rfl, h⟩
    rw [pop_cons, fin_nil]
    exact k _ h
/-- Trim, by a set of at least two signs. -/
theorem Trim_spec {cs : List UInt8} (l : List UInt8) (hc : ∀ c ∈ cs, c.toNat < 128) (hl2 : 2 ≤ cs.length) (hl : cs.length ≤ 1000) (hl' : l.length ≤ 9223372036854775807) (h : sat E w H) (k : ∀ w', sat E w' H → K (tv (trimL cs (trimR cs l))) w') :
    Calls prog 71 #[tv l, tv cs] w (Ret K) := by
  have e0 : (.string ⟨#[]⟩ : Value) = tv [] := rfl
  refine c71 ?_
  unfold B71
  rw [e0, o_eqT]
  have fin : ∀ w, sat E w H → trimL cs (trimR cs l) = trimL cs (trimR cs l) → Calls prog 95 #[tv cs] w (Ret fun t_16 w =>
      pvv prog (Instr.extract t_16 0) w fun t_17 w =>
      pvv prog (Instr.extract t_16 1) w fun t_18 w =>
      efv prog (Instr.alloc 174 true (.tuple #[])) w fun as_19 w =>
      efu prog (Instr.storeAt 174 as_19 t_17) w fun u_20 w =>
      cd t_18 (
        Calls prog 97 #[tv l, as_19] w (Ret fun t_21 w =>
        Calls prog 96 #[t_21, as_19] w (Ret fun t_22 w =>
        K t_22 w))) <|
      Calls prog 99 #[tv l, tv cs] w (Ret fun t_23 w =>
      Calls prog 98 #[t_23, tv cs] w (Ret fun t_24 w =>
      K t_24 w))) := by
    intro w h _
    refine makeSet_spec hc hl h fun w h => ?_
    rw [o_extract, o_extract]
    refine alloc_sl h fun b w h => ?_
    have h : sat E w (pts b (.cells (setC (inSet [])).toArray 174 (0, 0)) * H) := h
    have ho : ∀ x ∈ setC (inSet cs), x.oneCell' = true := by
      intro x hx
      simp only [setC, List.mem_map] at hx
      obtain ⟨_, _, rfl⟩ := hx
      rfl
    refine store_all (b := b) h (xs := setC (inSet [])) (vs := setC (inSet cs)) (setC_length _) (setC_length _) ho fun w h => ?_
    rw [cd_true]
    refine trimRight_spec (b := b) l hl' h fun w h => ?_
    refine trimLeft_spec (b := b) (trimR cs l) ?_ h fun w h => k _ h.drop
    have : (trimR cs l).length ≤ l.length := by
      unfold trimR
      rw [List.length_reverse]
      exact Nat.le_trans (List.dropWhile_sublist _).length_le (by simp)
    omega
  have hne : ¬ cs = [] := by rintro rfl; simp at hl2
  have h1 : ¬ ((cs.length : Int) = 1) := by omega
  by_cases hl0 : l = []
  · simp only [hl0, ↓o_nil, ↓o_field, ↓o_add, ↓o_sub, ↓o_mul, ↓o_lss, ↓o_leq, ↓o_gtr, ↓o_geq, ↓o_not, ↓o_pick, ↓o_eqInt, ↓o_neInt, ↓o_eqBool, ↓o_neBool, ↓o_eqPtr, ↓o_nePtr, ↓o_eqPtr', ↓o_eqSl, ↓o_neSl, ↓o_eqStr, ↓o_neStr, ↓o_len, ↓o_lenS, ↓o_min, ↓o_max, ↓o_extract, ↓o_convInt, ↓cd_true, ↓cd_false, ↓gate_tt, ↓gate_ff, ↓gate_tf, ↓gate_ft, ↓gate_undef, ↓o_bind, ↓stay_v, ↓pop_cons, ↓fin_nil, Option.isNone_none, Option.isNone_some, Bool.not_true, Bool.not_false, Nat.zero_add, decide_true, decide_false, if_true, if_false, Bool.false_eq_true, ↓reduceIte]
    have := k w h
    rw [hl0] at this
    exact this
  · simp only [hl0, hne, ↓o_eqT, ↓o_lenT, h1, ↓o_nil, ↓o_field, ↓o_add, ↓o_sub, ↓o_mul, ↓o_lss, ↓o_leq, ↓o_gtr, ↓o_geq, ↓o_not, ↓o_pick, ↓o_eqInt, ↓o_neInt, ↓o_eqBool, ↓o_neBool, ↓o_eqPtr, ↓o_nePtr, ↓o_eqPtr', ↓o_eqSl, ↓o_neSl, ↓o_eqStr, ↓o_neStr, ↓o_len, ↓o_lenS, ↓o_min, ↓o_max, ↓o_extract, ↓o_convInt, ↓cd_true, ↓cd_false, ↓gate_tt, ↓gate_ff, ↓gate_tf, ↓gate_ft, ↓gate_undef, ↓o_bind, ↓stay_v, ↓pop_cons, ↓fin_nil, Option.isNone_none, Option.isNone_some, Bool.not_true, Bool.not_false, Nat.zero_add, decide_true, decide_false, if_true, if_false, Bool.false_eq_true, ↓reduceIte]
    exact fin w h rfl
theorem dw (cs : List UInt8) : ∀ m : List UInt8, m.dropWhile (fun x => decide (x ∈ cs)) = [] ↔ ∀ c ∈ m, c ∈ cs
  | [] => by simp
  | c :: m => by
    have ih := dw cs m
    rw [List.dropWhile_cons]
    by_cases h : c ∈ cs
    · simp [h, ih]
    · simp [h]
theorem dw_head (cs : List UInt8) : ∀ m : List UInt8, m.dropWhile (fun x => decide (x ∈ cs)) ≠ [] → ∃ c ∈ m.dropWhile (fun x => decide (x ∈ cs)), c ∉ cs
  | [], h => absurd rfl h
  | c :: m, h => by
    rw [List.dropWhile_cons] at h ⊢
    by_cases hc : c ∈ cs
    · simp only [hc, decide_true, if_true] at h ⊢
      exact dw_head cs m h
    · simp only [hc, decide_false, Bool.false_eq_true, if_false]
      exact ⟨c, by simp, hc⟩
theorem trim_all {cs l : List UInt8} : trimL cs (trimR cs l) = [] ↔ ∀ c ∈ l, c ∈ cs := by
  unfold trimL
  rw [dw]
  constructor
  · intro h c hc
    by_cases hn : trimR cs l = []
    · unfold trimR at hn
      rw [List.reverse_eq_nil_iff, dw] at hn
      exact hn c (by simpa using hc)
    · exfalso
      have hne : l.reverse.dropWhile (fun x => decide (x ∈ cs)) ≠ [] := by
        intro h0
        exact hn (by unfold trimR; rw [h0]; rfl)
      obtain ⟨d, hd1, hd2⟩ := dw_head cs _ hne
      exact hd2 (h d (by unfold trimR; rw [List.mem_reverse]; exact hd1))
  · intro h c hc
    refine h c ?_
    unfold trimR at hc
    rw [List.mem_reverse] at hc
    have := (List.dropWhile_sublist _).subset hc
    simpa using this
end Go.Proofs.YtmnaalpjhkkglaaGreatDoor

/-
  Names: which texts are.
-/
set_option linter.all false
set_option maxRecDepth 100000
namespace Go.Proofs.YtmnaalpjhkkglaaGreatDoor
open Go Hold
variable {E : World0} {w : World} {H R : HP} {K : Value → World → Prop}
/-! Names. -/
def nameSet : List UInt8 := [97, 98, 99, 100, 101, 102, 103, 104, 105, 106, 107, 108, 109, 110, 111, 112, 113, 114, 115, 116, 117, 118, 119, 120, 121, 122, 48, 49, 50, 51, 52, 53, 54, 55, 56, 57, 45]
def isName (l : List UInt8) : Bool := decide (l ≠ []) && decide (l.length ≤ 9) && decide (∀ c ∈ l, c ∈ nameSet)
theorem IsName_spec (h : sat E w H) {l : List UInt8} (hl : l.length ≤ 9223372036854775807) (k : ∀ w', sat E w' H → K (.bool (isName l)) w') : Calls prog 53 #[tv l] w (Ret K) := by
  have e0 : (.string ⟨#[]⟩ : Value) = tv [] := rfl
  have e1 : (.string ⟨#[97, 98, 99, 100, 101, 102, 103, 104, 105, 106, 107, 108, 109, 110, 111, 112, 113, 114, 115, 116, 117, 118, 119, 120, 121, 122, 48, 49, 50, 51, 52, 53, 54, 55, 56, 57, 45]⟩ : Value) = tv nameSet := rfl
  refine c53 ?_
  unfold B53
  rw [e0, e1, o_neT]
  by_cases h0 : l = []
  · have e : isName l = false := by simp [isName, h0]
    rw [e] at k
    simp only [h0, ↓o_nil, ↓o_field, ↓o_add, ↓o_sub, ↓o_mul, ↓o_lss, ↓o_leq, ↓o_gtr, ↓o_geq, ↓o_not, ↓o_pick, ↓o_eqInt, ↓o_neInt, ↓o_eqBool, ↓o_neBool, ↓o_eqPtr, ↓o_nePtr, ↓o_eqPtr', ↓o_eqSl, ↓o_neSl, ↓o_eqStr, ↓o_neStr, ↓o_len, ↓o_lenS, ↓o_min, ↓o_max, ↓o_extract, ↓o_convInt, ↓cd_true, ↓cd_false, ↓gate_tt, ↓gate_ff, ↓gate_tf, ↓gate_ft, ↓gate_undef, ↓o_bind, ↓stay_v, ↓pop_cons, ↓fin_nil, Option.isNone_none, Option.isNone_some, Bool.not_true, Bool.not_false, Nat.zero_add, decide_true, decide_false, if_true, if_false, Bool.false_eq_true, ↓reduceIte]
    exact k _ h
  · simp only [h0, ↓o_nil, ↓o_field, ↓o_add, ↓o_sub, ↓o_mul, ↓o_lss, ↓o_leq, ↓o_gtr, ↓o_geq, ↓o_not, ↓o_pick, ↓o_eqInt, ↓o_neInt, ↓o_eqBool, ↓o_neBool, ↓o_eqPtr, ↓o_nePtr, ↓o_eqPtr', ↓o_eqSl, ↓o_neSl, ↓o_eqStr, ↓o_neStr, ↓o_len, ↓o_lenS, ↓o_min, ↓o_max, ↓o_extract, ↓o_convInt, ↓cd_true, ↓cd_false, ↓gate_tt, ↓gate_ff, ↓gate_tf, ↓gate_ft, ↓gate_undef, ↓o_bind, ↓stay_v, ↓pop_cons, ↓fin_nil, Option.isNone_none, Option.isNone_some, Bool.not_true, Bool.not_false, Nat.zero_add, decide_true, decide_false, if_true, if_false, Bool.false_eq_true, ↓reduceIte]
    rw [o_lenT, o_leq]
    by_cases h9 : l.length ≤ 9
    · have t9 : decide ((l.length : Int) ≤ 9) = true := decide_eq_true (by omega)
      simp only [t9, ↓o_nil, ↓o_field, ↓o_add, ↓o_sub, ↓o_mul, ↓o_lss, ↓o_leq, ↓o_gtr, ↓o_geq, ↓o_not, ↓o_pick, ↓o_eqInt, ↓o_neInt, ↓o_eqBool, ↓o_neBool, ↓o_eqPtr, ↓o_nePtr, ↓o_eqPtr', ↓o_eqSl, ↓o_neSl, ↓o_eqStr, ↓o_neStr, ↓o_len, ↓o_lenS, ↓o_min, ↓o_max, ↓o_extract, ↓o_convInt, ↓cd_true, ↓cd_false, ↓gate_tt, ↓gate_ff, ↓gate_tf, ↓gate_ft, ↓gate_undef, ↓o_bind, ↓stay_v, ↓pop_cons, ↓fin_nil, Option.isNone_none, Option.isNone_some, Bool.not_true, Bool.not_false, Nat.zero_add, decide_true, decide_false, if_true, if_false, Bool.false_eq_true, ↓reduceIte]
      refine Trim_spec l (by decide) (by decide) (by decide) hl h fun w h => ?_
      rw [o_eqT]
      have e : isName l = decide (trimL nameSet (trimR nameSet l) = []) := by
        unfold isName
        rw [decide_eq_true h0, decide_eq_true h9, Bool.true_and, Bool.true_and, decide_eq_decide]
        exact trim_all.symm
      rw [← e]
      try simp only [↓o_nil, ↓o_field, ↓o_add, ↓o_sub, ↓o_mul, ↓o_lss, ↓o_leq, ↓o_gtr, ↓o_geq, ↓o_not, ↓o_pick, ↓o_eqInt, ↓o_neInt, ↓o_eqBool, ↓o_neBool, ↓o_eqPtr, ↓o_nePtr, ↓o_eqPtr', ↓o_eqSl, ↓o_neSl, ↓o_eqStr, ↓o_neStr, ↓o_len, ↓o_lenS, ↓o_min, ↓o_max, ↓o_extract, ↓o_convInt, ↓cd_true, ↓cd_false, ↓gate_tt, ↓gate_ff, ↓gate_tf, ↓gate_ft, ↓gate_undef, ↓o_bind, ↓stay_v, ↓pop_cons, ↓fin_nil, Option.isNone_none, Option.isNone_some, Bool.not_true, Bool.not_false, Nat.zero_add, decide_true, decide_false, if_true, if_false, Bool.false_eq_true, ↓reduceIte]
      exact k _ h
    · have t9 : decide ((l.length : Int) ≤ 9) = false := decide_eq_false (by omega)
      have e : isName l = false := by
        unfold isName
        rw [decide_eq_false h9]
        simp
      rw [e] at k
      simp only [t9, ↓o_nil, ↓o_field, ↓o_add, ↓o_sub, ↓o_mul, ↓o_lss, ↓o_leq, ↓o_gtr, ↓o_geq, ↓o_not, ↓o_pick, ↓o_eqInt, ↓o_neInt, ↓o_eqBool, ↓o_neBool, ↓o_eqPtr, ↓o_nePtr, ↓o_eqPtr', ↓o_eqSl, ↓o_neSl, ↓o_eqStr, ↓o_neStr, ↓o_len, ↓o_lenS, ↓o_min, ↓o_max, ↓o_extract, ↓o_convInt, ↓cd_true, ↓cd_false, ↓gate_tt, ↓gate_ff, ↓gate_tf, ↓gate_ft, ↓gate_undef, ↓o_bind, ↓stay_v, ↓pop_cons, ↓fin_nil, Option.isNone_none, Option.isNone_some, Bool.not_true, Bool.not_false, Nat.zero_add, decide_true, decide_false, if_true, if_false, Bool.false_eq_true, ↓reduceIte]
      exact k _ h
end Go.Proofs.YtmnaalpjhkkglaaGreatDoor
