/-
  Links of a chain, the reference's.
-/
import Derived.Test.YtmnaalpjhkkglaaGreatDoorSealP
import Derived.Test.YtmnaalpjhkkglaaGreatDoorNames
import Derived.Laws.Runes
import Derived.Test.YtmnaalpjhkkglaaGreatDoorPB
import Derived.Test.YtmnaalpjhkkglaaGreatDoorPar
import Derived.Test.YtmnaalpjhkkglaaGreatDoorCodC
import Derived.Test.YtmnaalpjhkkglaaGreatDoorMaps
import Derived.Test.YtmnaalpjhkkglaaGreatDoorStrs
set_option linter.all false
set_option maxRecDepth 10000
namespace Go.Proofs.YtmnaalpjhkkglaaGreatDoor
open Go Hold
variable {E : World0} {w : World} {H R : HP} {K : Value → World → Prop}
end Go.Proofs.YtmnaalpjhkkglaaGreatDoor

/-
  Rows of columns: the code's and the reference's; columns of rows; what they say of each other.
-/
set_option linter.all false
set_option maxRecDepth 10000
namespace Go.Proofs.YtmnaalpjhkkglaaGreatDoor
open Go Hold
variable {E : World0} {w : World} {H R : HP} {K : Value → World → Prop}
def col (c : List UInt8) : List UInt8 := UInt8.ofNat c.length :: c
def body (cs : List (List UInt8)) : List UInt8 := cs.flatMap col
def rowOut (cs : List (List UInt8)) : List UInt8 := UInt8.ofNat cs.length :: body cs
def row (cs : List (List UInt8)) : List UInt8 × Int :=
  if 8 < cs.length then ([], 2) else if cs.all (fun p => decide (p.length ≤ 70)) = true then (if 72 < (rowOut cs).length then ([], 6) else (rowOut cs, 0)) else ([], 6)
theorem body_append (a b : List (List UInt8)) : body (a ++ b) = body a ++ body b := by simp [body]
theorem body_take {ps : List (List UInt8)} {i : Nat} (h : i < ps.length) : body (ps.take (i + 1)) = body (ps.take i) ++ col (ps.getD i []) := by
  rw [List.take_succ_eq_append_getElem h, body_append]
  simp [body, List.getD_eq_getElem?_getD, h]
theorem body_short {ps : List (List UInt8)} : ∀ i, i ≤ ps.length → (∀ j, j < i → (ps.getD j []).length ≤ 70) → (body (ps.take i)).length ≤ 71 * i
  | 0, _, _ => by simp [body]
  | i + 1, h, hs => by
    have ih := body_short i (by omega) fun j hj => hs j (by omega)
    rw [body_take (by omega)]
    have h2 := hs i (by omega)
    simp only [List.length_append, col, List.length_cons]
    omega
theorem row_long {ps : List (List UInt8)} (h : ¬ 8 < ps.length) {i : Nat} (hi : i < ps.length) (hl : 70 < (ps.getD i []).length) : row ps = ([], 6) := by
  unfold row
  rw [if_neg h, if_neg]
  intro ha
  have := List.all_eq_true.1 ha (ps.getD i []) (by rw [List.getD_eq_getElem?_getD, List.getElem?_eq_getElem hi]; exact List.getElem_mem hi)
  have := of_decide_eq_true this
  omega
theorem all_short70 {ps : List (List UInt8)} (h : ∀ j, j < ps.length → (ps.getD j []).length ≤ 70) : ps.all (fun p => decide (p.length ≤ 70)) = true := by
  refine List.all_eq_true.2 fun p hp => ?_
  obtain ⟨i, hi, rfl⟩ := List.getElem_of_mem hp
  have := h i hi
  rw [List.getD_eq_getElem?_getD, List.getElem?_eq_getElem hi] at this
  simpa using this
theorem row_done {ps : List (List UInt8)} (h : ¬ 8 < ps.length) (hs : ∀ j, j < ps.length → (ps.getD j []).length ≤ 70) : row ps = if 72 < (rowOut ps).length then ([], 6) else (rowOut ps, 0) := by
  unfold row
  rw [if_neg h, if_pos (all_short70 hs)]
theorem bv_len {n : Nat} (h : n < 256) : Value.int .u8 (IntKind.u8.wrap (n : Int)) = bv (UInt8.ofNat n) := by
  unfold bv; rw [IntKind.wrap_u8]; congr 1
theorem Row_spec (h : sat E w H) {v : Value} {ps : List (List UInt8)} (hp : Rds H v ps.length (ps.map tv)) (hpl : ps.length ≤ 9223372036854775000) (k : back K E H (row ps)) : Calls prog 50 #[v] w (Ret K) := by
  obtain ⟨a, c, rfl, hc, hp, hpn⟩ := hp.shape h
  refine c50 ?_
  unfold B50
  rw [o_len, o_gtr]
  by_cases h2 : 8 < ps.length
  · have f2 : (8 : Int) < ps.length := by omega
    simp only [f2, ↓o_nil, ↓o_field, ↓o_add, ↓o_sub, ↓o_mul, ↓o_lss, ↓o_leq, ↓o_gtr, ↓o_geq, ↓o_not, ↓o_pick, ↓o_eqInt, ↓o_neInt, ↓o_eqBool, ↓o_neBool, ↓o_eqPtr, ↓o_nePtr, ↓o_eqPtr', ↓o_eqSl, ↓o_neSl, ↓o_eqStr, ↓o_neStr, ↓o_len, ↓o_lenS, ↓o_min, ↓o_max, ↓o_extract, ↓o_convInt, ↓cd_true, ↓cd_false, ↓gate_tt, ↓gate_ff, ↓gate_tf, ↓gate_ft, ↓gate_undef, ↓o_bind, ↓stay_v, ↓pop_cons, ↓fin_nil, Option.isNone_none, Option.isNone_some, Bool.not_true, Bool.not_false, Nat.zero_add, decide_true, decide_false, if_true, if_false, Bool.false_eq_true, ↓reduceIte]
    have e : row ps = ([], 2) := by unfold row; rw [if_pos h2]
    rw [e] at k
    exact back_nil h k
  have f2 : ¬ (8 : Int) < ps.length := by omega
  simp only [f2, ↓o_nil, ↓o_field, ↓o_add, ↓o_sub, ↓o_mul, ↓o_lss, ↓o_leq, ↓o_gtr, ↓o_geq, ↓o_not, ↓o_pick, ↓o_eqInt, ↓o_neInt, ↓o_eqBool, ↓o_neBool, ↓o_eqPtr, ↓o_nePtr, ↓o_eqPtr', ↓o_eqSl, ↓o_neSl, ↓o_eqStr, ↓o_neStr, ↓o_len, ↓o_lenS, ↓o_min, ↓o_max, ↓o_extract, ↓o_convInt, ↓cd_true, ↓cd_false, ↓gate_tt, ↓gate_ff, ↓gate_tf, ↓gate_ft, ↓gate_undef, ↓o_bind, ↓stay_v, ↓pop_cons, ↓fin_nil, Option.isNone_none, Option.isNone_some, Bool.not_true, Bool.not_false, Nat.zero_add, decide_true, decide_false, if_true, if_false, Bool.false_eq_true, ↓reduceIte, bv_len (show ps.length < 256 by omega)]
  refine buildSlice_sl (e := 5) (cs := #[bv (UInt8.ofNat ps.length)]) h (fun w => by kernel_rfl) fun b0 w h => ?_
  refine lp_nat (fun q σ w => ∃ (i : Nat) (v : Value), σ = [v, .int .i64 (i : Int)] ∧ q = ps.length - i ∧ i ≤ ps.length ∧ (∀ j, j < i → (ps.getD j []).length ≤ 70) ∧ sat E w (osl 5 1 v (1 + (body (ps.take i)).length) ((UInt8.ofNat ps.length :: body (ps.take i)).map bv) * H)) ps.length
    ⟨0, _, rfl, rfl, by omega, fun j hj => by omega, by
      have := osl_of (n := 1) (sz := 1) (xs := [bv (UInt8.ofNat ps.length)]) h rfl (by omega)
      simpa [body] using this⟩ ?_
  clear h
  rintro q σ w again ⟨i, v, rfl, rfl, hi, hs, h⟩ hag
  have hes := body_short i hi hs
  rw [pop_cons, pop_cons, fin_nil, o_lss]
  refine cd_dec (fun hlt => ?_) (fun hge => ?_)
  · have hlt : i < ps.length := by omega
    obtain ⟨bb, o, c', hv, _, hp⟩ := hp.opened h.drop (by simp; omega)
    cases hv
    rw [o_index (by omega) (by omega)]
    refine ld_rd h hp.right i (by rw [Int.toNat_natCast]; omega) (gettv hlt) ?_
    rw [o_lenT, o_gtr]
    by_cases h3 : 70 < (ps.getD i []).length
    · have f3 : (70 : Int) < (ps.getD i []).length := by omega
      simp only [f3, ↓o_nil, ↓o_field, ↓o_add, ↓o_sub, ↓o_mul, ↓o_lss, ↓o_leq, ↓o_gtr, ↓o_geq, ↓o_not, ↓o_pick, ↓o_eqInt, ↓o_neInt, ↓o_eqBool, ↓o_neBool, ↓o_eqPtr, ↓o_nePtr, ↓o_eqPtr', ↓o_eqSl, ↓o_neSl, ↓o_eqStr, ↓o_neStr, ↓o_len, ↓o_lenS, ↓o_min, ↓o_max, ↓o_extract, ↓o_convInt, ↓cd_true, ↓cd_false, ↓gate_tt, ↓gate_ff, ↓gate_tf, ↓gate_ft, ↓gate_undef, ↓o_bind, ↓stay_v, ↓pop_cons, ↓fin_nil, Option.isNone_none, Option.isNone_some, Bool.not_true, Bool.not_false, Nat.zero_add, decide_true, decide_false, if_true, if_false, Bool.false_eq_true, ↓reduceIte]
      rw [row_long h2 hlt h3] at k
      exact back_nil h.drop k
    · have f3 : ¬ (70 : Int) < (ps.getD i []).length := by omega
      simp only [f3, ↓o_lenT, ↓o_nil, ↓o_field, ↓o_add, ↓o_sub, ↓o_mul, ↓o_lss, ↓o_leq, ↓o_gtr, ↓o_geq, ↓o_not, ↓o_pick, ↓o_eqInt, ↓o_neInt, ↓o_eqBool, ↓o_neBool, ↓o_eqPtr, ↓o_nePtr, ↓o_eqPtr', ↓o_eqSl, ↓o_neSl, ↓o_eqStr, ↓o_neStr, ↓o_len, ↓o_lenS, ↓o_min, ↓o_max, ↓o_extract, ↓o_convInt, ↓cd_true, ↓cd_false, ↓gate_tt, ↓gate_ff, ↓gate_tf, ↓gate_ft, ↓gate_undef, ↓o_bind, ↓stay_v, ↓pop_cons, ↓fin_nil, Option.isNone_none, Option.isNone_some, Bool.not_true, Bool.not_false, Nat.zero_add, decide_true, decide_false, if_true, if_false, Bool.false_eq_true, ↓reduceIte, bv_len (show (ps.getD i []).length < 256 by omega)]
      refine push_sl (v := v) h rfl rfl (by omega) (by omega) fun v2 w h => ?_
      refine append_str (v := v2) h (by omega) fun v3 w h => ?_
      (try rw [o_add]); rw [i64_of (by omega) (by omega)]
      refine hag (ps.length - (i + 1)) _ _ (by omega) ⟨i + 1, v3, rfl, rfl, by omega, fun j hj => ?_, ?_⟩
      · by_cases c1 : j < i
        · exact hs j c1
        · rw [show j = i by omega]; omega
      · rw [body_take hlt]
        have e : (UInt8.ofNat ps.length :: body (ps.take i)).map bv ++ [bv (UInt8.ofNat (ps.getD i []).length)] ++ (ps.getD i []).map bv = (UInt8.ofNat ps.length :: (body (ps.take i) ++ col (ps.getD i []))).map bv := by simp [col]
        have e2 : 1 + (body (ps.take i)).length + 1 + (ps.getD i []).length = 1 + (body (ps.take i) ++ col (ps.getD i [])).length := by simp [col]; omega
        rw [e, e2] at h
        exact h
  · have hi2 : i = ps.length := by omega
    subst hi2
    rw [List.take_length] at h hes
    obtain ⟨a2, c2, rfl, _, _, _⟩ := osl_shape h
    (try rw [o_len]); (try rw [o_gtr])
    rw [row_done h2 hs] at k
    have hrl : (rowOut ps).length = 1 + (body ps).length := by simp [rowOut]; omega
    by_cases h4 : 72 < (rowOut ps).length
    · have f4 : (72 : Int) < ((1 + (body ps).length : Nat) : Int) := by omega
      simp only [f4, ↓o_nil, ↓o_field, ↓o_add, ↓o_sub, ↓o_mul, ↓o_lss, ↓o_leq, ↓o_gtr, ↓o_geq, ↓o_not, ↓o_pick, ↓o_eqInt, ↓o_neInt, ↓o_eqBool, ↓o_neBool, ↓o_eqPtr, ↓o_nePtr, ↓o_eqPtr', ↓o_eqSl, ↓o_neSl, ↓o_eqStr, ↓o_neStr, ↓o_len, ↓o_lenS, ↓o_min, ↓o_max, ↓o_extract, ↓o_convInt, ↓cd_true, ↓cd_false, ↓gate_tt, ↓gate_ff, ↓gate_tf, ↓gate_ft, ↓gate_undef, ↓o_bind, ↓stay_v, ↓pop_cons, ↓fin_nil, Option.isNone_none, Option.isNone_some, Bool.not_true, Bool.not_false, Nat.zero_add, decide_true, decide_false, if_true, if_false, Bool.false_eq_true, ↓reduceIte]
      rw [if_pos h4] at k
      exact back_nil h.drop k
    · have f4 : ¬ (72 : Int) < ((1 + (body ps).length : Nat) : Int) := by omega
      simp only [f4, ↓o_nil, ↓o_field, ↓o_add, ↓o_sub, ↓o_mul, ↓o_lss, ↓o_leq, ↓o_gtr, ↓o_geq, ↓o_not, ↓o_pick, ↓o_eqInt, ↓o_neInt, ↓o_eqBool, ↓o_neBool, ↓o_eqPtr, ↓o_nePtr, ↓o_eqPtr', ↓o_eqSl, ↓o_neSl, ↓o_eqStr, ↓o_neStr, ↓o_len, ↓o_lenS, ↓o_min, ↓o_max, ↓o_extract, ↓o_convInt, ↓cd_true, ↓cd_false, ↓gate_tt, ↓gate_ff, ↓gate_tf, ↓gate_ft, ↓gate_undef, ↓o_bind, ↓stay_v, ↓pop_cons, ↓fin_nil, Option.isNone_none, Option.isNone_some, Bool.not_true, Bool.not_false, Nat.zero_add, decide_true, decide_false, if_true, if_false, Bool.false_eq_true, ↓reduceIte]
      rw [if_neg h4] at k
      refine k _ _ ?_
      rw [hrl]
      exact h
/-! Columns. -/
def colsGo : Nat → List UInt8 → Option (List (List UInt8))
  | 0, [] => some []
  | 0, _ :: _ => none
  | _ + 1, [] => none
  | n + 1, k :: b => if 70 < k.toNat ∨ b.length < k.toNat then none else (colsGo n (b.drop k.toNat)).map (b.take k.toNat :: ·)
def columns (b : List UInt8) : List (List UInt8) × Int :=
  if 72 < b.length then ([], 6) else match b with
    | [] => ([], 3)
    | n :: r => if 8 < n.toNat then ([], 3) else match colsGo n.toNat r with | some cs => (cs, 0) | none => ([], 3)
theorem colsGo_body : ∀ {cs : List (List UInt8)}, (∀ c ∈ cs, c.length ≤ 70) → colsGo cs.length (body cs) = some cs
  | [], _ => rfl
  | c :: cs, h => by
    have hc := h c (by simp)
    have ih := colsGo_body (cs := cs) fun x hx => h x (by simp [hx])
    have e : body (c :: cs) = UInt8.ofNat c.length :: (c ++ body cs) := by simp [body, col]
    have e2 : (UInt8.ofNat c.length).toNat = c.length := by rw [UInt8.toNat_ofNat']; omega
    rw [e]
    simp only [List.length_cons, colsGo, e2]
    rw [if_neg (by simp; omega), List.drop_left, List.take_left, ih]
    rfl
theorem colsGo_some : ∀ {n : Nat} {b : List UInt8} {cs : List (List UInt8)}, colsGo n b = some cs → cs.length = n ∧ (∀ c ∈ cs, c.length ≤ 70) ∧ b = body cs
  | 0, [], cs, h => by simp [colsGo] at h; subst h; simp [body]
  | 0, _ :: _, cs, h => by simp [colsGo] at h
  | n + 1, [], cs, h => by simp [colsGo] at h
  | n + 1, k :: b, cs, h => by
    unfold colsGo at h
    split at h
    · cases h
    · rename_i h1
      rw [Option.map_eq_some_iff] at h
      obtain ⟨l, hl, rfl⟩ := h
      obtain ⟨i1, i2, i3⟩ := colsGo_some hl
      have hkl : (b.take k.toNat).length = k.toNat := by simp; omega
      refine ⟨by simp [i1], ?_, ?_⟩
      · intro c hc
        rcases List.mem_cons.1 hc with rfl | hc
        · omega
        · exact i2 c hc
      · have e : body (b.take k.toNat :: l) = UInt8.ofNat (b.take k.toNat).length :: (b.take k.toNat ++ body l) := by simp [body, col]
        rw [e, hkl, ← i3, List.take_append_drop]
        simp
theorem colsGo_more : ∀ {n : Nat} {b : List UInt8} {cs : List (List UInt8)} {y : List UInt8}, colsGo n b = some cs → y ≠ [] → colsGo n (b ++ y) = none
  | 0, [], cs, y, h, hy => by
    cases y with
    | nil => exact absurd rfl hy
    | cons c y => rfl
  | 0, _ :: _, cs, y, h, hy => by simp [colsGo] at h
  | n + 1, [], cs, y, h, hy => by simp [colsGo] at h
  | n + 1, k :: b, cs, y, h, hy => by
    unfold colsGo at h
    split at h
    · cases h
    · rename_i h1
      rw [Option.map_eq_some_iff] at h
      obtain ⟨l, hl, rfl⟩ := h
      have ih := colsGo_more hl hy
      simp only [List.cons_append, colsGo]
      rw [if_neg (by simp; omega), List.drop_append_of_le_length (by omega), ih]
      rfl
theorem row_ok {cs : List (List UInt8)} (h : (row cs).2 = 0) : cs.length ≤ 8 ∧ (∀ c ∈ cs, c.length ≤ 70) ∧ (row cs).1 = rowOut cs ∧ (rowOut cs).length ≤ 72 := by
  unfold row at h ⊢
  split at h
  · cases h
  · rename_i h1
    rw [if_neg h1]
    split at h
    · rename_i h2
      rw [if_pos h2]
      split at h
      · cases h
      · rename_i h3
        rw [if_neg h3]
        refine ⟨by omega, fun c hc => ?_, rfl, by omega⟩
        simpa using List.all_eq_true.1 h2 c hc
    · cases h
theorem columns_row {cs : List (List UInt8)} (h : (row cs).2 = 0) : columns (row cs).1 = (cs, 0) := by
  obtain ⟨h1, h2, h3, h4⟩ := row_ok h
  rw [h3]
  have e : (UInt8.ofNat cs.length).toNat = cs.length := by rw [UInt8.toNat_ofNat']; omega
  have hg := colsGo_body h2
  unfold columns
  rw [if_neg (by omega)]
  unfold rowOut
  simp only [e, hg]
  rw [if_neg (by omega)]
theorem row_columns {b : List UInt8} (h : (columns b).2 = 0) : row (columns b).1 = (b, 0) := by
  unfold columns at h ⊢
  split at h
  · cases h
  · rename_i h1
    rw [if_neg h1]
    split at h
    · cases h
    · rename_i n r
      split at h
      · cases h
      · rename_i h2
        rw [if_neg h2]
        split at h
        · rename_i cs hcs
          obtain ⟨i1, i2, i3⟩ := colsGo_some hcs
          have e : rowOut cs = n :: r := by
            unfold rowOut
            rw [i1, ← i3]; simp
          simp only [hcs]
          unfold row
          rw [if_neg (by omega), if_pos (by refine List.all_eq_true.2 fun c hc => ?_; simpa using i2 c hc), e, if_neg h1]
        · cases h
/-- A row that is cut is none; nor is one that goes on. -/
theorem row_cut {cs : List (List UInt8)} (h : (row cs).2 = 0) {m : Nat} (hm : m < (rowOut cs).length) : (columns ((rowOut cs).take m)).2 = 3 := by
  obtain ⟨h1, h2, h3, h4⟩ := row_ok h
  have e : (UInt8.ofNat cs.length).toNat = cs.length := by rw [UInt8.toNat_ofNat']; omega
  have hg := colsGo_body h2
  unfold columns
  rw [if_neg (by simp; omega)]
  unfold rowOut at hm ⊢
  cases m with
  | zero => rfl
  | succ m =>
    rw [List.take_succ_cons]
    simp only [e]
    rw [if_neg (by omega)]
    split
    · rename_i l hl
      exfalso
      have hne : (body cs).drop m ≠ [] := by
        intro h0
        have := congrArg List.length h0
        simp at this hm
        omega
      have := colsGo_more hl hne
      rw [List.take_append_drop, hg] at this
      cases this
    · rfl
theorem row_on {cs : List (List UInt8)} (h : (row cs).2 = 0) (k : UInt8) : (columns (rowOut cs ++ [k])).2 = 3 ∨ (columns (rowOut cs ++ [k])).2 = 6 ∧ (rowOut cs).length = 72 := by
  obtain ⟨h1, h2, h3, h4⟩ := row_ok h
  have e : (UInt8.ofNat cs.length).toNat = cs.length := by rw [UInt8.toNat_ofNat']; omega
  have hg := colsGo_body h2
  by_cases h5 : (rowOut cs).length = 72
  · right
    refine ⟨?_, h5⟩
    unfold columns
    rw [if_pos (by simp; omega)]
  · left
    unfold columns
    rw [if_neg (by simp; omega)]
    unfold rowOut
    simp only [List.cons_append, e]
    rw [if_neg (by omega), colsGo_more hg (by simp)]
end Go.Proofs.YtmnaalpjhkkglaaGreatDoor

/-
  Numbers as texts.
-/
set_option linter.all false
set_option maxRecDepth 10000
namespace Go.Proofs.YtmnaalpjhkkglaaGreatDoor
open Go Hold
variable {E : World0} {w : World} {H R : HP} {K : Value → World → Prop}
def digs : List UInt8 := [48, 49, 50, 51, 52, 53, 54, 55, 56, 57, 97, 98, 99, 100, 101, 102]
def dig (n : Nat) : UInt8 := digs.getD n 0
def digs36 : List UInt8 := [48, 49, 50, 51, 52, 53, 54, 55, 56, 57, 97, 98, 99, 100, 101, 102, 103, 104, 105, 106, 107, 108, 109, 110, 111, 112, 113, 114, 115, 116, 117, 118, 119, 120, 121, 122]
theorem digs36_dig : ∀ n, n < 16 → digs36.getD n 0 = dig n := by decide
/-- The digits of a number to the base 16; none for 0. -/
def hexs (n : Nat) : List UInt8 := if h : n = 0 then [] else hexs (n / 16) ++ [dig (n % 16)]
termination_by n
decreasing_by omega
theorem hexs_zero : hexs 0 = [] := by unfold hexs; simp
theorem hexs_pos {n : Nat} (h : n ≠ 0) : hexs n = hexs (n / 16) ++ [dig (n % 16)] := by
  conv => lhs; unfold hexs
  simp [h]
theorem hexs_small {n : Nat} (h : n < 16) (h0 : n ≠ 0) : hexs n = [dig n] := by
  rw [hexs_pos h0, show n / 16 = 0 by omega, hexs_zero, Nat.mod_eq_of_lt h]; rfl
theorem hexs_length : ∀ (k n : Nat), n < 16 ^ k → (hexs n).length ≤ k
  | 0, n, h => by
    have : n = 0 := by simpa using h
    subst this; rw [hexs_zero]; simp
  | k + 1, n, h => by
    by_cases h0 : n = 0
    · subst h0; rw [hexs_zero]; simp
    · rw [hexs_pos h0, List.length_append]
      have := hexs_length k (n / 16) (by rw [Nat.pow_succ] at h; omega)
      simp; omega
/-- FormatInt's text: one nought for 0. -/
def fmt16 (n : Nat) : List UInt8 := if n = 0 then [48] else hexs n
theorem o_and15q {P : Program} {t : TypeId} {u : Nat} (hu : u < 18446744073709551616) {K : Value → World → Prop} : pvv P (binOp .and t (.int .u64 (u : Int)) (.int .u64 15)) w K = K (.int .u64 ((u % 16 : Nat) : Int)) w := pvv_eq fun w => by
  have e : ((BitVec.ofInt 64 (u : Int)) &&& (BitVec.ofInt 64 15)).toNat = u % 16 := by
    rw [BitVec.toNat_and]
    have h1 : (BitVec.ofInt 64 (u : Int)).toNat = u := by simp; omega
    have h2 : (BitVec.ofInt 64 15).toNat = 15 := by decide
    rw [h1, h2]
    exact Nat.and_two_pow_sub_one_eq_mod u 4
  show (pure (.int .u64 (IntKind.u64.wrap (((BitVec.ofInt 64 (u : Int)) &&& (BitVec.ofInt 64 15)).toNat : Int))) : Sem Value).run P w = _
  rw [e]
  have : IntKind.u64.wrap ((u % 16 : Nat) : Int) = ((u % 16 : Nat) : Int) := by rw [IntKind.wrap_u64]; omega
  rw [this]; rfl
/-- The table by which the lowest bit is found. -/
def Dbt (H : HP) : Prop := RdC H 7 15 (.int .u8 4)
theorem TZ_spec (h : sat E w H) (hd : Dbt H) (k : K (.int .i64 4) w) : Calls prog 151 #[.int .u64 16] w (Ret K) := by
  refine c151 ?_
  unfold B151
  rw [cd_false]
  refine c179 ?_
  unfold B179
  rw [o_eqInt, show decide ((16 : Int) = 0) = false from rfl, cd_false]
  refine pvv_of (v := .int .u64 18446744073709551600) (fun w => by kernel_rfl) ?_
  refine pvv_of (v := .int .u64 16) (fun w => by kernel_rfl) ?_
  refine pvv_of (v := .int .u64 4573923408821661840) (fun w => by kernel_rfl) ?_
  refine pvv_of (v := .int .u64 15) (fun w => by kernel_rfl) ?_
  refine pvv_of (v := .pointer (some ⟨7, 15, none⟩)) (fun w => by kernel_rfl) ?_
  refine ld_cell (hd E w h) ?_
  rw [o_convInt]
  exact k
theorem P2_spec (k : K (.bool true) w) : Calls prog 150 #[.int .i64 16] w (Ret K) := by
  refine c150 ?_
  unfold B150
  refine pvv_of (v := .int .i64 15) (fun w => by kernel_rfl) ?_
  refine pvv_of (v := .int .i64 0) (fun w => by kernel_rfl) ?_
  rw [o_eqInt]
  exact k
theorem map_bv_inj : ∀ {l m : List UInt8}, l.map bv = m.map bv → l = m
  | [], [], _ => rfl
  | [], _ :: _, h => by simp at h
  | _ :: _, [], h => by simp at h
  | a :: l, b :: m, h => by
    simp only [List.map_cons, List.cons.injEq] at h
    rw [bv_ne.1 h.1, map_bv_inj h.2]
theorem drop_set_at {α : Type} {xs : List α} {i : Nat} {v : α} {l : List α} (hi : i < xs.length) (h : xs.drop (i + 1) = l) : (xs.set i v).drop i = v :: l := by
  have : (xs.set i v).drop i = (xs.set i v)[i]'(by simpa using hi) :: (xs.set i v).drop (i + 1) := List.drop_eq_getElem_cons (by simpa using hi)
  rw [this, List.getElem_set_self, List.drop_set]
  simp [h]
theorem Format_spec (h : sat E w H) (hd : Dbt H) {n : Nat} (hn : n < 9223372036854775808) (k : ∀ w', sat E w' H → K (tv (fmt16 n)) w') : Calls prog 70 #[.int .i64 (n : Int), .int .i64 16] w (Ret K) := by
  refine c70 ?_
  unfold B70
  refine c92 ?_
  unfold B92
  have hneg : decide ((n : Int) < 0) = false := by simp
  have hw : IntKind.u64.wrap (n : Int) = (n : Int) := by rw [IntKind.wrap_u64]; omega
  simp only [show decide ((16 : Int) = 10) = false from rfl, hneg, hw, ↓o_nil, ↓o_field, ↓o_add, ↓o_sub, ↓o_mul, ↓o_lss, ↓o_leq, ↓o_gtr, ↓o_geq, ↓o_not, ↓o_pick, ↓o_eqInt, ↓o_neInt, ↓o_eqBool, ↓o_neBool, ↓o_eqPtr, ↓o_nePtr, ↓o_eqPtr', ↓o_eqSl, ↓o_neSl, ↓o_eqStr, ↓o_neStr, ↓o_len, ↓o_lenS, ↓o_min, ↓o_max, ↓o_extract, ↓o_convInt, ↓cd_true, ↓cd_false, ↓gate_tt, ↓gate_ff, ↓gate_tf, ↓gate_ft, ↓gate_undef, ↓o_bind, ↓stay_v, ↓pop_cons, ↓fin_nil, Option.isNone_none, Option.isNone_some, Bool.not_true, Bool.not_false, Nat.zero_add, decide_true, decide_false, if_true, if_false, Bool.false_eq_true, ↓reduceIte]
  refine c120 ?_
  unfold B120
  simp only [show decide ((16 : Int) < 2) = false from rfl, show decide ((16 : Int) = 10) = false from rfl, show decide ((36 : Int) < 16) = false from rfl, ↓o_nil, ↓o_field, ↓o_add, ↓o_sub, ↓o_mul, ↓o_lss, ↓o_leq, ↓o_gtr, ↓o_geq, ↓o_not, ↓o_pick, ↓o_eqInt, ↓o_neInt, ↓o_eqBool, ↓o_neBool, ↓o_eqPtr, ↓o_nePtr, ↓o_eqPtr', ↓o_eqSl, ↓o_neSl, ↓o_eqStr, ↓o_neStr, ↓o_len, ↓o_lenS, ↓o_min, ↓o_max, ↓o_extract, ↓o_convInt, ↓cd_true, ↓cd_false, ↓gate_tt, ↓gate_ff, ↓gate_tf, ↓gate_ft, ↓gate_undef, ↓o_bind, ↓stay_v, ↓pop_cons, ↓fin_nil, Option.isNone_none, Option.isNone_some, Bool.not_true, Bool.not_false, Nat.zero_add, decide_true, decide_false, if_true, if_false, Bool.false_eq_true, ↓reduceIte]
  refine jn_cut (fun σ w => σ = [] ∧ sat E w H) (fun kk hkk => hkk _ _ ⟨rfl, h⟩) ?_
  clear h
  rintro σ w ⟨rfl, h⟩
  simp only [↓o_nil, ↓o_field, ↓o_add, ↓o_sub, ↓o_mul, ↓o_lss, ↓o_leq, ↓o_gtr, ↓o_geq, ↓o_not, ↓o_pick, ↓o_eqInt, ↓o_neInt, ↓o_eqBool, ↓o_neBool, ↓o_eqPtr, ↓o_nePtr, ↓o_eqPtr', ↓o_eqSl, ↓o_neSl, ↓o_eqStr, ↓o_neStr, ↓o_len, ↓o_lenS, ↓o_min, ↓o_max, ↓o_extract, ↓o_convInt, ↓cd_true, ↓cd_false, ↓gate_tt, ↓gate_ff, ↓gate_tf, ↓gate_ft, ↓gate_undef, ↓o_bind, ↓stay_v, ↓pop_cons, ↓fin_nil, Option.isNone_none, Option.isNone_some, Bool.not_true, Bool.not_false, Nat.zero_add, decide_true, decide_false, if_true, if_false, Bool.false_eq_true, ↓reduceIte]
  refine alloc_sl h fun b w h => ?_
  have h : sat E w (pts b (.cells (List.replicate 65 (bv 0)).toArray 222 (0, 0)) * H) := h
  refine jn_cut (fun σ w => σ = [.int .u64 (n : Int)] ∧ sat E w (pts b (.cells (List.replicate 65 (bv 0)).toArray 222 (0, 0)) * H)) (fun kk hkk => hkk _ _ ⟨rfl, h⟩) ?_
  clear h
  rintro σ w ⟨rfl, h⟩
  rw [pop_cons, fin_nil]
  refine jn_cut (fun σ w => ∃ (i : Nat) (xs : List Value), σ = [.int .i64 (i : Int)] ∧ xs.length = 65 ∧ i ≤ 65 ∧ xs.drop i = (fmt16 n).map bv ∧ sat E w (pts b (.cells xs.toArray 222 (0, 0)) * H)) (fun kk hkk => ?_) ?_
  · refine P2_spec ?_
    simp only [show IntKind.u64.wrap 16 = 16 from rfl, ↓o_nil, ↓o_field, ↓o_add, ↓o_sub, ↓o_mul, ↓o_lss, ↓o_leq, ↓o_gtr, ↓o_geq, ↓o_not, ↓o_pick, ↓o_eqInt, ↓o_neInt, ↓o_eqBool, ↓o_neBool, ↓o_eqPtr, ↓o_nePtr, ↓o_eqPtr', ↓o_eqSl, ↓o_neSl, ↓o_eqStr, ↓o_neStr, ↓o_len, ↓o_lenS, ↓o_min, ↓o_max, ↓o_extract, ↓o_convInt, ↓cd_true, ↓cd_false, ↓gate_tt, ↓gate_ff, ↓gate_tf, ↓gate_ft, ↓gate_undef, ↓o_bind, ↓stay_v, ↓pop_cons, ↓fin_nil, Option.isNone_none, Option.isNone_some, Bool.not_true, Bool.not_false, Nat.zero_add, decide_true, decide_false, if_true, if_false, Bool.false_eq_true, ↓reduceIte]
    refine TZ_spec h hd.right ?_
    simp only [show IntKind.u64.wrap 16 = 16 from rfl, show IntKind.u64.wrap 4 = 4 from rfl, show IntKind.u64.wrap ((16 : Int) - 1) = 15 from rfl, ↓o_nil, ↓o_field, ↓o_add, ↓o_sub, ↓o_mul, ↓o_lss, ↓o_leq, ↓o_gtr, ↓o_geq, ↓o_not, ↓o_pick, ↓o_eqInt, ↓o_neInt, ↓o_eqBool, ↓o_neBool, ↓o_eqPtr, ↓o_nePtr, ↓o_eqPtr', ↓o_eqSl, ↓o_neSl, ↓o_eqStr, ↓o_neStr, ↓o_len, ↓o_lenS, ↓o_min, ↓o_max, ↓o_extract, ↓o_convInt, ↓cd_true, ↓cd_false, ↓gate_tt, ↓gate_ff, ↓gate_tf, ↓gate_ft, ↓gate_undef, ↓o_bind, ↓stay_v, ↓pop_cons, ↓fin_nil, Option.isNone_none, Option.isNone_some, Bool.not_true, Bool.not_false, Nat.zero_add, decide_true, decide_false, if_true, if_false, Bool.false_eq_true, ↓reduceIte]
    refine lp_nat (fun q σ w => ∃ (u i : Nat) (xs : List Value), σ = [.int .u64 (u : Int), .int .i64 (i : Int)] ∧ q = u ∧ u ≤ n ∧ u < 16 ^ (i - 49) ∧ 49 ≤ i ∧ i ≤ 65 ∧ xs.length = 65 ∧ (n ≠ 0 → u ≠ 0) ∧ (∀ l : List UInt8, xs.drop i = l.map bv → hexs n = hexs u ++ l) ∧ (∃ l : List UInt8, xs.drop i = l.map bv) ∧ sat E w (pts b (.cells xs.toArray 222 (0, 0)) * H)) n
      ⟨n, 65, List.replicate 65 (bv 0), rfl, rfl, Nat.le_refl _, by show n < 16 ^ 16; omega, by omega, by omega, by simp, fun h => h, fun l hl => by
        have : l = [] := by
          have := congrArg List.length hl
          simp at this
          exact List.eq_nil_of_length_eq_zero this.symm
        subst this; simp, ⟨[], by simp⟩, h⟩ ?_
    clear h
    rintro q σ w again ⟨u, i, xs, rfl, hq, hun, hui, hi1, hi2, hxl, hnz, hl1, ⟨l, hl2⟩, h⟩ hag
    rw [pop_cons, pop_cons, fin_nil, o_geq]
    have hu64 : u < 18446744073709551616 := by omega
    refine cd_dec (fun hge => ?_) (fun hlt => ?_)
    · have hi3 : 50 ≤ i := by
        rcases Nat.lt_or_ge i 50 with h5 | h5
        · rw [show i - 49 = 0 by omega] at hui; simp at hui; omega
        · exact h5
      have e1 : IntKind.i64.wrap ((i : Int) - 1) = ((i - 1 : Nat) : Int) := by rw [i64_of (by omega) (by omega)]; omega
      rw [o_sub, e1, o_and15q hu64]
      rw [show (Value.string ⟨#[48, 49, 50, 51, 52, 53, 54, 55, 56, 57, 97, 98, 99, 100, 101, 102, 103, 104, 105, 106, 107, 108, 109, 110, 111, 112, 113, 114, 115, 116, 117, 118, 119, 120, 121, 122]⟩) = tv digs36 from rfl, o_indexT (by omega) (by show u % 16 < 36; omega), Int.toNat_natCast, digs36_dig _ (by omega), o_indexA (by omega) (by omega)]
      refine store_sl (b := b) (o := 0 + ((i - 1 : Nat) : Int).toNat) h rfl (by rw [Int.toNat_natCast]; omega) fun w h => ?_
      rw [show Value.int .u64 4 = Value.int .u64 ((4 : Nat) : Int) from rfl, o_shr (by decide)]
      have hdr : (xs.set (0 + ((i - 1 : Nat) : Int).toNat) (bv (dig (u % 16)))).drop (i - 1) = bv (dig (u % 16)) :: l.map bv := by
        rw [Nat.zero_add, Int.toNat_natCast]
        exact drop_set_at (by omega) (by rw [show i - 1 + 1 = i by omega]; exact hl2)
      refine hag (u / 16) _ _ (by omega) ⟨u / 16, i - 1, _, rfl, rfl, by omega, ?_, by omega, by omega, by rw [List.length_set]; exact hxl, fun h0 => by omega, fun l' hl' => ?_, ⟨dig (u % 16) :: l, hdr⟩, h⟩
      · rw [show i - 49 = (i - 1 - 49) + 1 by omega, Nat.pow_succ] at hui; omega
      · rw [hdr] at hl'
        have e2 : l' = dig (u % 16) :: l := by
          exact (map_bv_inj (by rw [← hl']; rfl)).symm
        rw [e2, hl1 l hl2, hexs_pos (show u ≠ 0 by omega)]; simp
    · have hi3 : 1 ≤ i := by omega
      have e1 : IntKind.i64.wrap ((i : Int) - 1) = ((i - 1 : Nat) : Int) := by rw [i64_of (by omega) (by omega)]; omega
      have hu16 : u < 16 := by omega
      rw [o_sub, e1, show (Value.string ⟨#[48, 49, 50, 51, 52, 53, 54, 55, 56, 57, 97, 98, 99, 100, 101, 102, 103, 104, 105, 106, 107, 108, 109, 110, 111, 112, 113, 114, 115, 116, 117, 118, 119, 120, 121, 122]⟩) = tv digs36 from rfl, o_indexT (by omega) (by show u < 36; omega), Int.toNat_natCast, digs36_dig _ hu16, o_indexA (by omega) (by omega)]
      refine store_sl (b := b) (o := 0 + ((i - 1 : Nat) : Int).toNat) h rfl (by rw [Int.toNat_natCast]; omega) fun w h => ?_
      have hdr : (xs.set (0 + ((i - 1 : Nat) : Int).toNat) (bv (dig u))).drop (i - 1) = bv (dig u) :: l.map bv := by
        rw [Nat.zero_add, Int.toNat_natCast]
        exact drop_set_at (by omega) (by rw [show i - 1 + 1 = i by omega]; exact hl2)
      refine hkk _ _ ⟨i - 1, _, rfl, by rw [List.length_set]; exact hxl, by omega, ?_, h⟩
      rw [hdr]
      have hh := hl1 l hl2
      unfold fmt16
      by_cases h0 : n = 0
      · subst h0
        have hu0 : u = 0 := by omega
        subst hu0
        rw [hexs_zero] at hh
        have : l = [] := by simpa using hh.symm
        subst this
        rfl
      · rw [if_neg h0, hh, hexs_small hu16 (hnz h0)]; rfl
  · clear h
    rintro σ w ⟨i, xs, rfl, hxl, hi, hdr, h⟩
    rw [pop_cons, fin_nil]
    refine jn_cut (fun σ w => σ = [.int .i64 (i : Int)] ∧ sat E w (pts b (.cells xs.toArray 222 (0, 0)) * H)) (fun kk hkk => by (try rw [cd_false]); exact hkk _ _ ⟨rfl, h⟩) ?_
    clear h
    rintro σ w ⟨rfl, h⟩
    have hfl : (fmt16 n).length + i = 65 := by
      have := congrArg List.length hdr
      simp at this; omega
    have hfp : 0 < (fmt16 n).length := by
      unfold fmt16
      split
      · simp
      · rename_i h0; rw [hexs_pos h0]; simp
    rw [pop_cons, fin_nil]
    (try rw [cd_false]); rw [o_sliceA_l (by omega) (by omega), Int.toNat_natCast]
    refine conv_bs (l := fmt16 n) ⟨_, _, by rw [show 65 - i = (fmt16 n).length by omega], by omega, .inr ⟨b, 0 + i, _, _, _, rfl, Has.get h, fun j v hj => ?_⟩⟩ ?_
    · rw [← hdr, List.getElem?_drop] at hj
      simpa using hj
    · try simp only [↓o_nil, ↓o_field, ↓o_add, ↓o_sub, ↓o_mul, ↓o_lss, ↓o_leq, ↓o_gtr, ↓o_geq, ↓o_not, ↓o_pick, ↓o_eqInt, ↓o_neInt, ↓o_eqBool, ↓o_neBool, ↓o_eqPtr, ↓o_nePtr, ↓o_eqPtr', ↓o_eqSl, ↓o_neSl, ↓o_eqStr, ↓o_neStr, ↓o_len, ↓o_lenS, ↓o_min, ↓o_max, ↓o_extract, ↓o_convInt, ↓cd_true, ↓cd_false, ↓gate_tt, ↓gate_ff, ↓gate_tf, ↓gate_ft, ↓gate_undef, ↓o_bind, ↓stay_v, ↓pop_cons, ↓fin_nil, Option.isNone_none, Option.isNone_some, Bool.not_true, Bool.not_false, Nat.zero_add, decide_true, decide_false, if_true, if_false, Bool.false_eq_true, ↓reduceIte]
      exact k _ h.drop
theorem TrimPrefix_spec {s : List UInt8} (k : K (tv (if s.take 1 = [48] then s.drop 1 else s)) w) : Calls prog 69 #[tv s, tv [48]] w (Ret K) := by
  refine c69 ?_
  unfold B69
  refine c91 ?_
  unfold B91
  refine c102 ?_
  unfold B102
  rw [o_lenT, o_lenT, o_geq, show ([48] : List UInt8).length = 1 from rfl]
  by_cases h1 : 1 ≤ s.length
  · have f1 : ((1 : Nat) : Int) ≤ s.length := by omega
    simp only [f1, ↓o_lenT, ↓o_nil, ↓o_field, ↓o_add, ↓o_sub, ↓o_mul, ↓o_lss, ↓o_leq, ↓o_gtr, ↓o_geq, ↓o_not, ↓o_pick, ↓o_eqInt, ↓o_neInt, ↓o_eqBool, ↓o_neBool, ↓o_eqPtr, ↓o_nePtr, ↓o_eqPtr', ↓o_eqSl, ↓o_neSl, ↓o_eqStr, ↓o_neStr, ↓o_len, ↓o_lenS, ↓o_min, ↓o_max, ↓o_extract, ↓o_convInt, ↓cd_true, ↓cd_false, ↓gate_tt, ↓gate_ff, ↓gate_tf, ↓gate_ft, ↓gate_undef, ↓o_bind, ↓stay_v, ↓pop_cons, ↓fin_nil, Option.isNone_none, Option.isNone_some, Bool.not_true, Bool.not_false, Nat.zero_add, decide_true, decide_false, if_true, if_false, Bool.false_eq_true, ↓reduceIte, show ([48] : List UInt8).length = 1 from rfl]
    rw [o_sliceT_h (by omega) (by omega), Int.toNat_natCast]
    simp only [↓o_eqT, ↓o_nil, ↓o_field, ↓o_add, ↓o_sub, ↓o_mul, ↓o_lss, ↓o_leq, ↓o_gtr, ↓o_geq, ↓o_not, ↓o_pick, ↓o_eqInt, ↓o_neInt, ↓o_eqBool, ↓o_neBool, ↓o_eqPtr, ↓o_nePtr, ↓o_eqPtr', ↓o_eqSl, ↓o_neSl, ↓o_eqStr, ↓o_neStr, ↓o_len, ↓o_lenS, ↓o_min, ↓o_max, ↓o_extract, ↓o_convInt, ↓cd_true, ↓cd_false, ↓gate_tt, ↓gate_ff, ↓gate_tf, ↓gate_ft, ↓gate_undef, ↓o_bind, ↓stay_v, ↓pop_cons, ↓fin_nil, Option.isNone_none, Option.isNone_some, Bool.not_true, Bool.not_false, Nat.zero_add, decide_true, decide_false, if_true, if_false, Bool.false_eq_true, ↓reduceIte]
    by_cases h2 : s.take 1 = [48]
    · simp only [h2, ↓o_lenT, ↓o_nil, ↓o_field, ↓o_add, ↓o_sub, ↓o_mul, ↓o_lss, ↓o_leq, ↓o_gtr, ↓o_geq, ↓o_not, ↓o_pick, ↓o_eqInt, ↓o_neInt, ↓o_eqBool, ↓o_neBool, ↓o_eqPtr, ↓o_nePtr, ↓o_eqPtr', ↓o_eqSl, ↓o_neSl, ↓o_eqStr, ↓o_neStr, ↓o_len, ↓o_lenS, ↓o_min, ↓o_max, ↓o_extract, ↓o_convInt, ↓cd_true, ↓cd_false, ↓gate_tt, ↓gate_ff, ↓gate_tf, ↓gate_ft, ↓gate_undef, ↓o_bind, ↓stay_v, ↓pop_cons, ↓fin_nil, Option.isNone_none, Option.isNone_some, Bool.not_true, Bool.not_false, Nat.zero_add, decide_true, decide_false, if_true, if_false, Bool.false_eq_true, ↓reduceIte, show ([48] : List UInt8).length = 1 from rfl]
      rw [o_sliceT_l (by omega) (by omega), Int.toNat_natCast]
      rw [if_pos h2] at k
      exact k
    · simp only [h2, ↓o_nil, ↓o_field, ↓o_add, ↓o_sub, ↓o_mul, ↓o_lss, ↓o_leq, ↓o_gtr, ↓o_geq, ↓o_not, ↓o_pick, ↓o_eqInt, ↓o_neInt, ↓o_eqBool, ↓o_neBool, ↓o_eqPtr, ↓o_nePtr, ↓o_eqPtr', ↓o_eqSl, ↓o_neSl, ↓o_eqStr, ↓o_neStr, ↓o_len, ↓o_lenS, ↓o_min, ↓o_max, ↓o_extract, ↓o_convInt, ↓cd_true, ↓cd_false, ↓gate_tt, ↓gate_ff, ↓gate_tf, ↓gate_ft, ↓gate_undef, ↓o_bind, ↓stay_v, ↓pop_cons, ↓fin_nil, Option.isNone_none, Option.isNone_some, Bool.not_true, Bool.not_false, Nat.zero_add, decide_true, decide_false, if_true, if_false, Bool.false_eq_true, ↓reduceIte]
      rw [if_neg h2] at k
      exact k
  · have f1 : ¬ ((1 : Nat) : Int) ≤ s.length := by omega
    have h0 : s = [] := List.eq_nil_of_length_eq_zero (by omega)
    simp only [f1, ↓o_nil, ↓o_field, ↓o_add, ↓o_sub, ↓o_mul, ↓o_lss, ↓o_leq, ↓o_gtr, ↓o_geq, ↓o_not, ↓o_pick, ↓o_eqInt, ↓o_neInt, ↓o_eqBool, ↓o_neBool, ↓o_eqPtr, ↓o_nePtr, ↓o_eqPtr', ↓o_eqSl, ↓o_neSl, ↓o_eqStr, ↓o_neStr, ↓o_len, ↓o_lenS, ↓o_min, ↓o_max, ↓o_extract, ↓o_convInt, ↓cd_true, ↓cd_false, ↓gate_tt, ↓gate_ff, ↓gate_tf, ↓gate_ft, ↓gate_undef, ↓o_bind, ↓stay_v, ↓pop_cons, ↓fin_nil, Option.isNone_none, Option.isNone_some, Bool.not_true, Bool.not_false, Nat.zero_add, decide_true, decide_false, if_true, if_false, Bool.false_eq_true, ↓reduceIte]
    subst h0
    exact k
/-- The text of a number. -/
def numText (n : Nat) : List UInt8 := UInt8.ofNat (97 + (hexs n).length) :: hexs n
def number (n : Int) : List UInt8 × Int := if n < 0 ∨ 4611686018427387904 < n then ([], 2) else (numText n.toNat, 0)
def nv2 (x : List UInt8 × Int) : Value := .tuple #[tv x.1, .int .i64 x.2]
theorem dig_nought : ∀ n, n < 16 → n ≠ 0 → dig n ≠ 48 := by decide
theorem hexs_first {n : Nat} : (hexs n).take 1 ≠ [48] := by
  induction n using Nat.strongRecOn with
  | _ n ih =>
    by_cases h0 : n = 0
    · subst h0; rw [hexs_zero]; simp
    · rw [hexs_pos h0]
      by_cases h1 : n / 16 = 0
      · rw [h1, hexs_zero]
        have := dig_nought (n % 16) (by omega) (by omega)
        simpa using this
      · have hne : hexs (n / 16) ≠ [] := by rw [hexs_pos h1]; simp
        have := ih (n / 16) (by omega)
        rw [List.take_append_of_le_length (by
          have := List.length_pos_iff.2 hne; omega)]
        exact this
theorem conv_rune {P : Program} {s d : TypeId} {n : Nat} (hn : n < 128) [i : Ul P s (.int .i32)] [j : Ul P d .string] (k : K (tv [UInt8.ofNat n]) w) : pvv P (convert s d (.int .i32 (n : Int))) w K := by
  have key : ∀ n : Fin 128, Utf8.encode (n.val : Int) = ⟨#[UInt8.ofNat n.val]⟩ := by decide +kernel
  refine pvv_of (fun w => run_convert_int_string (P := P) w s d .i32 (n : Int) (by rw [i.ul]; rfl) j.ul) ?_
  rw [key ⟨n, hn⟩]
  exact k
theorem Number_spec (h : sat E w H) (hd : Dbt H) {n : Int} (k : ∀ w', sat E w' H → K (nv2 (number n)) w') : Calls prog 52 #[.int .i64 n] w (Ret K) := by
  refine c52 ?_
  unfold B52
  rw [o_lss]
  by_cases h1 : n < 0
  · simp only [h1, ↓o_nil, ↓o_field, ↓o_add, ↓o_sub, ↓o_mul, ↓o_lss, ↓o_leq, ↓o_gtr, ↓o_geq, ↓o_not, ↓o_pick, ↓o_eqInt, ↓o_neInt, ↓o_eqBool, ↓o_neBool, ↓o_eqPtr, ↓o_nePtr, ↓o_eqPtr', ↓o_eqSl, ↓o_neSl, ↓o_eqStr, ↓o_neStr, ↓o_len, ↓o_lenS, ↓o_min, ↓o_max, ↓o_extract, ↓o_convInt, ↓cd_true, ↓cd_false, ↓gate_tt, ↓gate_ff, ↓gate_tf, ↓gate_ft, ↓gate_undef, ↓o_bind, ↓stay_v, ↓pop_cons, ↓fin_nil, Option.isNone_none, Option.isNone_some, Bool.not_true, Bool.not_false, Nat.zero_add, decide_true, decide_false, if_true, if_false, Bool.false_eq_true, ↓reduceIte]
    have e : number n = ([], 2) := by unfold number; rw [if_pos (.inl h1)]
    rw [e] at k
    exact k _ h
  simp only [h1, ↓o_nil, ↓o_field, ↓o_add, ↓o_sub, ↓o_mul, ↓o_lss, ↓o_leq, ↓o_gtr, ↓o_geq, ↓o_not, ↓o_pick, ↓o_eqInt, ↓o_neInt, ↓o_eqBool, ↓o_neBool, ↓o_eqPtr, ↓o_nePtr, ↓o_eqPtr', ↓o_eqSl, ↓o_neSl, ↓o_eqStr, ↓o_neStr, ↓o_len, ↓o_lenS, ↓o_min, ↓o_max, ↓o_extract, ↓o_convInt, ↓cd_true, ↓cd_false, ↓gate_tt, ↓gate_ff, ↓gate_tf, ↓gate_ft, ↓gate_undef, ↓o_bind, ↓stay_v, ↓pop_cons, ↓fin_nil, Option.isNone_none, Option.isNone_some, Bool.not_true, Bool.not_false, Nat.zero_add, decide_true, decide_false, if_true, if_false, Bool.false_eq_true, ↓reduceIte]
  by_cases h2 : 4611686018427387904 < n
  · simp only [h2, ↓o_nil, ↓o_field, ↓o_add, ↓o_sub, ↓o_mul, ↓o_lss, ↓o_leq, ↓o_gtr, ↓o_geq, ↓o_not, ↓o_pick, ↓o_eqInt, ↓o_neInt, ↓o_eqBool, ↓o_neBool, ↓o_eqPtr, ↓o_nePtr, ↓o_eqPtr', ↓o_eqSl, ↓o_neSl, ↓o_eqStr, ↓o_neStr, ↓o_len, ↓o_lenS, ↓o_min, ↓o_max, ↓o_extract, ↓o_convInt, ↓cd_true, ↓cd_false, ↓gate_tt, ↓gate_ff, ↓gate_tf, ↓gate_ft, ↓gate_undef, ↓o_bind, ↓stay_v, ↓pop_cons, ↓fin_nil, Option.isNone_none, Option.isNone_some, Bool.not_true, Bool.not_false, Nat.zero_add, decide_true, decide_false, if_true, if_false, Bool.false_eq_true, ↓reduceIte]
    have e : number n = ([], 2) := by unfold number; rw [if_pos (.inr h2)]
    rw [e] at k
    exact k _ h
  simp only [h2, ↓o_nil, ↓o_field, ↓o_add, ↓o_sub, ↓o_mul, ↓o_lss, ↓o_leq, ↓o_gtr, ↓o_geq, ↓o_not, ↓o_pick, ↓o_eqInt, ↓o_neInt, ↓o_eqBool, ↓o_neBool, ↓o_eqPtr, ↓o_nePtr, ↓o_eqPtr', ↓o_eqSl, ↓o_neSl, ↓o_eqStr, ↓o_neStr, ↓o_len, ↓o_lenS, ↓o_min, ↓o_max, ↓o_extract, ↓o_convInt, ↓cd_true, ↓cd_false, ↓gate_tt, ↓gate_ff, ↓gate_tf, ↓gate_ft, ↓gate_undef, ↓o_bind, ↓stay_v, ↓pop_cons, ↓fin_nil, Option.isNone_none, Option.isNone_some, Bool.not_true, Bool.not_false, Nat.zero_add, decide_true, decide_false, if_true, if_false, Bool.false_eq_true, ↓reduceIte]
  obtain ⟨n, rfl⟩ := Int.eq_ofNat_of_zero_le (show 0 ≤ n by omega)
  have e : number (n : Int) = (numText n, 0) := by unfold number; rw [if_neg (by omega)]; rfl
  rw [e] at k
  refine Format_spec h hd (by omega) fun w h => ?_
  have hlen : (hexs n).length ≤ 16 := hexs_length 16 n (by show n < 16 ^ 16; omega)
  refine TrimPrefix_spec ?_
  have e2 : (if (fmt16 n).take 1 = [48] then (fmt16 n).drop 1 else fmt16 n) = hexs n := by
    unfold fmt16
    by_cases h0 : n = 0
    · subst h0; rw [if_pos rfl, hexs_zero]; rfl
    · rw [if_neg h0, if_neg hexs_first]
  rw [e2, o_lenT, o_add, i64_of (by omega) (by omega), o_convInt]
  have e3 : IntKind.i32.wrap ((97 : Int) + (hexs n).length) = ((97 + (hexs n).length : Nat) : Int) := by rw [IntKind.wrap_i32]; omega
  rw [e3]
  refine conv_rune (P := prog) (s := 21) (d := 9) (n := 97 + (hexs n).length) (by omega) ?_
  rw [o_catT (by simp; omega)]
  exact k _ h
end Go.Proofs.YtmnaalpjhkkglaaGreatDoor

/-
  Events of a chain; numbers as texts, the reference's; the hash behind an event.
-/
set_option linter.all false
set_option maxRecDepth 10000
namespace Go.Proofs.YtmnaalpjhkkglaaGreatDoor
open Go Hold
variable {E : World0} {w : World} {H R : HP} {K : Value → World → Prop}
theorem Dbt.up {H0 H1 R1 : HP} (h : Dbt H1) [s : Split H0 H1 R1] : Dbt H0 := fun E w hs => h E w (hs.split H1).drop'
def numT (n : Int) : List UInt8 := (number n).1
theorem num_spec (h : sat E w H) (hd : Dbt H) {n : Int} (k : ∀ w', sat E w' H → K (tv (numT n)) w') : Calls prog 30 #[.int .i64 n] w (Ret K) := by
  refine c30 ?_
  unfold B30
  refine Number_spec h hd fun w h => ?_
  unfold nv2
  rw [o_extract, o_extract]
  exact k _ h
/-- An event. -/
structure Evt where
  n : Int
  t : Int
  what : List UInt8
  who : List UInt8
  deriving DecidableEq
def ecells (x : Evt) : List Value := [.int .i64 x.n, .int .i64 x.t, tv x.what, tv x.who]
def ev (x : Evt) : Value := .agg (ecells x).toArray
def evs (l : List Evt) : List Value := l.flatMap ecells
def zeroE : Evt := ⟨0, 0, [], []⟩
theorem ecells_one (x : Evt) : ∀ v ∈ ecells x, v.oneCell' = true := by
  intro v hv
  simp [ecells] at hv
  rcases hv with rfl | rfl | rfl | rfl <;> rfl
theorem evs_one (l : List Evt) : ∀ v ∈ evs l, v.oneCell' = true := by
  intro v hv
  obtain ⟨x, _, hx⟩ := List.mem_flatMap.1 hv
  exact ecells_one x v hx
theorem evs_length : ∀ (l : List Evt), (evs l).length = l.length * 4
  | [] => rfl
  | x :: l => by
    have := evs_length l
    simp only [evs, List.flatMap_cons, List.length_append, List.length_cons] at this ⊢
    rw [this]; simp [ecells]; omega
theorem evs_append (a b : List Evt) : evs (a ++ b) = evs a ++ evs b := by simp [evs]
theorem evs_drop : ∀ (l : List Evt) (i : Nat), (evs l).drop (i * 4) = evs (l.drop i)
  | l, 0 => by simp
  | [], i + 1 => by simp [evs]
  | x :: l, i + 1 => by
    have e : evs (x :: l) = ecells x ++ evs l := rfl
    rw [e, List.drop_append, show (i + 1) * 4 = i * 4 + 4 by omega]
    simp [ecells, evs_drop l i]
theorem evs_at {l : List Evt} {i : Nat} {x : Evt} (h : l[i]? = some x) : ((evs l).drop (i * 4)).take 4 = ecells x := by
  rw [evs_drop]
  have hlt := (List.getElem?_eq_some_iff.1 h).1
  rw [List.drop_eq_getElem_cons hlt, (List.getElem?_eq_some_iff.1 h).2]
  rfl
def colsE (x : Evt) : List (List UInt8) := [numT x.n, numT x.t, x.what, x.who]
def rowE (x : Evt) : List UInt8 := (row (colsE x)).1
def nx (h : List UInt8) (x : Evt) : List UInt8 := sha (h ++ rowE x)
theorem nx_length (h : List UInt8) (x : Evt) : (nx h x).length = 32 := sha_length _
theorem row_le (cs : List (List UInt8)) : (row cs).1.length ≤ 72 := by
  unfold row
  split
  · simp
  · split
    · split
      · simp
      · simp only; omega
    · simp
theorem next_spec (h : sat E w H) (hd : Dbt H) {l : List UInt8} (hl : l.length = 32) {x : Evt} (k : ∀ w', sat E w' H → K (.agg ((nx l x).map bv).toArray) w') : Calls prog 28 #[.agg (l.map bv).toArray, ev x] w (Ret K) := by
  refine c28 ?_
  unfold B28
  refine box_sl h fun b1 w h => ?_
  have h : sat E w (pts b1 (.cells (l.map bv).toArray 28 (0, 0)) * H) := h
  refine box_sl h fun b2 w h => ?_
  have h : sat E w (pts b2 (.cells (ecells x).toArray 31 (0, 0)) * (pts b1 (.cells (l.map bv).toArray 28 (0, 0)) * H)) := h
  refine alloc_sl h fun b3 w h => ?_
  have h : sat E w (pts b3 (.cells ((List.replicate 32 (0 : UInt8)).map bv).toArray 28 (0, 0)) * (pts b2 (.cells (ecells x).toArray 31 (0, 0)) * (pts b1 (.cells (l.map bv).toArray 28 (0, 0)) * H))) := h
  refine dr_sl h fun w h _ => ?_
  simp only [↓o_nil, ↓o_field, ↓o_add, ↓o_sub, ↓o_mul, ↓o_lss, ↓o_leq, ↓o_gtr, ↓o_geq, ↓o_not, ↓o_pick, ↓o_eqInt, ↓o_neInt, ↓o_eqBool, ↓o_neBool, ↓o_eqPtr, ↓o_nePtr, ↓o_eqPtr', ↓o_eqSl, ↓o_neSl, ↓o_eqStr, ↓o_neStr, ↓o_len, ↓o_lenS, ↓o_min, ↓o_max, ↓o_extract, ↓o_convInt, ↓cd_true, ↓cd_false, ↓gate_tt, ↓gate_ff, ↓gate_tf, ↓gate_ft, ↓gate_undef, ↓o_bind, ↓stay_v, ↓pop_cons, ↓fin_nil, Option.isNone_none, Option.isNone_some, Bool.not_true, Bool.not_false, Nat.zero_add, decide_true, decide_false, if_true, if_false, Bool.false_eq_true, ↓reduceIte]
  refine ld_in (b := b2) (v := .int .i64 x.n) h rfl ?_
  refine ld_in (b := b2) (v := .int .i64 x.t) h rfl ?_
  refine ld_in (b := b2) (v := tv x.what) h rfl ?_
  refine ld_in (b := b2) (v := tv x.who) h rfl ?_
  have hd3 : Dbt (pts b3 (.cells ((List.replicate 32 (0 : UInt8)).map bv).toArray 28 (0, 0)) * (pts b2 (.cells (ecells x).toArray 31 (0, 0)) * (pts b1 (.cells (l.map bv).toArray 28 (0, 0)) * H))) := hd.right.right.right
  refine num_spec h hd3 fun w h => ?_
  refine st_cell (cell_of ((h.drop.own b2).pts_get) (by rfl)) ?_
  refine st_cell (cell_of ((h.drop.own b2).pts_get) (by rfl)) ?_
  refine st_cell (cell_of ((h.drop.own b2).pts_get) (by rfl)) ?_
  refine num_spec h hd3 fun w h => ?_
  refine st_cell (cell_of ((h.drop.own b2).pts_get) (by rfl)) ?_
  refine st_cell (cell_of ((h.drop.own b2).pts_get) (by rfl)) ?_
  refine st_cell (cell_of ((h.drop.own b2).pts_get) (by rfl)) ?_
  refine buildSlice_sl (e := 9) (cs := ((colsE x).map tv).toArray) h (fun w => by kernel_rfl) fun b4 w h => ?_
  refine st_cell (cell_of ((h.drop.drop.own b2).pts_get) (by rfl)) ?_
  refine st_cell (cell_of ((h.drop.drop.own b2).pts_get) (by rfl)) ?_
  refine Row_spec (ps := colsE x) h (rds_block (b := b4) (Nat.le_refl _)) (by simp [colsE]) fun v w h => ?_
  refine st_cell (cell_of ((h.drop.drop.drop.own b2).pts_get) (by rfl)) ?_
  refine st_cell (cell_of ((h.drop.drop.drop.own b2).pts_get) (by rfl)) ?_
  refine st_cell (cell_of ((h.drop.drop.drop.own b2).pts_get) (by rfl)) ?_
  refine st_cell (cell_of ((h.drop.drop.drop.own b2).pts_get) (by rfl)) ?_
  rw [o_extract, o_extract]
  refine ld_agg (b := b1) h (by simpa using hl) ?_
  have hr := row_le (colsE x)
  refine Chain_spec h hl Rds.osl.left (by omega) fun w h => ?_
  exact hash_ret (b := b3) h (sha_length _) (by simp) fun w h => k _ h.drop.drop.drop.drop.drop
end Go.Proofs.YtmnaalpjhkkglaaGreatDoor

/-
  A chain as it is held; its simple functions; adding.
-/
set_option linter.all false
set_option maxRecDepth 10000
namespace Go.Proofs.YtmnaalpjhkkglaaGreatDoor
open Go Hold
variable {E : World0} {w : World} {H R : HP} {K : Value → World → Prop}
/-- A chain: the base, the anchor, the head, the last time, the events. -/
structure Ch where
  bn : Int
  bh : List UInt8
  an : Int
  ah : List UInt8
  hd : List UInt8
  last : Int
  l : List Evt
structure Ok (s : Ch) (m : Nat) : Prop where
  b : s.bh.length = 32
  a : s.ah.length = 32
  h : s.hd.length = 32
  b0 : 0 ≤ s.bn
  a0 : 0 ≤ s.an
  le : s.an ≤ s.bn + s.l.length
  top : s.bn + s.l.length ≤ m
  few : s.l.length ≤ 64
def icells (s : Ch) (v : Value) : List Value := .int .i64 s.bn :: (s.bh.map bv ++ (.int .i64 s.an :: (s.ah.map bv ++ (s.hd.map bv ++ [.int .i64 s.last, v]))))
theorem part_at {xs : List Value} (A B C : List Value) {o n : Nat} (e : xs = A ++ (B ++ C)) (hA : A.length = o) (hB : B.length = n) : (xs.drop o).take n = B := by rw [e, List.drop_left' hA, List.take_left' hB]
theorem part_cell {xs : List Value} (A C : List Value) {x : Value} {o : Nat} (e : xs = A ++ ([x] ++ C)) (hA : A.length = o) : xs[o]? = some x := by
  have := take_cell (j := 0) (v := x) (part_at A [x] C e hA rfl) rfl
  simpa using this
theorem part_put {xs : List Value} (A B C B' : List Value) {ys : List Value} {o n : Nat} (e : xs = A ++ (B ++ C)) (hA : A.length = o) (hB : B.length = n) (e' : A ++ (B' ++ C) = ys) : xs.take o ++ B' ++ xs.drop (o + n) = ys := by
  rw [e, List.take_left' hA, ← List.append_assoc A B C, List.drop_left' (by rw [List.length_append, hA, hB]), List.append_assoc]
  exact e'
theorem part_set {xs : List Value} (A C : List Value) {x y : Value} {ys : List Value} {o : Nat} (e : xs = A ++ ([x] ++ C)) (hA : A.length = o) (e' : A ++ ([y] ++ C) = ys) : xs.set o y = ys := by
  rw [← take_set_drop xs o y (by rw [e]; simp [hA])]
  exact part_put A [x] C [y] e hA rfl e'
section
variable {s : Ch} {v : Value} {m : Nat}
theorem ic_length (ok : Ok s m) : (icells s v).length = 100 := by simp [icells, ok.b, ok.a, ok.h]
theorem ic_bn : (icells s v)[0]? = some (.int .i64 s.bn) := rfl
theorem ic_an (ok : Ok s m) : (icells s v)[33]? = some (.int .i64 s.an) := part_cell (.int .i64 s.bn :: s.bh.map bv) (s.ah.map bv ++ (s.hd.map bv ++ [.int .i64 s.last, v])) (by simp [icells]) (by simp [ok.b])
theorem ic_last (ok : Ok s m) : (icells s v)[98]? = some (.int .i64 s.last) := part_cell (.int .i64 s.bn :: (s.bh.map bv ++ (.int .i64 s.an :: (s.ah.map bv ++ s.hd.map bv)))) [v] (by simp [icells]) (by simp [ok.b, ok.a, ok.h])
theorem ic_l (ok : Ok s m) : (icells s v)[99]? = some v := part_cell (.int .i64 s.bn :: (s.bh.map bv ++ (.int .i64 s.an :: (s.ah.map bv ++ (s.hd.map bv ++ [.int .i64 s.last]))))) [] (by simp [icells]) (by simp [ok.b, ok.a, ok.h])
theorem ic_ah (ok : Ok s m) : ((icells s v).drop 34).take 32 = s.ah.map bv := part_at (.int .i64 s.bn :: (s.bh.map bv ++ [.int .i64 s.an])) _ (s.hd.map bv ++ [.int .i64 s.last, v]) (by simp [icells]) (by simp [ok.b]) (by simp [ok.a])
theorem ic_hd (ok : Ok s m) : ((icells s v).drop 66).take 32 = s.hd.map bv := part_at (.int .i64 s.bn :: (s.bh.map bv ++ (.int .i64 s.an :: s.ah.map bv))) _ [.int .i64 s.last, v] (by simp [icells]) (by simp [ok.b, ok.a]) (by simp [ok.h])
theorem ic_base (ok : Ok s m) : ((icells s v).drop 0).take 33 = .int .i64 s.bn :: s.bh.map bv := part_at [] _ (.int .i64 s.an :: (s.ah.map bv ++ (s.hd.map bv ++ [.int .i64 s.last, v]))) (by simp [icells]) rfl (by simp [ok.b])
theorem ic_anchor (ok : Ok s m) : ((icells s v).drop 33).take 33 = .int .i64 s.an :: s.ah.map bv := part_at (.int .i64 s.bn :: s.bh.map bv) _ (s.hd.map bv ++ [.int .i64 s.last, v]) (by simp [icells]) (by simp [ok.b]) (by simp [ok.a])
theorem ip_l (ok : Ok s m) {l : List Evt} {u : Value} : (icells s v).set 99 u = icells { s with l := l } u := part_set (.int .i64 s.bn :: (s.bh.map bv ++ (.int .i64 s.an :: (s.ah.map bv ++ (s.hd.map bv ++ [.int .i64 s.last]))))) [] (x := v) (by simp [icells]) (by simp [ok.b, ok.a, ok.h]) (by simp [icells])
theorem ip_last (ok : Ok s m) {t : Int} : (icells s v).set 98 (.int .i64 t) = icells { s with last := t } v := part_set (.int .i64 s.bn :: (s.bh.map bv ++ (.int .i64 s.an :: (s.ah.map bv ++ s.hd.map bv)))) [v] (x := .int .i64 s.last) (by simp [icells]) (by simp [ok.b, ok.a, ok.h]) (by simp [icells])
theorem ip_hd (ok : Ok s m) {h : List UInt8} : (icells s v).take 66 ++ h.map bv ++ (icells s v).drop (66 + 32) = icells { s with hd := h } v := part_put (.int .i64 s.bn :: (s.bh.map bv ++ (.int .i64 s.an :: s.ah.map bv))) (s.hd.map bv) [.int .i64 s.last, v] _ (by simp [icells]) (by simp [ok.b, ok.a]) (by simp [ok.h]) (by simp [icells])
theorem ip_anchor (ok : Ok s m) {n : Int} {h : List UInt8} : (icells s v).take 33 ++ (.int .i64 n :: h.map bv) ++ (icells s v).drop (33 + 33) = icells { s with an := n, ah := h } v := part_put (.int .i64 s.bn :: s.bh.map bv) (.int .i64 s.an :: s.ah.map bv) (s.hd.map bv ++ [.int .i64 s.last, v]) _ (by simp [icells]) (by simp [ok.b]) (by simp [ok.a]) (by simp [icells])
theorem ip_base (ok : Ok s m) {n : Int} {h : List UInt8} : (icells s v).take 0 ++ (.int .i64 n :: h.map bv) ++ (icells s v).drop (0 + 33) = icells { s with bn := n, bh := h } v := part_put [] (.int .i64 s.bn :: s.bh.map bv) (.int .i64 s.an :: (s.ah.map bv ++ (s.hd.map bv ++ [.int .i64 s.last, v]))) _ (by simp [icells]) rfl (by simp [ok.b]) (by simp [icells])
end
abbrev chI (p : Nat) (s : Ch) (v : Value) (R : HP) : HP := pts p (.cells (icells s v).toArray 69 (0, 0)) * (pers (immS v s.l.length (evs s.l)) * R)
theorem Rds.evs {v : Value} {s : Ch} {p : Nat} {R : HP} : Rds (chI p s v R) v s.l.length (evs s.l) := Rds.pers.left.right
def zeros32 : List UInt8 := List.replicate 32 0
def newS : Ch := ⟨0, zeros32, 0, zeros32, zeros32, 0, []⟩
theorem ok_new : Ok newS 0 := ⟨rfl, rfl, rfl, by decide, by decide, by decide, by decide, by decide⟩
theorem New_spec (h : sat E w R) (k : ∀ p w', sat E w' (chI p newS (.slice none 0 0) R) → K (.pointer (some ⟨p, 0, none⟩)) w') : Calls prog 5 #[] w (Ret K) := by
  refine c5 ?_
  unfold B5
  refine pvv_of (v := .agg (icells newS (.slice none 0 0)).toArray) (fun w => by kernel_rfl) ?_
  refine box_sl h fun p w h => k p w ?_
  have h : sat E w (pts p (.cells (icells newS (.slice none 0 0)).toArray 69 (0, 0)) * R) := h
  unfold chI
  rw [star_left_comm]
  exact h.mono fun I h' hp' => (pers_star_p _ _ _ _).2 ⟨⟨none, 0, rfl, Nat.le_refl _, .inl rfl⟩, hp'⟩
theorem Count_spec {p m : Nat} {s : Ch} {a : Option Addr} {c : Nat} (ok : Ok s m) (hm : m ≤ 1000000000000000) (h : sat E w H) [Has H p (.cells (icells s (.slice a s.l.length c)).toArray 69 (0, 0))]
    (k : ∀ w', sat E w' H → K (.int .i64 (s.bn + s.l.length)) w') : Calls prog 27 #[.pointer (some ⟨p, 0, none⟩)] w (Ret K) := by
  have := ok.b0; have := ok.top; have := ok.few
  refine c27 ?_
  unfold B27
  try simp only [↓o_nil, ↓o_field, ↓o_add, ↓o_sub, ↓o_mul, ↓o_lss, ↓o_leq, ↓o_gtr, ↓o_geq, ↓o_not, ↓o_pick, ↓o_eqInt, ↓o_neInt, ↓o_eqBool, ↓o_neBool, ↓o_eqPtr, ↓o_nePtr, ↓o_eqPtr', ↓o_eqSl, ↓o_neSl, ↓o_eqStr, ↓o_neStr, ↓o_len, ↓o_lenS, ↓o_min, ↓o_max, ↓o_extract, ↓o_convInt, ↓cd_true, ↓cd_false, ↓gate_tt, ↓gate_ff, ↓gate_tf, ↓gate_ft, ↓gate_undef, ↓o_bind, ↓stay_v, ↓pop_cons, ↓fin_nil, Option.isNone_none, Option.isNone_some, Bool.not_true, Bool.not_false, Nat.zero_add, decide_true, decide_false, if_true, if_false, Bool.false_eq_true, ↓reduceIte]
  refine dr_sl h fun w h _ => ?_
  try simp only [↓o_nil, ↓o_field, ↓o_add, ↓o_sub, ↓o_mul, ↓o_lss, ↓o_leq, ↓o_gtr, ↓o_geq, ↓o_not, ↓o_pick, ↓o_eqInt, ↓o_neInt, ↓o_eqBool, ↓o_neBool, ↓o_eqPtr, ↓o_nePtr, ↓o_eqPtr', ↓o_eqSl, ↓o_neSl, ↓o_eqStr, ↓o_neStr, ↓o_len, ↓o_lenS, ↓o_min, ↓o_max, ↓o_extract, ↓o_convInt, ↓cd_true, ↓cd_false, ↓gate_tt, ↓gate_ff, ↓gate_tf, ↓gate_ft, ↓gate_undef, ↓o_bind, ↓stay_v, ↓pop_cons, ↓fin_nil, Option.isNone_none, Option.isNone_some, Bool.not_true, Bool.not_false, Nat.zero_add, decide_true, decide_false, if_true, if_false, Bool.false_eq_true, ↓reduceIte]
  refine ld_in (b := p) (v := .int .i64 s.bn) h ic_bn ?_
  refine ld_in (b := p) (v := .slice a s.l.length c) h (ic_l ok) ?_
  rw [o_len, o_add, i64_of (by omega) (by omega)]
  exact k _ h
theorem Count_nil (k : K (.int .i64 0) w) : Calls prog 27 #[.pointer none] w (Ret K) := by
  refine c27 ?_
  unfold B27
  try simp only [↓o_nil, ↓o_field, ↓o_add, ↓o_sub, ↓o_mul, ↓o_lss, ↓o_leq, ↓o_gtr, ↓o_geq, ↓o_not, ↓o_pick, ↓o_eqInt, ↓o_neInt, ↓o_eqBool, ↓o_neBool, ↓o_eqPtr, ↓o_nePtr, ↓o_eqPtr', ↓o_eqSl, ↓o_neSl, ↓o_eqStr, ↓o_neStr, ↓o_len, ↓o_lenS, ↓o_min, ↓o_max, ↓o_extract, ↓o_convInt, ↓cd_true, ↓cd_false, ↓gate_tt, ↓gate_ff, ↓gate_tf, ↓gate_ft, ↓gate_undef, ↓o_bind, ↓stay_v, ↓pop_cons, ↓fin_nil, Option.isNone_none, Option.isNone_some, Bool.not_true, Bool.not_false, Nat.zero_add, decide_true, decide_false, if_true, if_false, Bool.false_eq_true, ↓reduceIte]
  exact k
theorem zeroH_build {K : Value → World → Prop} (k : K (.agg (zeros32.map bv).toArray) w) : pvv prog (Instr.build 28 #[]) w K := pvv_of (fun w => by kernel_rfl) k
theorem Head_spec {p m : Nat} {s : Ch} {v : Value} (ok : Ok s m) (h : sat E w H) [Has H p (.cells (icells s v).toArray 69 (0, 0))]
    (k : ∀ w', sat E w' H → K (.agg (s.hd.map bv).toArray) w') : Calls prog 15 #[.pointer (some ⟨p, 0, none⟩)] w (Ret K) := by
  refine c15 ?_
  unfold B15
  refine alloc_sl h fun b w h => ?_
  have h : sat E w (pts b (.cells (zeros32.map bv).toArray 28 (0, 0)) * H) := h
  try simp only [↓o_nil, ↓o_field, ↓o_add, ↓o_sub, ↓o_mul, ↓o_lss, ↓o_leq, ↓o_gtr, ↓o_geq, ↓o_not, ↓o_pick, ↓o_eqInt, ↓o_neInt, ↓o_eqBool, ↓o_neBool, ↓o_eqPtr, ↓o_nePtr, ↓o_eqPtr', ↓o_eqSl, ↓o_neSl, ↓o_eqStr, ↓o_neStr, ↓o_len, ↓o_lenS, ↓o_min, ↓o_max, ↓o_extract, ↓o_convInt, ↓cd_true, ↓cd_false, ↓gate_tt, ↓gate_ff, ↓gate_tf, ↓gate_ft, ↓gate_undef, ↓o_bind, ↓stay_v, ↓pop_cons, ↓fin_nil, Option.isNone_none, Option.isNone_some, Bool.not_true, Bool.not_false, Nat.zero_add, decide_true, decide_false, if_true, if_false, Bool.false_eq_true, ↓reduceIte]
  refine ld_part (b := p) h (s.hd.map bv) (by simp [ok.h]) (ic_hd ok) ?_
  exact hash_ret (b := b) h ok.h (ol := zeros32) rfl fun w h => k _ h.drop
theorem Head_nil (h : sat E w H) (k : ∀ w', sat E w' H → K (.agg (zeros32.map bv).toArray) w') : Calls prog 15 #[.pointer none] w (Ret K) := by
  refine c15 ?_
  unfold B15
  refine alloc_sl h fun b w h => ?_
  have h : sat E w (pts b (.cells (zeros32.map bv).toArray 28 (0, 0)) * H) := h
  try simp only [↓o_nil, ↓o_field, ↓o_add, ↓o_sub, ↓o_mul, ↓o_lss, ↓o_leq, ↓o_gtr, ↓o_geq, ↓o_not, ↓o_pick, ↓o_eqInt, ↓o_neInt, ↓o_eqBool, ↓o_neBool, ↓o_eqPtr, ↓o_nePtr, ↓o_eqPtr', ↓o_eqSl, ↓o_neSl, ↓o_eqStr, ↓o_neStr, ↓o_len, ↓o_lenS, ↓o_min, ↓o_max, ↓o_extract, ↓o_convInt, ↓cd_true, ↓cd_false, ↓gate_tt, ↓gate_ff, ↓gate_tf, ↓gate_ft, ↓gate_undef, ↓o_bind, ↓stay_v, ↓pop_cons, ↓fin_nil, Option.isNone_none, Option.isNone_some, Bool.not_true, Bool.not_false, Nat.zero_add, decide_true, decide_false, if_true, if_false, Bool.false_eq_true, ↓reduceIte]
  refine zeroH_build ?_
  exact hash_ret (b := b) h (l := zeros32) rfl (ol := zeros32) rfl fun w h => k _ h.drop
theorem hash_ret3 (h : sat E w H) {b : Nat} {l ol : List UInt8} {n : Int} (hl : l.length = 32) (hol : ol.length = 32) [Own H b (.cells (ol.map bv).toArray 28 (0, 0)) R]
    (k : ∀ w', sat E w' (pts b (.cells (l.map bv).toArray 28 (0, 0)) * R) → K (.tuple #[.int .i64 n, .agg (l.map bv).toArray]) w') :
    efu prog (Instr.storeAt 28 (.pointer (some ⟨b, 0, none⟩)) (.agg (l.map bv).toArray)) w fun _ w =>
      ∃ r, (do loadVar 28 (← asAddr (.pointer (some ⟨b, 0, none⟩)))).run prog w = .ok r w ∧ K (.tuple #[.int .i64 n, r]) w :=
  hash_ret (K := fun r w => K (.tuple #[.int .i64 n, r]) w) h hl hol k
theorem Anchored_spec {p m : Nat} {s : Ch} {v : Value} (ok : Ok s m) (h : sat E w H) [Has H p (.cells (icells s v).toArray 69 (0, 0))]
    (k : ∀ w', sat E w' H → K (.tuple #[.int .i64 s.an, .agg (s.ah.map bv).toArray]) w') : Calls prog 29 #[.pointer (some ⟨p, 0, none⟩)] w (Ret K) := by
  refine c29 ?_
  unfold B29
  refine alloc_sl h fun b w h => ?_
  have h : sat E w (pts b (.cells (zeros32.map bv).toArray 28 (0, 0)) * H) := h
  try simp only [↓o_nil, ↓o_field, ↓o_add, ↓o_sub, ↓o_mul, ↓o_lss, ↓o_leq, ↓o_gtr, ↓o_geq, ↓o_not, ↓o_pick, ↓o_eqInt, ↓o_neInt, ↓o_eqBool, ↓o_neBool, ↓o_eqPtr, ↓o_nePtr, ↓o_eqPtr', ↓o_eqSl, ↓o_neSl, ↓o_eqStr, ↓o_neStr, ↓o_len, ↓o_lenS, ↓o_min, ↓o_max, ↓o_extract, ↓o_convInt, ↓cd_true, ↓cd_false, ↓gate_tt, ↓gate_ff, ↓gate_tf, ↓gate_ft, ↓gate_undef, ↓o_bind, ↓stay_v, ↓pop_cons, ↓fin_nil, Option.isNone_none, Option.isNone_some, Bool.not_true, Bool.not_false, Nat.zero_add, decide_true, decide_false, if_true, if_false, Bool.false_eq_true, ↓reduceIte]
  refine dr_sl h fun w h _ => ?_
  try simp only [↓o_nil, ↓o_field, ↓o_add, ↓o_sub, ↓o_mul, ↓o_lss, ↓o_leq, ↓o_gtr, ↓o_geq, ↓o_not, ↓o_pick, ↓o_eqInt, ↓o_neInt, ↓o_eqBool, ↓o_neBool, ↓o_eqPtr, ↓o_nePtr, ↓o_eqPtr', ↓o_eqSl, ↓o_neSl, ↓o_eqStr, ↓o_neStr, ↓o_len, ↓o_lenS, ↓o_min, ↓o_max, ↓o_extract, ↓o_convInt, ↓cd_true, ↓cd_false, ↓gate_tt, ↓gate_ff, ↓gate_tf, ↓gate_ft, ↓gate_undef, ↓o_bind, ↓stay_v, ↓pop_cons, ↓fin_nil, Option.isNone_none, Option.isNone_some, Bool.not_true, Bool.not_false, Nat.zero_add, decide_true, decide_false, if_true, if_false, Bool.false_eq_true, ↓reduceIte]
  refine ld_in (b := p) (v := .int .i64 s.an) h (ic_an ok) ?_
  refine ld_part (b := p) h (s.ah.map bv) (by simp [ok.a]) (ic_ah ok) ?_
  exact hash_ret3 (b := b) h ok.a (ol := zeros32) rfl fun w h => k _ h.drop
theorem Anchored_nil (h : sat E w H) (k : ∀ w', sat E w' H → K (.tuple #[.int .i64 0, .agg (zeros32.map bv).toArray]) w') : Calls prog 29 #[.pointer none] w (Ret K) := by
  refine c29 ?_
  unfold B29
  refine alloc_sl h fun b w h => ?_
  have h : sat E w (pts b (.cells (zeros32.map bv).toArray 28 (0, 0)) * H) := h
  try simp only [↓o_nil, ↓o_field, ↓o_add, ↓o_sub, ↓o_mul, ↓o_lss, ↓o_leq, ↓o_gtr, ↓o_geq, ↓o_not, ↓o_pick, ↓o_eqInt, ↓o_neInt, ↓o_eqBool, ↓o_neBool, ↓o_eqPtr, ↓o_nePtr, ↓o_eqPtr', ↓o_eqSl, ↓o_neSl, ↓o_eqStr, ↓o_neStr, ↓o_len, ↓o_lenS, ↓o_min, ↓o_max, ↓o_extract, ↓o_convInt, ↓cd_true, ↓cd_false, ↓gate_tt, ↓gate_ff, ↓gate_tf, ↓gate_ft, ↓gate_undef, ↓o_bind, ↓stay_v, ↓pop_cons, ↓fin_nil, Option.isNone_none, Option.isNone_some, Bool.not_true, Bool.not_false, Nat.zero_add, decide_true, decide_false, if_true, if_false, Bool.false_eq_true, ↓reduceIte]
  refine zeroH_build ?_
  exact hash_ret3 (b := b) h (l := zeros32) rfl (ol := zeros32) rfl fun w h => k _ h.drop
theorem build57 {n : Int} {l : List UInt8} (hl : l.length = 32) (k : K (.agg (.int .i64 n :: l.map bv).toArray) w) : pvv prog (Instr.build 66 #[(0, .int .i64 n), (1, .agg (l.map bv).toArray)]) w K := by
  obtain ⟨f, rfl⟩ : ∃ f : Nat → UInt8, l = (List.range 32).map f := ⟨fun i => l.getD i 0, by
    apply List.ext_getElem
    · simp [hl]
    · intro i h1 h2
      simp [List.getD_eq_getElem?_getD, h1]⟩
  exact pvv_of (fun w => by kernel_rfl) k
def anchorS (s : Ch) : Ch := { s with an := s.bn + s.l.length, ah := s.hd }
theorem ok_anchor {s : Ch} {m : Nat} (ok : Ok s m) : Ok (anchorS s) m := ⟨ok.b, ok.h, ok.h, ok.b0, by have := ok.b0; simp only [anchorS]; omega, by simp only [anchorS]; omega, ok.top, ok.few⟩
theorem Anchor_spec {p m : Nat} {s : Ch} {v : Value} (ok : Ok s m) (hm : m ≤ 1000000000000000) (h : sat E w (chI p s v R))
    (k : ∀ w', sat E w' (chI p (anchorS s) v R) → K (.tuple #[.int .i64 (anchorS s).an, .agg ((anchorS s).ah.map bv).toArray]) w') : Calls prog 9 #[.pointer (some ⟨p, 0, none⟩)] w (Ret K) := by
  obtain ⟨a, c, rfl, hc, hv, _⟩ := (Rds.evs (s := s)).shape h
  refine c9 ?_
  unfold B9
  refine alloc_sl h fun b w h => ?_
  have h : sat E w (pts b (.cells (zeros32.map bv).toArray 28 (0, 0)) * chI p s (.slice a s.l.length c) R) := h
  try simp only [↓o_nil, ↓o_field, ↓o_add, ↓o_sub, ↓o_mul, ↓o_lss, ↓o_leq, ↓o_gtr, ↓o_geq, ↓o_not, ↓o_pick, ↓o_eqInt, ↓o_neInt, ↓o_eqBool, ↓o_neBool, ↓o_eqPtr, ↓o_nePtr, ↓o_eqPtr', ↓o_eqSl, ↓o_neSl, ↓o_eqStr, ↓o_neStr, ↓o_len, ↓o_lenS, ↓o_min, ↓o_max, ↓o_extract, ↓o_convInt, ↓cd_true, ↓cd_false, ↓gate_tt, ↓gate_ff, ↓gate_tf, ↓gate_ft, ↓gate_undef, ↓o_bind, ↓stay_v, ↓pop_cons, ↓fin_nil, Option.isNone_none, Option.isNone_some, Bool.not_true, Bool.not_false, Nat.zero_add, decide_true, decide_false, if_true, if_false, Bool.false_eq_true, ↓reduceIte]
  refine dr_sl h fun w h _ => ?_
  try simp only [↓o_nil, ↓o_field, ↓o_add, ↓o_sub, ↓o_mul, ↓o_lss, ↓o_leq, ↓o_gtr, ↓o_geq, ↓o_not, ↓o_pick, ↓o_eqInt, ↓o_neInt, ↓o_eqBool, ↓o_neBool, ↓o_eqPtr, ↓o_nePtr, ↓o_eqPtr', ↓o_eqSl, ↓o_neSl, ↓o_eqStr, ↓o_neStr, ↓o_len, ↓o_lenS, ↓o_min, ↓o_max, ↓o_extract, ↓o_convInt, ↓cd_true, ↓cd_false, ↓gate_tt, ↓gate_ff, ↓gate_tf, ↓gate_ft, ↓gate_undef, ↓o_bind, ↓stay_v, ↓pop_cons, ↓fin_nil, Option.isNone_none, Option.isNone_some, Bool.not_true, Bool.not_false, Nat.zero_add, decide_true, decide_false, if_true, if_false, Bool.false_eq_true, ↓reduceIte]
  refine ld_part (b := p) h (s.hd.map bv) (by simp [ok.h]) (ic_hd ok) ?_
  refine Count_spec ok hm h fun w h => ?_
  refine st_part (b := p) h (s.hd.map bv) (by simp [ok.h]) (ic_hd ok) ?_
  refine build57 ok.h ?_
  try simp only [↓o_nil, ↓o_field, ↓o_add, ↓o_sub, ↓o_mul, ↓o_lss, ↓o_leq, ↓o_gtr, ↓o_geq, ↓o_not, ↓o_pick, ↓o_eqInt, ↓o_neInt, ↓o_eqBool, ↓o_neBool, ↓o_eqPtr, ↓o_nePtr, ↓o_eqPtr', ↓o_eqSl, ↓o_neSl, ↓o_eqStr, ↓o_neStr, ↓o_len, ↓o_lenS, ↓o_min, ↓o_max, ↓o_extract, ↓o_convInt, ↓cd_true, ↓cd_false, ↓gate_tt, ↓gate_ff, ↓gate_tf, ↓gate_ft, ↓gate_undef, ↓o_bind, ↓stay_v, ↓pop_cons, ↓fin_nil, Option.isNone_none, Option.isNone_some, Bool.not_true, Bool.not_false, Nat.zero_add, decide_true, decide_false, if_true, if_false, Bool.false_eq_true, ↓reduceIte]
  refine store_part (b := p) h (icells (anchorS s) (.slice a s.l.length c)) (by simp [ok.h]) (by
    intro x hx
    rcases List.mem_cons.1 hx with rfl | hx
    · rfl
    · exact bv_one _ x hx) (by rw [ic_length ok]; omega) (ip_anchor ok) fun w h => ?_
  refine Anchored_spec (p := p) (ok_anchor ok) h fun w h => ?_
  rw [o_extract, o_extract]
  refine hash_ret3 (b := b) h (l := (anchorS s).ah) (ok_anchor ok).a (ol := zeros32) rfl fun w h => k _ ?_
  have h := h.drop
  exact h
end Go.Proofs.YtmnaalpjhkkglaaGreatDoor

/-
  A tree of keys of which none is gone and none was turned: its versions, its keys, sealing and opening.
-/
set_option linter.all false
set_option maxRecDepth 100000
namespace Go.Proofs.YtmnaalpjhkkglaaGreatDoor
open Go Hold
variable {E : World0} {w : World} {H R : HP} {K : Value → World → Prop}
theorem look0_ld (h : sat E w H) {t kt vt b : Nat} {key z : Value} [i : Ul prog t (.map kt vt)] [q : ZeroC prog vt z] [s : OwnM H b [] R] {kd : TypeDesc} (uk : prog.underlying kt = some kd)
    (ck : ∀ (b : Bool) (w : World), (Instr.checkKey b 10000 kt key).run prog w = .ok () w) (kk : K z w) : ldv prog (Instr.lookup t (.map (some b)) key false) w K := by
  obtain ⟨ns, c, st, hp⟩ := sat_omap.1 (h.perm s.eq)
  have hn : ns = [] := List.eq_nil_of_length_eq_zero st.len
  subst hn
  refine ldv_of ?_ kk
  have hb := hp.pts_get
  simp only [ents] at hb
  simp [Instr.lookup, run_underlying' i.ul, getObj_at hb, ck, Instr.findKey, Instr.findNow, run_underlying' uk, run_zero q]
def tcells (root : Bs) (n : Nat) (g a : Nat) : List Value := root.map bv ++ [.int .i64 (n : Int), .map (some g), .map (some a)]
abbrev tI (p : Nat) (root : Bs) (n g a : Nat) (R : HP) : HP := pts p (.cells (tcells root n g a).toArray 73 (0, 0)) * (omap g [] * (omap a [] * R))
section
variable {root : Bs} {n g a : Nat}
theorem tc_root (hr : root.length = 32) : ((tcells root n g a).drop 0).take 32 = root.map bv := part_at [] _ [.int .i64 (n : Int), .map (some g), .map (some a)] (by simp [tcells]) rfl (by simp [hr])
theorem tc_n (hr : root.length = 32) : (tcells root n g a)[32]? = some (.int .i64 (n : Int)) := part_cell (root.map bv) [.map (some g), .map (some a)] (by simp [tcells]) (by simp [hr])
theorem tc_g (hr : root.length = 32) : (tcells root n g a)[33]? = some (.map (some g)) := part_cell (root.map bv ++ [.int .i64 (n : Int)]) [.map (some a)] (by simp [tcells]) (by simp [hr])
theorem tc_a (hr : root.length = 32) : (tcells root n g a)[34]? = some (.map (some a)) := part_cell (root.map bv ++ [.int .i64 (n : Int), .map (some g)]) [] (by simp [tcells]) (by simp [hr])
theorem tp_n (hr : root.length = 32) : (tcells root n g a).set 32 (.int .i64 ((n + 1 : Nat) : Int)) = tcells root (n + 1) g a := part_set (root.map bv) [.map (some g), .map (some a)] (x := .int .i64 (n : Int)) (by simp [tcells]) (by simp [hr]) (by simp [tcells])
theorem tc_len (hr : root.length = 32) : (tcells root n g a).length = 35 := by simp [tcells, hr]
theorem fn32 {l : List UInt8} (hl : l.length = 32) : ∃ f : Nat → UInt8, l = (List.range 32).map f := ⟨fun i => l.getD i 0, by
    apply List.ext_getElem
    · simp [hl]
    · intro i h1 h2
      simp [List.getD_eq_getElem?_getD, h1]⟩
theorem KNew_spec (hr : root.length = 32) (h : sat E w R) (k : ∀ p g a w', sat E w' (tI p root 0 g a R) → K (.pointer (some ⟨p, 0, none⟩)) w') : Calls prog 6 #[.agg (root.map bv).toArray] w (Ret K) := by
  refine c6 ?_
  unfold B6
  refine box_sl h fun b w h => ?_
  have h : sat E w (pts b (.cells (root.map bv).toArray 28 (0, 0)) * R) := h
  refine ld_agg (b := b) h (by simpa using hr) ?_
  refine make_map h fun g w h => ?_
  refine make_map h fun a w h => ?_
  have e : ∀ {K : Value → World → Prop}, K (.agg (tcells root 0 g a).toArray) w → pvv prog (Instr.build 73 #[(0, .agg (root.map bv).toArray), (2, .map (some g)), (3, .map (some a))]) w K := fun {K} k => by
    obtain ⟨f, rfl⟩ := fn32 hr
    exact pvv_of (fun w => by kernel_rfl) k
  refine e ?_
  refine box_sl h fun p w h => k p g a w ?_
  have h : sat E w (pts p (.cells (tcells root 0 g a).toArray 73 (0, 0)) * (omap a [] * (omap g [] * (pts b (.cells (root.map bv).toArray 28 (0, 0)) * R)))) := h
  exact (h.perm (show _ = pts b (.cells (root.map bv).toArray 28 (0, 0)) * (pts p (.cells (tcells root 0 g a).toArray 73 (0, 0)) * (omap g [] * (omap a [] * R))) by ac_rfl)).drop
theorem Current_spec (hr : root.length = 32) {p : Nat} {tn nm : Bs} (ht : isName tn = true) (hn : isName nm = true) (lt : tn.length ≤ 100) (ln : nm.length ≤ 100) (h : sat E w H) {R1 R2 : HP}
    [Has H p (.cells (tcells root n g a).toArray 73 (0, 0))] [OwnM H g [] R1] [OwnM H a [] R2] (k : ∀ w', sat E w' H → K (.tuple #[.int .i64 1, .int .i64 0]) w') :
    Calls prog 31 #[.pointer (some ⟨p, 0, none⟩), tv tn, tv nm] w (Ret K) := by
  refine c31 ?_
  unfold B31
  simp only [↓o_nil, ↓o_field, ↓o_add, ↓o_sub, ↓o_mul, ↓o_lss, ↓o_leq, ↓o_gtr, ↓o_geq, ↓o_not, ↓o_pick, ↓o_eqInt, ↓o_neInt, ↓o_eqBool, ↓o_neBool, ↓o_eqPtr, ↓o_nePtr, ↓o_eqPtr', ↓o_eqSl, ↓o_neSl, ↓o_eqStr, ↓o_neStr, ↓o_len, ↓o_lenS, ↓o_min, ↓o_max, ↓o_extract, ↓o_convInt, ↓cd_true, ↓cd_false, ↓gate_tt, ↓gate_ff, ↓gate_tf, ↓gate_ft, ↓gate_undef, ↓o_bind, ↓stay_v, ↓pop_cons, ↓fin_nil, Option.isNone_none, Option.isNone_some, Bool.not_true, Bool.not_false, Nat.zero_add, decide_true, decide_false, if_true, if_false, Bool.false_eq_true, ↓reduceIte]
  refine IsName_spec h (by omega) fun w h => ?_
  rw [ht]
  simp only [↓o_nil, ↓o_field, ↓o_add, ↓o_sub, ↓o_mul, ↓o_lss, ↓o_leq, ↓o_gtr, ↓o_geq, ↓o_not, ↓o_pick, ↓o_eqInt, ↓o_neInt, ↓o_eqBool, ↓o_neBool, ↓o_eqPtr, ↓o_nePtr, ↓o_eqPtr', ↓o_eqSl, ↓o_neSl, ↓o_eqStr, ↓o_neStr, ↓o_len, ↓o_lenS, ↓o_min, ↓o_max, ↓o_extract, ↓o_convInt, ↓cd_true, ↓cd_false, ↓gate_tt, ↓gate_ff, ↓gate_tf, ↓gate_ft, ↓gate_undef, ↓o_bind, ↓stay_v, ↓pop_cons, ↓fin_nil, Option.isNone_none, Option.isNone_some, Bool.not_true, Bool.not_false, Nat.zero_add, decide_true, decide_false, if_true, if_false, Bool.false_eq_true, ↓reduceIte]
  refine IsName_spec h (by omega) fun w h => ?_
  rw [hn]
  simp only [↓o_nil, ↓o_field, ↓o_add, ↓o_sub, ↓o_mul, ↓o_lss, ↓o_leq, ↓o_gtr, ↓o_geq, ↓o_not, ↓o_pick, ↓o_eqInt, ↓o_neInt, ↓o_eqBool, ↓o_neBool, ↓o_eqPtr, ↓o_nePtr, ↓o_eqPtr', ↓o_eqSl, ↓o_neSl, ↓o_eqStr, ↓o_neStr, ↓o_len, ↓o_lenS, ↓o_min, ↓o_max, ↓o_extract, ↓o_convInt, ↓cd_true, ↓cd_false, ↓gate_tt, ↓gate_ff, ↓gate_tf, ↓gate_ft, ↓gate_undef, ↓o_bind, ↓stay_v, ↓pop_cons, ↓fin_nil, Option.isNone_none, Option.isNone_some, Bool.not_true, Bool.not_false, Nat.zero_add, decide_true, decide_false, if_true, if_false, Bool.false_eq_true, ↓reduceIte]
  refine ld_in (b := p) (v := .map (some g)) h (tc_g hr) ?_
  refine look0_ld (b := g) h (kd := .string) (by kernel_rfl) (fun b w => by kernel_rfl) ?_
  try simp only [↓o_nil, ↓o_field, ↓o_add, ↓o_sub, ↓o_mul, ↓o_lss, ↓o_leq, ↓o_gtr, ↓o_geq, ↓o_not, ↓o_pick, ↓o_eqInt, ↓o_neInt, ↓o_eqBool, ↓o_neBool, ↓o_eqPtr, ↓o_nePtr, ↓o_eqPtr', ↓o_eqSl, ↓o_neSl, ↓o_eqStr, ↓o_neStr, ↓o_len, ↓o_lenS, ↓o_min, ↓o_max, ↓o_extract, ↓o_convInt, ↓cd_true, ↓cd_false, ↓gate_tt, ↓gate_ff, ↓gate_tf, ↓gate_ft, ↓gate_undef, ↓o_bind, ↓stay_v, ↓pop_cons, ↓fin_nil, Option.isNone_none, Option.isNone_some, Bool.not_true, Bool.not_false, Nat.zero_add, decide_true, decide_false, if_true, if_false, Bool.false_eq_true, ↓reduceIte]
  refine ld_in (b := p) (v := .map (some a)) h (tc_a hr) ?_
  refine pvv_of (v := .agg #[tv tn, tv nm]) (fun w => by kernel_rfl) ?_
  obtain ⟨fs, hfs⟩ : ∃ fs, prog.underlying 114 = some (.struct fs) := ⟨prog.fieldsOf 114, by kernel_rfl⟩
  refine look0_ld (b := a) h hfs (fun b w => by kernel_rfl) ?_
  try simp only [↓o_nil, ↓o_field, ↓o_add, ↓o_sub, ↓o_mul, ↓o_lss, ↓o_leq, ↓o_gtr, ↓o_geq, ↓o_not, ↓o_pick, ↓o_eqInt, ↓o_neInt, ↓o_eqBool, ↓o_neBool, ↓o_eqPtr, ↓o_nePtr, ↓o_eqPtr', ↓o_eqSl, ↓o_neSl, ↓o_eqStr, ↓o_neStr, ↓o_len, ↓o_lenS, ↓o_min, ↓o_max, ↓o_extract, ↓o_convInt, ↓cd_true, ↓cd_false, ↓gate_tt, ↓gate_ff, ↓gate_tf, ↓gate_ft, ↓gate_undef, ↓o_bind, ↓stay_v, ↓pop_cons, ↓fin_nil, Option.isNone_none, Option.isNone_some, Bool.not_true, Bool.not_false, Nat.zero_add, decide_true, decide_false, if_true, if_false, Bool.false_eq_true, ↓reduceIte]
  exact k w h
theorem one_text : number 1 = (numText 1, 0) := rfl
theorem TKey_spec (hr : root.length = 32) {p : Nat} {tn nm : Bs} (ht : isName tn = true) (hn : isName nm = true) (lt : tn.length ≤ 100) (ln : nm.length ≤ 100) (hd : Dbt H) (h : sat E w H) {R1 R2 : HP}
    [Has H p (.cells (tcells root n g a).toArray 73 (0, 0))] [OwnM H g [] R1] [OwnM H a [] R2] (k : ∀ w', sat E w' H → K (.tuple #[.agg ((derive root [tn, nm, numText 1]).1.map bv).toArray, .int .i64 (derive root [tn, nm, numText 1]).2]) w') :
    Calls prog 32 #[.pointer (some ⟨p, 0, none⟩), tv tn, tv nm, .int .i64 1] w (Ret K) := by
  refine c32 ?_
  unfold B32
  refine alloc_sl h fun b0 w h => ?_
  have h : sat E w (pts b0 (.cells (hzeros32.map bv).toArray 28 (0, 0)) * H) := h
  refine Current_spec (p := p) (g := g) (a := a) (n := n) hr ht hn lt ln h fun w h => ?_
  simp only [↓o_nil, ↓o_field, ↓o_add, ↓o_sub, ↓o_mul, ↓o_lss, ↓o_leq, ↓o_gtr, ↓o_geq, ↓o_not, ↓o_pick, ↓o_eqInt, ↓o_neInt, ↓o_eqBool, ↓o_neBool, ↓o_eqPtr, ↓o_nePtr, ↓o_eqPtr', ↓o_eqSl, ↓o_neSl, ↓o_eqStr, ↓o_neStr, ↓o_len, ↓o_lenS, ↓o_min, ↓o_max, ↓o_extract, ↓o_convInt, ↓cd_true, ↓cd_false, ↓gate_tt, ↓gate_ff, ↓gate_tf, ↓gate_ft, ↓gate_undef, ↓o_bind, ↓stay_v, ↓pop_cons, ↓fin_nil, Option.isNone_none, Option.isNone_some, Bool.not_true, Bool.not_false, Nat.zero_add, decide_true, decide_false, if_true, if_false, Bool.false_eq_true, ↓reduceIte]
  simp only [show decide ((0 : Int) = 0) = true from rfl, show decide ((1 : Int) < 1) = false from rfl, ↓o_nil, ↓o_field, ↓o_add, ↓o_sub, ↓o_mul, ↓o_lss, ↓o_leq, ↓o_gtr, ↓o_geq, ↓o_not, ↓o_pick, ↓o_eqInt, ↓o_neInt, ↓o_eqBool, ↓o_neBool, ↓o_eqPtr, ↓o_nePtr, ↓o_eqPtr', ↓o_eqSl, ↓o_neSl, ↓o_eqStr, ↓o_neStr, ↓o_len, ↓o_lenS, ↓o_min, ↓o_max, ↓o_extract, ↓o_convInt, ↓cd_true, ↓cd_false, ↓gate_tt, ↓gate_ff, ↓gate_tf, ↓gate_ft, ↓gate_undef, ↓o_bind, ↓stay_v, ↓pop_cons, ↓fin_nil, Option.isNone_none, Option.isNone_some, Bool.not_true, Bool.not_false, Nat.zero_add, decide_true, decide_false, if_true, if_false, Bool.false_eq_true, ↓reduceIte]
  refine Number_spec h hd.right fun w h => ?_
  rw [one_text]
  unfold nv2
  simp only [↓o_nil, ↓o_field, ↓o_add, ↓o_sub, ↓o_mul, ↓o_lss, ↓o_leq, ↓o_gtr, ↓o_geq, ↓o_not, ↓o_pick, ↓o_eqInt, ↓o_neInt, ↓o_eqBool, ↓o_neBool, ↓o_eqPtr, ↓o_nePtr, ↓o_eqPtr', ↓o_eqSl, ↓o_neSl, ↓o_eqStr, ↓o_neStr, ↓o_len, ↓o_lenS, ↓o_min, ↓o_max, ↓o_extract, ↓o_convInt, ↓cd_true, ↓cd_false, ↓gate_tt, ↓gate_ff, ↓gate_tf, ↓gate_ft, ↓gate_undef, ↓o_bind, ↓stay_v, ↓pop_cons, ↓fin_nil, Option.isNone_none, Option.isNone_some, Bool.not_true, Bool.not_false, Nat.zero_add, decide_true, decide_false, if_true, if_false, Bool.false_eq_true, ↓reduceIte]
  refine ld_part (b := p) h (root.map bv) (by simpa using hr) (tc_root hr) ?_
  generalize numText 1 = v1 at k ⊢
  refine buildSlice_sl (e := 9) (cs := ([tn, nm, v1].map tv).toArray) h (fun w => by kernel_rfl) fun b1 w h => ?_
  refine Derive_spec h hr (ls := [tn, nm, v1]) (rds_block (b := b1) (Nat.le_refl _)) fun w h => ?_
  simp only [↓o_nil, ↓o_field, ↓o_add, ↓o_sub, ↓o_mul, ↓o_lss, ↓o_leq, ↓o_gtr, ↓o_geq, ↓o_not, ↓o_pick, ↓o_eqInt, ↓o_neInt, ↓o_eqBool, ↓o_neBool, ↓o_eqPtr, ↓o_nePtr, ↓o_eqPtr', ↓o_eqSl, ↓o_neSl, ↓o_eqStr, ↓o_neStr, ↓o_len, ↓o_lenS, ↓o_min, ↓o_max, ↓o_extract, ↓o_convInt, ↓cd_true, ↓cd_false, ↓gate_tt, ↓gate_ff, ↓gate_tf, ↓gate_ft, ↓gate_undef, ↓o_bind, ↓stay_v, ↓pop_cons, ↓fin_nil, Option.isNone_none, Option.isNone_some, Bool.not_true, Bool.not_false, Nat.zero_add, decide_true, decide_false, if_true, if_false, Bool.false_eq_true, ↓reduceIte]
  refine hash_ret2 (b := b0) h (derive_length _ _) (ol := hzeros32) rfl fun w h => ?_
  exact k w h.drop.drop
end
end Go.Proofs.YtmnaalpjhkkglaaGreatDoor

/-
  Sealing by the tree's key, and opening.
-/
set_option linter.all false
set_option maxRecDepth 100000
namespace Go.Proofs.YtmnaalpjhkkglaaGreatDoor
open Go Hold
variable {E : World0} {w : World} {H R : HP} {K : Value → World → Prop}
section
variable {root : Bs} {n g a : Nat}
theorem TSeal_spec (hr : root.length = 32) (hn : n ≤ 1000000) {p : Nat} {tn nm : Bs} (ht : isName tn = true) (hm : isName nm = true) (lt : tn.length ≤ 100) (ln : nm.length ≤ 100) (hd : Dbt R) {u : Value} {l : Bs} (hl : l.length ≤ 1024)
    (hu : Rds R u l.length (l.map bv)) (h : sat E w (tI p root n g a R))
    (k : ∀ v w', sat E w' (osl 5 1 v (1 + (l.length + 24)) ((1 :: sealB (derive root [tn, nm, numText 1]).1 n l).map bv) * tI p root (n + 1) g a R) → K (.tuple #[v, .int .i64 0]) w') :
    Calls prog 11 #[.pointer (some ⟨p, 0, none⟩), tv tn, tv nm, u] w (Ret K) := by
  refine c11 ?_
  unfold B11
  have hdI : ∀ {n}, Dbt (tI p root n g a R) := fun {n} => hd.right.right.right
  refine Current_spec (p := p) (g := g) (a := a) (n := n) hr ht hm lt ln h fun w h => ?_
  simp only [show decide ((0 : Int) = 0) = true from rfl, ↓o_nil, ↓o_field, ↓o_add, ↓o_sub, ↓o_mul, ↓o_lss, ↓o_leq, ↓o_gtr, ↓o_geq, ↓o_not, ↓o_pick, ↓o_eqInt, ↓o_neInt, ↓o_eqBool, ↓o_neBool, ↓o_eqPtr, ↓o_nePtr, ↓o_eqPtr', ↓o_eqSl, ↓o_neSl, ↓o_eqStr, ↓o_neStr, ↓o_len, ↓o_lenS, ↓o_min, ↓o_max, ↓o_extract, ↓o_convInt, ↓cd_true, ↓cd_false, ↓gate_tt, ↓gate_ff, ↓gate_tf, ↓gate_ft, ↓gate_undef, ↓o_bind, ↓stay_v, ↓pop_cons, ↓fin_nil, Option.isNone_none, Option.isNone_some, Bool.not_true, Bool.not_false, Nat.zero_add, decide_true, decide_false, if_true, if_false, Bool.false_eq_true, ↓reduceIte]
  refine TKey_spec (p := p) (g := g) (a := a) (n := n) hr ht hm lt ln hdI h fun w h => ?_
  simp only [↓o_nil, ↓o_field, ↓o_add, ↓o_sub, ↓o_mul, ↓o_lss, ↓o_leq, ↓o_gtr, ↓o_geq, ↓o_not, ↓o_pick, ↓o_eqInt, ↓o_neInt, ↓o_eqBool, ↓o_neBool, ↓o_eqPtr, ↓o_nePtr, ↓o_eqPtr', ↓o_eqSl, ↓o_neSl, ↓o_eqStr, ↓o_neStr, ↓o_len, ↓o_lenS, ↓o_min, ↓o_max, ↓o_extract, ↓o_convInt, ↓cd_true, ↓cd_false, ↓gate_tt, ↓gate_ff, ↓gate_tf, ↓gate_ft, ↓gate_undef, ↓o_bind, ↓stay_v, ↓pop_cons, ↓fin_nil, Option.isNone_none, Option.isNone_some, Bool.not_true, Bool.not_false, Nat.zero_add, decide_true, decide_false, if_true, if_false, Bool.false_eq_true, ↓reduceIte]
  have hkl := derive_length root [tn, nm, numText 1]
  generalize (derive root [tn, nm, numText 1]).1 = kk at hkl k ⊢
  refine hash_var h hkl fun kb w h => ?_
  refine dr_sl h fun w h _ => ?_
  try simp only [↓o_nil, ↓o_field, ↓o_add, ↓o_sub, ↓o_mul, ↓o_lss, ↓o_leq, ↓o_gtr, ↓o_geq, ↓o_not, ↓o_pick, ↓o_eqInt, ↓o_neInt, ↓o_eqBool, ↓o_neBool, ↓o_eqPtr, ↓o_nePtr, ↓o_eqPtr', ↓o_eqSl, ↓o_neSl, ↓o_eqStr, ↓o_neStr, ↓o_len, ↓o_lenS, ↓o_min, ↓o_max, ↓o_extract, ↓o_convInt, ↓cd_true, ↓cd_false, ↓gate_tt, ↓gate_ff, ↓gate_tf, ↓gate_ft, ↓gate_undef, ↓o_bind, ↓stay_v, ↓pop_cons, ↓fin_nil, Option.isNone_none, Option.isNone_some, Bool.not_true, Bool.not_false, Nat.zero_add, decide_true, decide_false, if_true, if_false, Bool.false_eq_true, ↓reduceIte]
  refine ld_agg (b := kb) h (by simpa using hkl) ?_
  refine ld_in (b := p) (v := .int .i64 (n : Int)) h (tc_n hr) ?_
  simp only [↓o_nil, ↓o_field, ↓o_add, ↓o_sub, ↓o_mul, ↓o_lss, ↓o_leq, ↓o_gtr, ↓o_geq, ↓o_not, ↓o_pick, ↓o_eqInt, ↓o_neInt, ↓o_eqBool, ↓o_neBool, ↓o_eqPtr, ↓o_nePtr, ↓o_eqPtr', ↓o_eqSl, ↓o_neSl, ↓o_eqStr, ↓o_neStr, ↓o_len, ↓o_lenS, ↓o_min, ↓o_max, ↓o_extract, ↓o_convInt, ↓cd_true, ↓cd_false, ↓gate_tt, ↓gate_ff, ↓gate_tf, ↓gate_ft, ↓gate_undef, ↓o_bind, ↓stay_v, ↓pop_cons, ↓fin_nil, Option.isNone_none, Option.isNone_some, Bool.not_true, Bool.not_false, Nat.zero_add, decide_true, decide_false, if_true, if_false, Bool.false_eq_true, ↓reduceIte]
  have e64 : IntKind.u64.wrap (n : Int) = (n : Int) := by rw [IntKind.wrap_u64]; omega
  rw [e64]
  refine Seal_spec h hkl (n := n) (by omega) hu.right.right.right.right (fun hbig => by omega) fun _ sv w h => ?_
  refine st_in (b := p) (v := .int .i64 (n : Int)) h (tc_n hr) ?_
  simp only [show decide ((0 : Int) = 0) = true from rfl, ↓o_nil, ↓o_field, ↓o_add, ↓o_sub, ↓o_mul, ↓o_lss, ↓o_leq, ↓o_gtr, ↓o_geq, ↓o_not, ↓o_pick, ↓o_eqInt, ↓o_neInt, ↓o_eqBool, ↓o_neBool, ↓o_eqPtr, ↓o_nePtr, ↓o_eqPtr', ↓o_eqSl, ↓o_neSl, ↓o_eqStr, ↓o_neStr, ↓o_len, ↓o_lenS, ↓o_min, ↓o_max, ↓o_extract, ↓o_convInt, ↓cd_true, ↓cd_false, ↓gate_tt, ↓gate_ff, ↓gate_tf, ↓gate_ft, ↓gate_undef, ↓o_bind, ↓stay_v, ↓pop_cons, ↓fin_nil, Option.isNone_none, Option.isNone_some, Bool.not_true, Bool.not_false, Nat.zero_add, decide_true, decide_false, if_true, if_false, Bool.false_eq_true, ↓reduceIte]
  refine ld_in (b := p) (v := .int .i64 (n : Int)) h (tc_n hr) ?_
  simp only [decide_eq_false (show ¬ (1099511627776 : Int) ≤ (n : Int) by omega), ↓o_nil, ↓o_field, ↓o_add, ↓o_sub, ↓o_mul, ↓o_lss, ↓o_leq, ↓o_gtr, ↓o_geq, ↓o_not, ↓o_pick, ↓o_eqInt, ↓o_neInt, ↓o_eqBool, ↓o_neBool, ↓o_eqPtr, ↓o_nePtr, ↓o_eqPtr', ↓o_eqSl, ↓o_neSl, ↓o_eqStr, ↓o_neStr, ↓o_len, ↓o_lenS, ↓o_min, ↓o_max, ↓o_extract, ↓o_convInt, ↓cd_true, ↓cd_false, ↓gate_tt, ↓gate_ff, ↓gate_tf, ↓gate_ft, ↓gate_undef, ↓o_bind, ↓stay_v, ↓pop_cons, ↓fin_nil, Option.isNone_none, Option.isNone_some, Bool.not_true, Bool.not_false, Nat.zero_add, decide_true, decide_false, if_true, if_false, Bool.false_eq_true, ↓reduceIte]
  refine ld_in (b := p) (v := .int .i64 (n : Int)) h (tc_n hr) ?_
  simp only [↓o_nil, ↓o_field, ↓o_add, ↓o_sub, ↓o_mul, ↓o_lss, ↓o_leq, ↓o_gtr, ↓o_geq, ↓o_not, ↓o_pick, ↓o_eqInt, ↓o_neInt, ↓o_eqBool, ↓o_neBool, ↓o_eqPtr, ↓o_nePtr, ↓o_eqPtr', ↓o_eqSl, ↓o_neSl, ↓o_eqStr, ↓o_neStr, ↓o_len, ↓o_lenS, ↓o_min, ↓o_max, ↓o_extract, ↓o_convInt, ↓cd_true, ↓cd_false, ↓gate_tt, ↓gate_ff, ↓gate_tf, ↓gate_ft, ↓gate_undef, ↓o_bind, ↓stay_v, ↓pop_cons, ↓fin_nil, Option.isNone_none, Option.isNone_some, Bool.not_true, Bool.not_false, Nat.zero_add, decide_true, decide_false, if_true, if_false, Bool.false_eq_true, ↓reduceIte]
  rw [i64_of (by omega) (by omega)]
  refine store_sl (b := p) h rfl (by rw [tc_len hr]; decide) fun w h => ?_
  rw [show (n : Int) + 1 = ((n + 1 : Nat) : Int) by omega, tp_n hr] at h
  rw [show IntKind.u8.wrap 1 = 1 from rfl]
  refine buildSlice_sl (e := 5) (cs := #[bv 1]) h (fun w => by kernel_rfl) fun tb w h => ?_
  have h := osl_of (n := 1) (sz := 1) (xs := [bv 1]) h rfl (by omega)
  have hsl := sealB_length kk n l
  have hsr : ∀ {X R' : HP}, Rds (X * (osl 5 1 sv (l.length + 24) ((sealB kk n l).map bv) * R')) sv (l.length + 24) ((sealB kk n l).map bv) := Rds.osl.left.right
  have h := h.perm (show _ = osl 5 1 (.slice (some ⟨tb, 0, none⟩) 1 1) 1 [bv 1] * (osl 5 1 sv (l.length + 24) ((sealB kk n l).map bv) * (pts kb (.cells (kk.map bv).toArray 28 (0, 0)) * tI p root (n + 1) g a R)) by unfold tI; ac_rfl)
  obtain ⟨sa, sc, rfl, hsc, _, _⟩ := osl_shape (h.perm (star_left_comm _ _ _))
  refine append_sl (v := .slice (some ⟨tb, 0, none⟩) 1 1) h ((sealB kk n l).map bv) (k' := l.length + 24) (by rw [List.length_map, hsl]; omega) (hsr.win h) (bv_one _) (by omega) (by omega) fun bo w h => ?_
  exact k bo w (h.perm (show _ = osl 5 1 (.slice sa (l.length + 24) sc) (l.length + 24) ((sealB kk n l).map bv) * (pts kb (.cells (kk.map bv).toArray 28 (0, 0)) * (osl 5 1 bo (1 + (l.length + 24)) ((1 :: sealB kk n l).map bv) * tI p root (n + 1) g a R)) by simp only [List.map_cons, List.singleton_append]; unfold tI; ac_rfl)).drop.drop
theorem TOpen_spec (hr : root.length = 32) (hn : n ≤ 1000000) {p : Nat} {tn nm : Bs} (ht : isName tn = true) (hm : isName nm = true) (lt : tn.length ≤ 100) (ln : nm.length ≤ 100) (hd : Dbt R)
    (h0 : (derive root [tn, nm, numText 1]).2 = 0) {u : Value} {q l : Bs} {m : Nat} (hq : q.length ≤ 2000) (hop : openB (derive root [tn, nm, numText 1]).1 q = (l, m, 0))
    (hu : Rds R u (1 + q.length) ((1 :: q).map bv)) (h : sat E w (tI p root n g a R))
    (k : ∀ v w', sat E w' (osl 5 1 v l.length (l.map bv) * tI p root n g a R) → K (.tuple #[v, .int .i64 1, .int .i64 0]) w') :
    Calls prog 12 #[.pointer (some ⟨p, 0, none⟩), tv tn, tv nm, u] w (Ret K) := by
  refine c12 ?_
  unfold B12
  have hdI : ∀ {n}, Dbt (tI p root n g a R) := fun {n} => hd.right.right.right
  obtain ⟨ua, uc, rfl, huc, hu, _⟩ := hu.shape (h.drop.drop.drop)
  obtain ⟨ub, uo, _, e, _, hu⟩ := hu.opened (h.drop.drop.drop) (by simp)
  cases e
  refine Current_spec (p := p) (g := g) (a := a) (n := n) hr ht hm lt ln h fun w h => ?_
  simp only [↓o_nil, ↓o_field, ↓o_add, ↓o_sub, ↓o_mul, ↓o_lss, ↓o_leq, ↓o_gtr, ↓o_geq, ↓o_not, ↓o_pick, ↓o_eqInt, ↓o_neInt, ↓o_eqBool, ↓o_neBool, ↓o_eqPtr, ↓o_nePtr, ↓o_eqPtr', ↓o_eqSl, ↓o_neSl, ↓o_eqStr, ↓o_neStr, ↓o_len, ↓o_lenS, ↓o_min, ↓o_max, ↓o_extract, ↓o_convInt, ↓cd_true, ↓cd_false, ↓gate_tt, ↓gate_ff, ↓gate_tf, ↓gate_ft, ↓gate_undef, ↓o_bind, ↓stay_v, ↓pop_cons, ↓fin_nil, Option.isNone_none, Option.isNone_some, Bool.not_true, Bool.not_false, Nat.zero_add, decide_true, decide_false, if_true, if_false, Bool.false_eq_true, ↓reduceIte]
  unfold jn
  simp only [show decide ((0 : Int) = 0) = true from rfl, decide_eq_false (show ¬ ((1 + q.length : Nat) : Int) = 0 by omega), ↓o_nil, ↓o_field, ↓o_add, ↓o_sub, ↓o_mul, ↓o_lss, ↓o_leq, ↓o_gtr, ↓o_geq, ↓o_not, ↓o_pick, ↓o_eqInt, ↓o_neInt, ↓o_eqBool, ↓o_neBool, ↓o_eqPtr, ↓o_nePtr, ↓o_eqPtr', ↓o_eqSl, ↓o_neSl, ↓o_eqStr, ↓o_neStr, ↓o_len, ↓o_lenS, ↓o_min, ↓o_max, ↓o_extract, ↓o_convInt, ↓cd_true, ↓cd_false, ↓gate_tt, ↓gate_ff, ↓gate_tf, ↓gate_ft, ↓gate_undef, ↓o_bind, ↓stay_v, ↓pop_cons, ↓fin_nil, Option.isNone_none, Option.isNone_some, Bool.not_true, Bool.not_false, Nat.zero_add, decide_true, decide_false, if_true, if_false, Bool.false_eq_true, ↓reduceIte]
  rw [o_index (by omega) (by omega)]
  refine ld_rd h hu.right.right.right 0 rfl (v := bv 1) rfl ?_
  simp only [bv, ↓o_nil, ↓o_field, ↓o_add, ↓o_sub, ↓o_mul, ↓o_lss, ↓o_leq, ↓o_gtr, ↓o_geq, ↓o_not, ↓o_pick, ↓o_eqInt, ↓o_neInt, ↓o_eqBool, ↓o_neBool, ↓o_eqPtr, ↓o_nePtr, ↓o_eqPtr', ↓o_eqSl, ↓o_neSl, ↓o_eqStr, ↓o_neStr, ↓o_len, ↓o_lenS, ↓o_min, ↓o_max, ↓o_extract, ↓o_convInt, ↓cd_true, ↓cd_false, ↓gate_tt, ↓gate_ff, ↓gate_tf, ↓gate_ft, ↓gate_undef, ↓o_bind, ↓stay_v, ↓pop_cons, ↓fin_nil, Option.isNone_none, Option.isNone_some, Bool.not_true, Bool.not_false, Nat.zero_add, decide_true, decide_false, if_true, if_false, Bool.false_eq_true, ↓reduceIte]
  rw [show IntKind.i64.wrap ((1 : UInt8).toNat : Int) = 1 from rfl]
  refine TKey_spec (p := p) (g := g) (a := a) (n := n) hr ht hm lt ln hdI h fun w h => ?_
  simp only [↓o_nil, ↓o_field, ↓o_add, ↓o_sub, ↓o_mul, ↓o_lss, ↓o_leq, ↓o_gtr, ↓o_geq, ↓o_not, ↓o_pick, ↓o_eqInt, ↓o_neInt, ↓o_eqBool, ↓o_neBool, ↓o_eqPtr, ↓o_nePtr, ↓o_eqPtr', ↓o_eqSl, ↓o_neSl, ↓o_eqStr, ↓o_neStr, ↓o_len, ↓o_lenS, ↓o_min, ↓o_max, ↓o_extract, ↓o_convInt, ↓cd_true, ↓cd_false, ↓gate_tt, ↓gate_ff, ↓gate_tf, ↓gate_ft, ↓gate_undef, ↓o_bind, ↓stay_v, ↓pop_cons, ↓fin_nil, Option.isNone_none, Option.isNone_some, Bool.not_true, Bool.not_false, Nat.zero_add, decide_true, decide_false, if_true, if_false, Bool.false_eq_true, ↓reduceIte]
  rw [h0]
  have hkl := derive_length root [tn, nm, numText 1]
  generalize (derive root [tn, nm, numText 1]).1 = kk at hkl hop ⊢
  refine hash_var h hkl fun kb w h => ?_
  simp only [show decide ((0 : Int) = 0) = true from rfl, ↓o_nil, ↓o_field, ↓o_add, ↓o_sub, ↓o_mul, ↓o_lss, ↓o_leq, ↓o_gtr, ↓o_geq, ↓o_not, ↓o_pick, ↓o_eqInt, ↓o_neInt, ↓o_eqBool, ↓o_neBool, ↓o_eqPtr, ↓o_nePtr, ↓o_eqPtr', ↓o_eqSl, ↓o_neSl, ↓o_eqStr, ↓o_neStr, ↓o_len, ↓o_lenS, ↓o_min, ↓o_max, ↓o_extract, ↓o_convInt, ↓cd_true, ↓cd_false, ↓gate_tt, ↓gate_ff, ↓gate_tf, ↓gate_ft, ↓gate_undef, ↓o_bind, ↓stay_v, ↓pop_cons, ↓fin_nil, Option.isNone_none, Option.isNone_some, Bool.not_true, Bool.not_false, Nat.zero_add, decide_true, decide_false, if_true, if_false, Bool.false_eq_true, ↓reduceIte]
  refine dr_sl h fun w h _ => ?_
  rw [o_slice_l (by omega) (by omega), show (1 : Int).toNat = 1 from rfl, show 1 + q.length - 1 = q.length by omega]
  try simp only [↓o_nil, ↓o_field, ↓o_add, ↓o_sub, ↓o_mul, ↓o_lss, ↓o_leq, ↓o_gtr, ↓o_geq, ↓o_not, ↓o_pick, ↓o_eqInt, ↓o_neInt, ↓o_eqBool, ↓o_neBool, ↓o_eqPtr, ↓o_nePtr, ↓o_eqPtr', ↓o_eqSl, ↓o_neSl, ↓o_eqStr, ↓o_neStr, ↓o_len, ↓o_lenS, ↓o_min, ↓o_max, ↓o_extract, ↓o_convInt, ↓cd_true, ↓cd_false, ↓gate_tt, ↓gate_ff, ↓gate_tf, ↓gate_ft, ↓gate_undef, ↓o_bind, ↓stay_v, ↓pop_cons, ↓fin_nil, Option.isNone_none, Option.isNone_some, Bool.not_true, Bool.not_false, Nat.zero_add, decide_true, decide_false, if_true, if_false, Bool.false_eq_true, ↓reduceIte]
  refine ld_agg (b := kb) h (by simpa using hkl) ?_
  have hcut : ∀ {X Y Z V : HP}, Rds (X * (Y * (Z * (V * R)))) (.slice (cutA (some ⟨ub, uo, none⟩) uc 1 1) q.length (uc - 1)) q.length (q.map bv) := fun {X Y Z V} => by
    have h5 : Rds R (.slice (cutA (some ⟨ub, uo, none⟩) uc 1 1) (1 + q.length - 1) (uc - 1)) (1 + q.length - 1) (((1 :: q).drop 1).map bv) := Rds.cutB (l := 1 :: q) hu (by simp [Nat.add_comm]) (lo := 1) (by omega)
    rw [show 1 + q.length - 1 = q.length by omega] at h5
    exact h5.right.right.right.right
  refine Open_spec h hkl (s := q) hcut (by omega) fun pv_ w h => ?_
  rw [hop] at h ⊢
  simp only [show decide ((0 : Int) = 0) = true from rfl, ↓o_nil, ↓o_field, ↓o_add, ↓o_sub, ↓o_mul, ↓o_lss, ↓o_leq, ↓o_gtr, ↓o_geq, ↓o_not, ↓o_pick, ↓o_eqInt, ↓o_neInt, ↓o_eqBool, ↓o_neBool, ↓o_eqPtr, ↓o_nePtr, ↓o_eqPtr', ↓o_eqSl, ↓o_neSl, ↓o_eqStr, ↓o_neStr, ↓o_len, ↓o_lenS, ↓o_min, ↓o_max, ↓o_extract, ↓o_convInt, ↓cd_true, ↓cd_false, ↓gate_tt, ↓gate_ff, ↓gate_tf, ↓gate_ft, ↓gate_undef, ↓o_bind, ↓stay_v, ↓pop_cons, ↓fin_nil, Option.isNone_none, Option.isNone_some, Bool.not_true, Bool.not_false, Nat.zero_add, decide_true, decide_false, if_true, if_false, Bool.false_eq_true, ↓reduceIte]
  exact k pv_ w (h.perm (show _ = pts kb (.cells (kk.map bv).toArray 28 (0, 0)) * (osl 5 1 pv_ l.length (l.map bv) * tI p root n g a R) by unfold tI; ac_rfl)).drop
end
end Go.Proofs.YtmnaalpjhkkglaaGreatDoor

/-
  strings.HasPrefix.
-/
set_option linter.all false
set_option maxRecDepth 100000
namespace Go.Proofs.YtmnaalpjhkkglaaGreatDoor
open Go Hold
variable {E : World0} {w : World} {H R : HP} {K : Value → World → Prop}
theorem HasPrefix_spec {l p : List UInt8} (k : K (.bool (decide (p <+: l))) w) : Calls prog 74 #[tv l, tv p] w (Ret K) := by
  refine c74 ?_
  unfold B74
  refine c102 ?_
  unfold B102
  rw [o_lenT, o_lenT, o_geq]
  by_cases h : p.length ≤ l.length
  · have t1 : decide ((p.length : Int) ≤ (l.length : Int)) = true := decide_eq_true (by omega)
    simp only [t1, ↓o_lenT, ↓o_nil, ↓o_field, ↓o_add, ↓o_sub, ↓o_mul, ↓o_lss, ↓o_leq, ↓o_gtr, ↓o_geq, ↓o_not, ↓o_pick, ↓o_eqInt, ↓o_neInt, ↓o_eqBool, ↓o_neBool, ↓o_eqPtr, ↓o_nePtr, ↓o_eqPtr', ↓o_eqSl, ↓o_neSl, ↓o_eqStr, ↓o_neStr, ↓o_len, ↓o_lenS, ↓o_min, ↓o_max, ↓o_extract, ↓o_convInt, ↓cd_true, ↓cd_false, ↓gate_tt, ↓gate_ff, ↓gate_tf, ↓gate_ft, ↓gate_undef, ↓o_bind, ↓stay_v, ↓pop_cons, ↓fin_nil, Option.isNone_none, Option.isNone_some, Bool.not_true, Bool.not_false, Nat.zero_add, decide_true, decide_false, if_true, if_false, Bool.false_eq_true, ↓reduceIte]
    rw [o_sliceT_h (by omega) (by omega), Int.toNat_natCast, o_eqT]
    have e : decide (l.take p.length = p) = decide (p <+: l) := by
      rw [decide_eq_decide, List.prefix_iff_eq_take]
      exact eq_comm
    rw [e]
    try simp only [↓o_nil, ↓o_field, ↓o_add, ↓o_sub, ↓o_mul, ↓o_lss, ↓o_leq, ↓o_gtr, ↓o_geq, ↓o_not, ↓o_pick, ↓o_eqInt, ↓o_neInt, ↓o_eqBool, ↓o_neBool, ↓o_eqPtr, ↓o_nePtr, ↓o_eqPtr', ↓o_eqSl, ↓o_neSl, ↓o_eqStr, ↓o_neStr, ↓o_len, ↓o_lenS, ↓o_min, ↓o_max, ↓o_extract, ↓o_convInt, ↓cd_true, ↓cd_false, ↓gate_tt, ↓gate_ff, ↓gate_tf, ↓gate_ft, ↓gate_undef, ↓o_bind, ↓stay_v, ↓pop_cons, ↓fin_nil, Option.isNone_none, Option.isNone_some, Bool.not_true, Bool.not_false, Nat.zero_add, decide_true, decide_false, if_true, if_false, Bool.false_eq_true, ↓reduceIte]
    exact k
  · have t1 : decide ((p.length : Int) ≤ (l.length : Int)) = false := decide_eq_false (by omega)
    have e : decide (p <+: l) = false := decide_eq_false (fun hp => h hp.length_le)
    rw [e] at k
    simp only [t1, ↓o_nil, ↓o_field, ↓o_add, ↓o_sub, ↓o_mul, ↓o_lss, ↓o_leq, ↓o_gtr, ↓o_geq, ↓o_not, ↓o_pick, ↓o_eqInt, ↓o_neInt, ↓o_eqBool, ↓o_neBool, ↓o_eqPtr, ↓o_nePtr, ↓o_eqPtr', ↓o_eqSl, ↓o_neSl, ↓o_eqStr, ↓o_neStr, ↓o_len, ↓o_lenS, ↓o_min, ↓o_max, ↓o_extract, ↓o_convInt, ↓cd_true, ↓cd_false, ↓gate_tt, ↓gate_ff, ↓gate_tf, ↓gate_ft, ↓gate_undef, ↓o_bind, ↓stay_v, ↓pop_cons, ↓fin_nil, Option.isNone_none, Option.isNone_some, Bool.not_true, Bool.not_false, Nat.zero_add, decide_true, decide_false, if_true, if_false, Bool.false_eq_true, ↓reduceIte]
    exact k
end Go.Proofs.YtmnaalpjhkkglaaGreatDoor

/-
  strconv.ParseUint on hexadecimal digits; codec.ToNumber.
-/
set_option linter.all false
set_option maxRecDepth 100000
namespace Go.Proofs.YtmnaalpjhkkglaaGreatDoor
open Go Hold
variable {E : World0} {w : World} {H R : HP} {K : Value → World → Prop}
def hexSet : List UInt8 := [48, 49, 50, 51, 52, 53, 54, 55, 56, 57, 97, 98, 99, 100, 101, 102]
def hexv (c : UInt8) : Nat := if c.toNat ≤ 57 then c.toNat - 48 else c.toNat - 87
def hexVal (l : List UInt8) : Nat := l.foldl (fun n c => n * 16 + hexv c) 0
theorem hex_byte : ∀ n, n < 256 → UInt8.ofNat n ∈ hexSet → (48 ≤ n ∧ n ≤ 57) ∨ (97 ≤ n ∧ n ≤ 102) := by decide +kernel
theorem hex_mem {c : UInt8} (h : c ∈ hexSet) : (48 ≤ c.toNat ∧ c.toNat ≤ 57) ∨ (97 ≤ c.toNat ∧ c.toNat ≤ 102) := hex_byte c.toNat c.toNat_lt (by simpa using h)
theorem or32 : ∀ n, n < 256 → 97 ≤ n → n ≤ 102 → UInt8.ofNat n ||| 32 = UInt8.ofNat n := by decide +kernel
theorem or32c {c : UInt8} (h : 97 ≤ c.toNat ∧ c.toNat ≤ 102) : c ||| 32 = c := by
  have := or32 c.toNat c.toNat_lt h.1 h.2
  simpa using this
theorem hexv_lt {c : UInt8} (h : c ∈ hexSet) : hexv c < 16 := by
  unfold hexv
  rcases hex_mem h with h | h
  · rw [if_pos h.2]; omega
  · rw [if_neg (by omega)]; omega
theorem hexVal_snoc (l : List UInt8) (c : UInt8) : hexVal (l ++ [c]) = hexVal l * 16 + hexv c := by unfold hexVal; rw [List.foldl_append]; rfl
theorem foldl_lt : ∀ (l : List UInt8) (n : Nat), (∀ c ∈ l, c ∈ hexSet) → l.foldl (fun n c => n * 16 + hexv c) n < (n + 1) * 16 ^ l.length
  | [], n, _ => by simp
  | c :: l, n, h => by
    have ih := foldl_lt l (n * 16 + hexv c) fun d hd => h d (by simp [hd])
    have hc := hexv_lt (h c (by simp))
    refine Nat.lt_of_lt_of_le (by simpa using ih) ?_
    rw [List.length_cons, Nat.pow_succ, Nat.mul_comm (16 ^ l.length) 16, ← Nat.mul_assoc]
    exact Nat.mul_le_mul_right _ (by omega)
theorem hexVal_lt {l : List UInt8} (h : ∀ c ∈ l, c ∈ hexSet) : hexVal l < 16 ^ l.length := by
  have := foldl_lt l 0 h
  unfold hexVal
  simpa using this
theorem lower_spec {c : UInt8} (k : K (bv (c ||| 32)) w) : Calls prog 128 #[bv c] w (Ret K) := by
  refine c128 ?_
  unfold B128
  rw [show (Value.int .u8 32) = bv 32 from rfl, o_orB]
  exact k
theorem Parse_spec {ds : List UInt8} (hd : ∀ c ∈ ds, c ∈ hexSet) (hl : ds.length ≤ 16) (h : sat E w H) (k : ∀ w', sat E w' H → K (.tuple #[.int .u64 (hexVal ds : Int), .nilIface]) w') :
    Calls prog 103 #[tv (48 :: ds), .int .i64 16, .int .i64 64] w (Ret K) := by
  have e0 : (.string ⟨#[]⟩ : Value) = tv [] := rfl
  have w9 : IntKind.u64.wrap ((0 : Int) - 1) = 18446744073709551615 := by rw [IntKind.wrap_u64]; rfl
  refine c103 ?_
  unfold B103
  rw [e0, o_eqT, decide_eq_false (by simp), cd_false, o_eqInt, decide_eq_false (by decide)]
  refine jn_cut (fun σ w => σ = [tv (48 :: ds), .int .i64 16] ∧ sat E w H) (fun kj hkj => ?_) ?_
  · simp only [decide_eq_true (show (2 : Int) ≤ 16 by decide), decide_eq_true (show (16 : Int) ≤ 36 by decide), ↓o_nil, ↓o_field, ↓o_add, ↓o_sub, ↓o_mul, ↓o_lss, ↓o_leq, ↓o_gtr, ↓o_geq, ↓o_not, ↓o_pick, ↓o_eqInt, ↓o_neInt, ↓o_eqBool, ↓o_neBool, ↓o_eqPtr, ↓o_nePtr, ↓o_eqPtr', ↓o_eqSl, ↓o_neSl, ↓o_eqStr, ↓o_neStr, ↓o_len, ↓o_lenS, ↓o_min, ↓o_max, ↓o_extract, ↓o_convInt, ↓cd_true, ↓cd_false, ↓gate_tt, ↓gate_ff, ↓gate_tf, ↓gate_ft, ↓gate_undef, ↓o_bind, ↓stay_v, ↓pop_cons, ↓fin_nil, Option.isNone_none, Option.isNone_some, Bool.not_true, Bool.not_false, Nat.zero_add, decide_true, decide_false, if_true, if_false, Bool.false_eq_true, ↓reduceIte]
    exact hkj _ _ ⟨rfl, h⟩
  clear h
  rintro σ w ⟨rfl, h⟩
  rw [pop_cons, pop_cons, fin_nil]
  refine jn_cut (fun σ w => σ = [.int .i64 64] ∧ sat E w H) (fun kj hkj => ?_) ?_
  · rw [o_eqInt, decide_eq_false (by decide), cd_false, o_lss]
    simp only [decide_eq_false (show ¬ (64 : Int) < 0 by decide), decide_eq_false (show ¬ (64 : Int) < 64 by decide), ↓o_nil, ↓o_field, ↓o_add, ↓o_sub, ↓o_mul, ↓o_lss, ↓o_leq, ↓o_gtr, ↓o_geq, ↓o_not, ↓o_pick, ↓o_eqInt, ↓o_neInt, ↓o_eqBool, ↓o_neBool, ↓o_eqPtr, ↓o_nePtr, ↓o_eqPtr', ↓o_eqSl, ↓o_neSl, ↓o_eqStr, ↓o_neStr, ↓o_len, ↓o_lenS, ↓o_min, ↓o_max, ↓o_extract, ↓o_convInt, ↓cd_true, ↓cd_false, ↓gate_tt, ↓gate_ff, ↓gate_tf, ↓gate_ft, ↓gate_undef, ↓o_bind, ↓stay_v, ↓pop_cons, ↓fin_nil, Option.isNone_none, Option.isNone_some, Bool.not_true, Bool.not_false, Nat.zero_add, decide_true, decide_false, if_true, if_false, Bool.false_eq_true, ↓reduceIte]
    exact hkj _ _ ⟨rfl, h⟩
  clear h
  rintro σ w ⟨rfl, h⟩
  rw [pop_cons, fin_nil]
  refine jn_cut (fun σ w => σ = [.int .u64 1152921504606846976] ∧ sat E w H) (fun kj hkj => ?_) ?_
  · rw [o_eqInt, decide_eq_false (by decide), cd_false, o_eqInt, decide_eq_true (by decide), cd_true]
    exact hkj _ _ ⟨rfl, h⟩
  clear h
  rintro σ w ⟨rfl, h⟩
  rw [pop_cons, fin_nil, o_convInt, show (IntKind.u64.wrap 64) = ((64 : Nat) : Int) by rw [IntKind.wrap_u64]; rfl, o_shl (by decide), show IntKind.u64.wrap (1 * 2 ^ 64) = 0 by rw [IntKind.wrap_u64]; rfl, o_sub, w9]
  refine conv_sb h fun b c sp fr w h hc => ?_
  have hL : ∀ c ∈ (48 :: ds), c ∈ hexSet := fun c hc => by
    rcases List.mem_cons.1 hc with rfl | hc
    · decide
    · exact hd c hc
  have hval : ∀ i, i ≤ 16 → hexVal ((48 :: ds).take i) < 1152921504606846976 := by
    intro i hi
    cases i with
    | zero => simp [hexVal]
    | succ i =>
      have e : hexVal ((48 :: ds).take (i + 1)) = hexVal (ds.take i) := by
        rw [List.take_succ_cons]
        unfold hexVal
        rw [List.foldl_cons, show (0 * 16 + hexv 48) = 0 from rfl]
      rw [e]
      have h1 := hexVal_lt (l := ds.take i) fun c hc => hd c (List.mem_of_mem_take hc)
      refine Nat.lt_of_lt_of_le h1 ?_
      have h2 : (ds.take i).length ≤ 15 := by rw [List.length_take]; omega
      calc 16 ^ (ds.take i).length ≤ 16 ^ 15 := Nat.pow_le_pow_right (by decide) h2
        _ = 1152921504606846976 := by decide
  have hlen : (48 :: ds).length ≤ 17 := by simp; omega
  have hfin : hexVal (48 :: ds) = hexVal ds := by
    unfold hexVal
    rw [List.foldl_cons, show (0 * 16 + hexv 48) = 0 from rfl]
  rw [o_len]
  generalize 48 :: ds = l at hL hval hlen hfin h hc
  refine lp_nat (fun r σ w => ∃ i : Nat, σ = [.bool false, .int .u64 (hexVal (l.take i) : Int), .int .i64 (i : Int)] ∧ r = l.length - i ∧ i ≤ l.length ∧ sat E w (pts b (.cells (l.map bv ++ sp).toArray 5 fr) * H)) l.length ⟨0, by simp [hexVal], by omega, by omega, h⟩ ?_
  clear h
  rintro r σ w again ⟨i, rfl, rfl, hi, h⟩ hag
  rw [pop_cons, pop_cons, pop_cons, fin_nil, o_lss]
  refine cd_dec (fun hlt => ?_) (fun hge => ?_)
  · have hi1 : i < l.length := by omega
    have hx : l[i]? = some l[i] := List.getElem?_eq_getElem hi1
    have hm := hL _ (List.getElem_mem hi1)
    have htk : l.take (i + 1) = l.take i ++ [l[i]] := List.take_succ_eq_append_getElem hi1
    generalize l[i] = d at hx hm htk
    have hv := hval i (by omega)
    have hdv := hexv_lt hm
    have hnext : hexVal (l.take (i + 1)) = hexVal (l.take i) * 16 + hexv d := by rw [htk, hexVal_snoc]
    refine jn_cut (fun σ w => σ = [.bool false, .int .u64 (hexVal (l.take (i + 1)) : Int)] ∧ sat E w (pts b (.cells (l.map bv ++ sp).toArray 5 fr) * H)) (fun kj hkj => ?_) ?_
    · rw [o_index (by omega) (by omega)]
      refine ld_in (b := b) (v := bv d) h (by
        rw [Nat.zero_add, Int.toNat_natCast, List.getElem?_append_left (by simpa using hi1), List.getElem?_map, Nat.mul_one, hx]
        rfl) ?_
      have hdn := d.toNat_lt
      refine jn_cut (fun σ w => σ = [.bool false, .int .u8 (hexv d : Int)] ∧ sat E w (pts b (.cells (l.map bv ++ sp).toArray 5 fr) * H)) (fun kj2 hkj2 => ?_) ?_
      · rw [show bv d = .int .u8 (d.toNat : Int) from rfl, o_eqInt]
        have h95 : ¬ (d.toNat : Int) = 95 := by rcases hex_mem hm with h | h <;> omega
        simp only [decide_eq_false h95, ↓o_nil, ↓o_field, ↓o_add, ↓o_sub, ↓o_mul, ↓o_lss, ↓o_leq, ↓o_gtr, ↓o_geq, ↓o_not, ↓o_pick, ↓o_eqInt, ↓o_neInt, ↓o_eqBool, ↓o_neBool, ↓o_eqPtr, ↓o_nePtr, ↓o_eqPtr', ↓o_eqSl, ↓o_neSl, ↓o_eqStr, ↓o_neStr, ↓o_len, ↓o_lenS, ↓o_min, ↓o_max, ↓o_extract, ↓o_convInt, ↓cd_true, ↓cd_false, ↓gate_tt, ↓gate_ff, ↓gate_tf, ↓gate_ft, ↓gate_undef, ↓o_bind, ↓stay_v, ↓pop_cons, ↓fin_nil, Option.isNone_none, Option.isNone_some, Bool.not_true, Bool.not_false, Nat.zero_add, decide_true, decide_false, if_true, if_false, Bool.false_eq_true, ↓reduceIte]
        rcases hex_mem hm with hr | hr
        · simp only [decide_eq_true (show (48 : Int) ≤ (d.toNat : Int) by omega), decide_eq_true (show (d.toNat : Int) ≤ 57 by omega), ↓o_nil, ↓o_field, ↓o_add, ↓o_sub, ↓o_mul, ↓o_lss, ↓o_leq, ↓o_gtr, ↓o_geq, ↓o_not, ↓o_pick, ↓o_eqInt, ↓o_neInt, ↓o_eqBool, ↓o_neBool, ↓o_eqPtr, ↓o_nePtr, ↓o_eqPtr', ↓o_eqSl, ↓o_neSl, ↓o_eqStr, ↓o_neStr, ↓o_len, ↓o_lenS, ↓o_min, ↓o_max, ↓o_extract, ↓o_convInt, ↓cd_true, ↓cd_false, ↓gate_tt, ↓gate_ff, ↓gate_tf, ↓gate_ft, ↓gate_undef, ↓o_bind, ↓stay_v, ↓pop_cons, ↓fin_nil, Option.isNone_none, Option.isNone_some, Bool.not_true, Bool.not_false, Nat.zero_add, decide_true, decide_false, if_true, if_false, Bool.false_eq_true, ↓reduceIte]
          refine hkj2 _ _ ⟨?_, h⟩
          have e : hexv d = d.toNat - 48 := by unfold hexv; rw [if_pos hr.2]
          rw [e, IntKind.wrap_u8]
          congr 3
          omega
        · simp only [decide_eq_true (show (48 : Int) ≤ (d.toNat : Int) by omega), decide_eq_false (show ¬ (d.toNat : Int) ≤ 57 by omega), ↓o_nil, ↓o_field, ↓o_add, ↓o_sub, ↓o_mul, ↓o_lss, ↓o_leq, ↓o_gtr, ↓o_geq, ↓o_not, ↓o_pick, ↓o_eqInt, ↓o_neInt, ↓o_eqBool, ↓o_neBool, ↓o_eqPtr, ↓o_nePtr, ↓o_eqPtr', ↓o_eqSl, ↓o_neSl, ↓o_eqStr, ↓o_neStr, ↓o_len, ↓o_lenS, ↓o_min, ↓o_max, ↓o_extract, ↓o_convInt, ↓cd_true, ↓cd_false, ↓gate_tt, ↓gate_ff, ↓gate_tf, ↓gate_ft, ↓gate_undef, ↓o_bind, ↓stay_v, ↓pop_cons, ↓fin_nil, Option.isNone_none, Option.isNone_some, Bool.not_true, Bool.not_false, Nat.zero_add, decide_true, decide_false, if_true, if_false, Bool.false_eq_true, ↓reduceIte]
          rw [show Value.int .u8 (d.toNat : Int) = bv d from rfl]
          refine lower_spec ?_
          rw [or32c hr, show bv d = .int .u8 (d.toNat : Int) from rfl]
          simp only [decide_eq_true (show (97 : Int) ≤ (d.toNat : Int) by omega), ↓o_nil, ↓o_field, ↓o_add, ↓o_sub, ↓o_mul, ↓o_lss, ↓o_leq, ↓o_gtr, ↓o_geq, ↓o_not, ↓o_pick, ↓o_eqInt, ↓o_neInt, ↓o_eqBool, ↓o_neBool, ↓o_eqPtr, ↓o_nePtr, ↓o_eqPtr', ↓o_eqSl, ↓o_neSl, ↓o_eqStr, ↓o_neStr, ↓o_len, ↓o_lenS, ↓o_min, ↓o_max, ↓o_extract, ↓o_convInt, ↓cd_true, ↓cd_false, ↓gate_tt, ↓gate_ff, ↓gate_tf, ↓gate_ft, ↓gate_undef, ↓o_bind, ↓stay_v, ↓pop_cons, ↓fin_nil, Option.isNone_none, Option.isNone_some, Bool.not_true, Bool.not_false, Nat.zero_add, decide_true, decide_false, if_true, if_false, Bool.false_eq_true, ↓reduceIte]
          rw [show Value.int .u8 (d.toNat : Int) = bv d from rfl]
          refine lower_spec ?_
          rw [or32c hr, show bv d = .int .u8 (d.toNat : Int) from rfl]
          simp only [decide_eq_true (show (d.toNat : Int) ≤ 122 by omega), ↓o_nil, ↓o_field, ↓o_add, ↓o_sub, ↓o_mul, ↓o_lss, ↓o_leq, ↓o_gtr, ↓o_geq, ↓o_not, ↓o_pick, ↓o_eqInt, ↓o_neInt, ↓o_eqBool, ↓o_neBool, ↓o_eqPtr, ↓o_nePtr, ↓o_eqPtr', ↓o_eqSl, ↓o_neSl, ↓o_eqStr, ↓o_neStr, ↓o_len, ↓o_lenS, ↓o_min, ↓o_max, ↓o_extract, ↓o_convInt, ↓cd_true, ↓cd_false, ↓gate_tt, ↓gate_ff, ↓gate_tf, ↓gate_ft, ↓gate_undef, ↓o_bind, ↓stay_v, ↓pop_cons, ↓fin_nil, Option.isNone_none, Option.isNone_some, Bool.not_true, Bool.not_false, Nat.zero_add, decide_true, decide_false, if_true, if_false, Bool.false_eq_true, ↓reduceIte]
          rw [show Value.int .u8 (d.toNat : Int) = bv d from rfl]
          refine lower_spec ?_
          rw [or32c hr, show bv d = .int .u8 (d.toNat : Int) from rfl]
          try simp only [↓o_nil, ↓o_field, ↓o_add, ↓o_sub, ↓o_mul, ↓o_lss, ↓o_leq, ↓o_gtr, ↓o_geq, ↓o_not, ↓o_pick, ↓o_eqInt, ↓o_neInt, ↓o_eqBool, ↓o_neBool, ↓o_eqPtr, ↓o_nePtr, ↓o_eqPtr', ↓o_eqSl, ↓o_neSl, ↓o_eqStr, ↓o_neStr, ↓o_len, ↓o_lenS, ↓o_min, ↓o_max, ↓o_extract, ↓o_convInt, ↓cd_true, ↓cd_false, ↓gate_tt, ↓gate_ff, ↓gate_tf, ↓gate_ft, ↓gate_undef, ↓o_bind, ↓stay_v, ↓pop_cons, ↓fin_nil, Option.isNone_none, Option.isNone_some, Bool.not_true, Bool.not_false, Nat.zero_add, decide_true, decide_false, if_true, if_false, Bool.false_eq_true, ↓reduceIte]
          refine hkj2 _ _ ⟨?_, h⟩
          have e : hexv d = d.toNat - 87 := by unfold hexv; rw [if_neg (by omega)]
          rw [e, IntKind.wrap_u8, IntKind.wrap_u8]
          congr 3
          omega
      · clear h
        rintro σ w ⟨rfl, h⟩
        rw [pop_cons, pop_cons, fin_nil, o_convInt, show IntKind.u8.wrap 16 = 16 by rw [IntKind.wrap_u8]; rfl, o_geq, decide_eq_false (by omega), cd_false, o_geq, decide_eq_false (by omega), cd_false, o_convInt, show IntKind.u64.wrap 16 = 16 by rw [IntKind.wrap_u64]; rfl, o_mul,
          show IntKind.u64.wrap ((hexVal (l.take i) : Int) * 16) = ((hexVal (l.take i) * 16 : Nat) : Int) by rw [IntKind.wrap_u64]; omega, o_convInt, show IntKind.u64.wrap (hexv d : Int) = (hexv d : Int) by rw [IntKind.wrap_u64]; omega, o_add,
          show IntKind.u64.wrap (((hexVal (l.take i) * 16 : Nat) : Int) + (hexv d : Int)) = ((hexVal (l.take (i + 1)) : Nat) : Int) by rw [IntKind.wrap_u64, hnext]; omega, o_lss, decide_eq_false (by omega)]
        simp only [decide_eq_false (show ¬ (18446744073709551615 : Int) < (hexVal (l.take (i + 1)) : Int) by omega), ↓o_nil, ↓o_field, ↓o_add, ↓o_sub, ↓o_mul, ↓o_lss, ↓o_leq, ↓o_gtr, ↓o_geq, ↓o_not, ↓o_pick, ↓o_eqInt, ↓o_neInt, ↓o_eqBool, ↓o_neBool, ↓o_eqPtr, ↓o_nePtr, ↓o_eqPtr', ↓o_eqSl, ↓o_neSl, ↓o_eqStr, ↓o_neStr, ↓o_len, ↓o_lenS, ↓o_min, ↓o_max, ↓o_extract, ↓o_convInt, ↓cd_true, ↓cd_false, ↓gate_tt, ↓gate_ff, ↓gate_tf, ↓gate_ft, ↓gate_undef, ↓o_bind, ↓stay_v, ↓pop_cons, ↓fin_nil, Option.isNone_none, Option.isNone_some, Bool.not_true, Bool.not_false, Nat.zero_add, decide_true, decide_false, if_true, if_false, Bool.false_eq_true, ↓reduceIte]
        exact hkj _ _ ⟨rfl, h⟩
    · clear h
      rintro σ w ⟨rfl, h⟩
      rw [pop_cons, pop_cons, fin_nil, o_add, i64_of (by omega) (by omega)]
      exact hag (l.length - (i + 1)) _ _ (by omega) ⟨i + 1, rfl, rfl, by omega, h⟩
  · have hi2 : i = l.length := by omega
    subst hi2
    rw [List.take_length, hfin]
    simp only [↓o_nil, ↓o_field, ↓o_add, ↓o_sub, ↓o_mul, ↓o_lss, ↓o_leq, ↓o_gtr, ↓o_geq, ↓o_not, ↓o_pick, ↓o_eqInt, ↓o_neInt, ↓o_eqBool, ↓o_neBool, ↓o_eqPtr, ↓o_nePtr, ↓o_eqPtr', ↓o_eqSl, ↓o_neSl, ↓o_eqStr, ↓o_neStr, ↓o_len, ↓o_lenS, ↓o_min, ↓o_max, ↓o_extract, ↓o_convInt, ↓cd_true, ↓cd_false, ↓gate_tt, ↓gate_ff, ↓gate_tf, ↓gate_ft, ↓gate_undef, ↓o_bind, ↓stay_v, ↓pop_cons, ↓fin_nil, Option.isNone_none, Option.isNone_some, Bool.not_true, Bool.not_false, Nat.zero_add, decide_true, decide_false, if_true, if_false, Bool.false_eq_true, ↓reduceIte]
    exact k w h.drop
theorem neNil {n : Nat} {K : Value → World → Prop} (k : K (.bool false) w) : pvv prog (oEq .neq 151 (.tmp n) (.const .nilIface) .nilIface .nilIface) w K := by
  refine pvv_of (v := .bool false) (fun w => ?_) k
  kernel_rfl
def toNum (l : List UInt8) : Int × Int :=
  if l = [] ∨ ((l.getD 0 0).toNat : Int) ≠ 97 + l.length - 1 ∨ 17 < l.length then (0, 3)
  else if [48] <+: l.drop 1 ∨ ¬ ∀ c ∈ l.drop 1, c ∈ hexSet then (0, 3)
  else if 4611686018427387904 < hexVal (l.drop 1) then (0, 2) else ((hexVal (l.drop 1) : Int), 0)
theorem ToNumber_spec (h : sat E w H) {l : List UInt8} (hl : l.length ≤ 140737488351232) (k : ∀ w', sat E w' H → K (.tuple #[.int .i64 (toNum l).1, .int .i64 (toNum l).2]) w') : Calls prog 59 #[tv l] w (Ret K) := by
  have e0 : (.string ⟨#[]⟩ : Value) = tv [] := rfl
  have e48 : (.string ⟨#[48]⟩ : Value) = tv [48] := rfl
  have eh : (.string ⟨#[48, 49, 50, 51, 52, 53, 54, 55, 56, 57, 97, 98, 99, 100, 101, 102]⟩ : Value) = tv hexSet := rfl
  refine c59 ?_
  unfold B59
  rw [e0, e48, eh, o_eqT]
  have bad : (l = [] ∨ ((l.getD 0 0).toNat : Int) ≠ 97 + l.length - 1 ∨ 17 < l.length) → ∀ w, sat E w H → K (.tuple #[.int .i64 0, .int .i64 3]) w := fun hb w h => by
    have := k w h
    unfold toNum at this
    rw [if_pos hb] at this
    exact this
  by_cases h0 : l = []
  · simp only [decide_eq_true h0, ↓o_nil, ↓o_field, ↓o_add, ↓o_sub, ↓o_mul, ↓o_lss, ↓o_leq, ↓o_gtr, ↓o_geq, ↓o_not, ↓o_pick, ↓o_eqInt, ↓o_neInt, ↓o_eqBool, ↓o_neBool, ↓o_eqPtr, ↓o_nePtr, ↓o_eqPtr', ↓o_eqSl, ↓o_neSl, ↓o_eqStr, ↓o_neStr, ↓o_len, ↓o_lenS, ↓o_min, ↓o_max, ↓o_extract, ↓o_convInt, ↓cd_true, ↓cd_false, ↓gate_tt, ↓gate_ff, ↓gate_tf, ↓gate_ft, ↓gate_undef, ↓o_bind, ↓stay_v, ↓pop_cons, ↓fin_nil, Option.isNone_none, Option.isNone_some, Bool.not_true, Bool.not_false, Nat.zero_add, decide_true, decide_false, if_true, if_false, Bool.false_eq_true, ↓reduceIte]
    exact bad (.inl h0) w h
  have hpos : 0 < l.length := List.length_pos_iff.2 h0
  simp only [decide_eq_false h0, ↓o_nil, ↓o_field, ↓o_add, ↓o_sub, ↓o_mul, ↓o_lss, ↓o_leq, ↓o_gtr, ↓o_geq, ↓o_not, ↓o_pick, ↓o_eqInt, ↓o_neInt, ↓o_eqBool, ↓o_neBool, ↓o_eqPtr, ↓o_nePtr, ↓o_eqPtr', ↓o_eqSl, ↓o_neSl, ↓o_eqStr, ↓o_neStr, ↓o_len, ↓o_lenS, ↓o_min, ↓o_max, ↓o_extract, ↓o_convInt, ↓cd_true, ↓cd_false, ↓gate_tt, ↓gate_ff, ↓gate_tf, ↓gate_ft, ↓gate_undef, ↓o_bind, ↓stay_v, ↓pop_cons, ↓fin_nil, Option.isNone_none, Option.isNone_some, Bool.not_true, Bool.not_false, Nat.zero_add, decide_true, decide_false, if_true, if_false, Bool.false_eq_true, ↓reduceIte]
  rw [o_indexT (x := 0) (by decide) (by simpa using hpos), show (0 : Int).toNat = 0 from rfl]
  rw [show bv (l.getD 0 0) = .int .u8 ((l.getD 0 0).toNat : Int) from rfl]
  have hb0 := (l.getD 0 0).toNat_lt
  simp only [↓o_lenT, ↓o_nil, ↓o_field, ↓o_add, ↓o_sub, ↓o_mul, ↓o_lss, ↓o_leq, ↓o_gtr, ↓o_geq, ↓o_not, ↓o_pick, ↓o_eqInt, ↓o_neInt, ↓o_eqBool, ↓o_neBool, ↓o_eqPtr, ↓o_nePtr, ↓o_eqPtr', ↓o_eqSl, ↓o_neSl, ↓o_eqStr, ↓o_neStr, ↓o_len, ↓o_lenS, ↓o_min, ↓o_max, ↓o_extract, ↓o_convInt, ↓cd_true, ↓cd_false, ↓gate_tt, ↓gate_ff, ↓gate_tf, ↓gate_ft, ↓gate_undef, ↓o_bind, ↓stay_v, ↓pop_cons, ↓fin_nil, Option.isNone_none, Option.isNone_some, Bool.not_true, Bool.not_false, Nat.zero_add, decide_true, decide_false, if_true, if_false, Bool.false_eq_true, ↓reduceIte]
  rw [i64_of (n := ((l.getD 0 0).toNat : Int)) (by omega) (by omega), i64_of (n := (97 : Int) + l.length) (by omega) (by omega), i64_of (by omega) (by omega)]
  by_cases h1 : ((l.getD 0 0).toNat : Int) = 97 + l.length - 1
  case neg =>
    simp only [decide_eq_false h1, ↓o_nil, ↓o_field, ↓o_add, ↓o_sub, ↓o_mul, ↓o_lss, ↓o_leq, ↓o_gtr, ↓o_geq, ↓o_not, ↓o_pick, ↓o_eqInt, ↓o_neInt, ↓o_eqBool, ↓o_neBool, ↓o_eqPtr, ↓o_nePtr, ↓o_eqPtr', ↓o_eqSl, ↓o_neSl, ↓o_eqStr, ↓o_neStr, ↓o_len, ↓o_lenS, ↓o_min, ↓o_max, ↓o_extract, ↓o_convInt, ↓cd_true, ↓cd_false, ↓gate_tt, ↓gate_ff, ↓gate_tf, ↓gate_ft, ↓gate_undef, ↓o_bind, ↓stay_v, ↓pop_cons, ↓fin_nil, Option.isNone_none, Option.isNone_some, Bool.not_true, Bool.not_false, Nat.zero_add, decide_true, decide_false, if_true, if_false, Bool.false_eq_true, ↓reduceIte]
    exact bad (.inr (.inl h1)) w h
  simp only [decide_eq_true h1, ↓o_lenT, ↓o_nil, ↓o_field, ↓o_add, ↓o_sub, ↓o_mul, ↓o_lss, ↓o_leq, ↓o_gtr, ↓o_geq, ↓o_not, ↓o_pick, ↓o_eqInt, ↓o_neInt, ↓o_eqBool, ↓o_neBool, ↓o_eqPtr, ↓o_nePtr, ↓o_eqPtr', ↓o_eqSl, ↓o_neSl, ↓o_eqStr, ↓o_neStr, ↓o_len, ↓o_lenS, ↓o_min, ↓o_max, ↓o_extract, ↓o_convInt, ↓cd_true, ↓cd_false, ↓gate_tt, ↓gate_ff, ↓gate_tf, ↓gate_ft, ↓gate_undef, ↓o_bind, ↓stay_v, ↓pop_cons, ↓fin_nil, Option.isNone_none, Option.isNone_some, Bool.not_true, Bool.not_false, Nat.zero_add, decide_true, decide_false, if_true, if_false, Bool.false_eq_true, ↓reduceIte]
  by_cases h2 : (17 : Int) < l.length
  · simp only [decide_eq_true h2, ↓o_nil, ↓o_field, ↓o_add, ↓o_sub, ↓o_mul, ↓o_lss, ↓o_leq, ↓o_gtr, ↓o_geq, ↓o_not, ↓o_pick, ↓o_eqInt, ↓o_neInt, ↓o_eqBool, ↓o_neBool, ↓o_eqPtr, ↓o_nePtr, ↓o_eqPtr', ↓o_eqSl, ↓o_neSl, ↓o_eqStr, ↓o_neStr, ↓o_len, ↓o_lenS, ↓o_min, ↓o_max, ↓o_extract, ↓o_convInt, ↓cd_true, ↓cd_false, ↓gate_tt, ↓gate_ff, ↓gate_tf, ↓gate_ft, ↓gate_undef, ↓o_bind, ↓stay_v, ↓pop_cons, ↓fin_nil, Option.isNone_none, Option.isNone_some, Bool.not_true, Bool.not_false, Nat.zero_add, decide_true, decide_false, if_true, if_false, Bool.false_eq_true, ↓reduceIte]
    exact bad (.inr (.inr (by omega))) w h
  simp only [decide_eq_false h2, ↓o_nil, ↓o_field, ↓o_add, ↓o_sub, ↓o_mul, ↓o_lss, ↓o_leq, ↓o_gtr, ↓o_geq, ↓o_not, ↓o_pick, ↓o_eqInt, ↓o_neInt, ↓o_eqBool, ↓o_neBool, ↓o_eqPtr, ↓o_nePtr, ↓o_eqPtr', ↓o_eqSl, ↓o_neSl, ↓o_eqStr, ↓o_neStr, ↓o_len, ↓o_lenS, ↓o_min, ↓o_max, ↓o_extract, ↓o_convInt, ↓cd_true, ↓cd_false, ↓gate_tt, ↓gate_ff, ↓gate_tf, ↓gate_ft, ↓gate_undef, ↓o_bind, ↓stay_v, ↓pop_cons, ↓fin_nil, Option.isNone_none, Option.isNone_some, Bool.not_true, Bool.not_false, Nat.zero_add, decide_true, decide_false, if_true, if_false, Bool.false_eq_true, ↓reduceIte]
  have hno : ¬ (l = [] ∨ ((l.getD 0 0).toNat : Int) ≠ 97 + l.length - 1 ∨ 17 < l.length) := by
    rintro (h | h | h)
    · exact h0 h
    · exact h h1
    · omega
  unfold toNum at k
  rw [if_neg hno] at k
  rw [o_sliceT_l (by omega) (by omega), show (1 : Int).toNat = 1 from rfl]
  generalize hds : l.drop 1 = ds at k
  have hdl : ds.length ≤ 16 := by rw [← hds, List.length_drop]; omega
  refine HasPrefix_spec ?_
  by_cases h3 : [48] <+: ds
  · simp only [decide_eq_true h3, ↓o_nil, ↓o_field, ↓o_add, ↓o_sub, ↓o_mul, ↓o_lss, ↓o_leq, ↓o_gtr, ↓o_geq, ↓o_not, ↓o_pick, ↓o_eqInt, ↓o_neInt, ↓o_eqBool, ↓o_neBool, ↓o_eqPtr, ↓o_nePtr, ↓o_eqPtr', ↓o_eqSl, ↓o_neSl, ↓o_eqStr, ↓o_neStr, ↓o_len, ↓o_lenS, ↓o_min, ↓o_max, ↓o_extract, ↓o_convInt, ↓cd_true, ↓cd_false, ↓gate_tt, ↓gate_ff, ↓gate_tf, ↓gate_ft, ↓gate_undef, ↓o_bind, ↓stay_v, ↓pop_cons, ↓fin_nil, Option.isNone_none, Option.isNone_some, Bool.not_true, Bool.not_false, Nat.zero_add, decide_true, decide_false, if_true, if_false, Bool.false_eq_true, ↓reduceIte]
    have := k w h
    rw [if_pos (.inl h3)] at this
    exact this
  simp only [decide_eq_false h3, ↓o_nil, ↓o_field, ↓o_add, ↓o_sub, ↓o_mul, ↓o_lss, ↓o_leq, ↓o_gtr, ↓o_geq, ↓o_not, ↓o_pick, ↓o_eqInt, ↓o_neInt, ↓o_eqBool, ↓o_neBool, ↓o_eqPtr, ↓o_nePtr, ↓o_eqPtr', ↓o_eqSl, ↓o_neSl, ↓o_eqStr, ↓o_neStr, ↓o_len, ↓o_lenS, ↓o_min, ↓o_max, ↓o_extract, ↓o_convInt, ↓cd_true, ↓cd_false, ↓gate_tt, ↓gate_ff, ↓gate_tf, ↓gate_ft, ↓gate_undef, ↓o_bind, ↓stay_v, ↓pop_cons, ↓fin_nil, Option.isNone_none, Option.isNone_some, Bool.not_true, Bool.not_false, Nat.zero_add, decide_true, decide_false, if_true, if_false, Bool.false_eq_true, ↓reduceIte]
  refine Trim_spec ds (by decide) (by decide) (by decide) (by omega) h fun w h => ?_
  rw [o_neT]
  by_cases h4 : ∀ c ∈ ds, c ∈ hexSet
  case neg =>
    have e : decide (trimL hexSet (trimR hexSet ds) = []) = false := decide_eq_false fun e => h4 (trim_all.1 e)
    simp only [e, ↓o_nil, ↓o_field, ↓o_add, ↓o_sub, ↓o_mul, ↓o_lss, ↓o_leq, ↓o_gtr, ↓o_geq, ↓o_not, ↓o_pick, ↓o_eqInt, ↓o_neInt, ↓o_eqBool, ↓o_neBool, ↓o_eqPtr, ↓o_nePtr, ↓o_eqPtr', ↓o_eqSl, ↓o_neSl, ↓o_eqStr, ↓o_neStr, ↓o_len, ↓o_lenS, ↓o_min, ↓o_max, ↓o_extract, ↓o_convInt, ↓cd_true, ↓cd_false, ↓gate_tt, ↓gate_ff, ↓gate_tf, ↓gate_ft, ↓gate_undef, ↓o_bind, ↓stay_v, ↓pop_cons, ↓fin_nil, Option.isNone_none, Option.isNone_some, Bool.not_true, Bool.not_false, Nat.zero_add, decide_true, decide_false, if_true, if_false, Bool.false_eq_true, ↓reduceIte]
    have := k w h
    rw [if_pos (.inr h4)] at this
    exact this
  rw [decide_eq_true (trim_all.2 h4)]
  simp only [↓o_nil, ↓o_field, ↓o_add, ↓o_sub, ↓o_mul, ↓o_lss, ↓o_leq, ↓o_gtr, ↓o_geq, ↓o_not, ↓o_pick, ↓o_eqInt, ↓o_neInt, ↓o_eqBool, ↓o_neBool, ↓o_eqPtr, ↓o_nePtr, ↓o_eqPtr', ↓o_eqSl, ↓o_neSl, ↓o_eqStr, ↓o_neStr, ↓o_len, ↓o_lenS, ↓o_min, ↓o_max, ↓o_extract, ↓o_convInt, ↓cd_true, ↓cd_false, ↓gate_tt, ↓gate_ff, ↓gate_tf, ↓gate_ft, ↓gate_undef, ↓o_bind, ↓stay_v, ↓pop_cons, ↓fin_nil, Option.isNone_none, Option.isNone_some, Bool.not_true, Bool.not_false, Nat.zero_add, decide_true, decide_false, if_true, if_false, Bool.false_eq_true, ↓reduceIte]
  have hn : ¬ ([48] <+: ds ∨ ¬ ∀ c ∈ ds, c ∈ hexSet) := by
    rintro (h | h)
    · exact h3 h
    · exact h h4
  rw [if_neg hn] at k
  rw [o_catT (by simp; omega)]
  refine c75 ?_
  unfold B75
  rw [show [48] ++ ds = 48 :: ds from rfl]
  refine Parse_spec h4 hdl h fun w h => ?_
  rw [o_extract, o_extract]
  refine neNil ?_
  rw [cd_false]
  simp only [↓o_nil, ↓o_field, ↓o_add, ↓o_sub, ↓o_mul, ↓o_lss, ↓o_leq, ↓o_gtr, ↓o_geq, ↓o_not, ↓o_pick, ↓o_eqInt, ↓o_neInt, ↓o_eqBool, ↓o_neBool, ↓o_eqPtr, ↓o_nePtr, ↓o_eqPtr', ↓o_eqSl, ↓o_neSl, ↓o_eqStr, ↓o_neStr, ↓o_len, ↓o_lenS, ↓o_min, ↓o_max, ↓o_extract, ↓o_convInt, ↓cd_true, ↓cd_false, ↓gate_tt, ↓gate_ff, ↓gate_tf, ↓gate_ft, ↓gate_undef, ↓o_bind, ↓stay_v, ↓pop_cons, ↓fin_nil, Option.isNone_none, Option.isNone_some, Bool.not_true, Bool.not_false, Nat.zero_add, decide_true, decide_false, if_true, if_false, Bool.false_eq_true, ↓reduceIte]
  refine neNil ?_
  have hv := hexVal_lt h4
  have hv2 : hexVal ds < 18446744073709551616 := Nat.lt_of_lt_of_le hv (by
    calc 16 ^ ds.length ≤ 16 ^ 16 := Nat.pow_le_pow_right (by decide) hdl
      _ = 18446744073709551616 := by decide)
  by_cases h5 : 4611686018427387904 < hexVal ds
  · simp only [decide_eq_true (show (4611686018427387904 : Int) < (hexVal ds : Int) by omega), ↓o_nil, ↓o_field, ↓o_add, ↓o_sub, ↓o_mul, ↓o_lss, ↓o_leq, ↓o_gtr, ↓o_geq, ↓o_not, ↓o_pick, ↓o_eqInt, ↓o_neInt, ↓o_eqBool, ↓o_neBool, ↓o_eqPtr, ↓o_nePtr, ↓o_eqPtr', ↓o_eqSl, ↓o_neSl, ↓o_eqStr, ↓o_neStr, ↓o_len, ↓o_lenS, ↓o_min, ↓o_max, ↓o_extract, ↓o_convInt, ↓cd_true, ↓cd_false, ↓gate_tt, ↓gate_ff, ↓gate_tf, ↓gate_ft, ↓gate_undef, ↓o_bind, ↓stay_v, ↓pop_cons, ↓fin_nil, Option.isNone_none, Option.isNone_some, Bool.not_true, Bool.not_false, Nat.zero_add, decide_true, decide_false, if_true, if_false, Bool.false_eq_true, ↓reduceIte]
    have := k w h
    rw [if_pos h5] at this
    exact this
  · simp only [decide_eq_false (show ¬ (4611686018427387904 : Int) < (hexVal ds : Int) by omega), ↓o_nil, ↓o_field, ↓o_add, ↓o_sub, ↓o_mul, ↓o_lss, ↓o_leq, ↓o_gtr, ↓o_geq, ↓o_not, ↓o_pick, ↓o_eqInt, ↓o_neInt, ↓o_eqBool, ↓o_neBool, ↓o_eqPtr, ↓o_nePtr, ↓o_eqPtr', ↓o_eqSl, ↓o_neSl, ↓o_eqStr, ↓o_neStr, ↓o_len, ↓o_lenS, ↓o_min, ↓o_max, ↓o_extract, ↓o_convInt, ↓cd_true, ↓cd_false, ↓gate_tt, ↓gate_ff, ↓gate_tf, ↓gate_ft, ↓gate_undef, ↓o_bind, ↓stay_v, ↓pop_cons, ↓fin_nil, Option.isNone_none, Option.isNone_some, Bool.not_true, Bool.not_false, Nat.zero_add, decide_true, decide_false, if_true, if_false, Bool.false_eq_true, ↓reduceIte]
    have := k w h
    rw [if_neg h5] at this
    try rw [i64_of (by omega) (by omega)]
    exact this
end Go.Proofs.YtmnaalpjhkkglaaGreatDoor

/-
  Numbers as texts, read again. No program in sight.
-/
set_option linter.all false
set_option maxRecDepth 100000
namespace Go.Proofs.YtmnaalpjhkkglaaGreatDoor
open Go Hold
theorem dig_val : ∀ d, d < 16 → hexv (dig d) = d ∧ dig d ∈ hexSet ∧ (dig d = 48 → d = 0) := by decide +kernel
theorem hexs_val (n : Nat) : hexVal (hexs n) = n := by
  induction n using Nat.strongRecOn with
  | _ n ih =>
    by_cases h : n = 0
    · subst h; rw [hexs_zero]; rfl
    · rw [hexs_pos h, hexVal_snoc, ih (n / 16) (by omega), (dig_val (n % 16) (by omega)).1]
      omega
theorem hexs_mem (n : Nat) : ∀ c ∈ hexs n, c ∈ hexSet := by
  induction n using Nat.strongRecOn with
  | _ n ih =>
    by_cases h : n = 0
    · subst h; rw [hexs_zero]; simp
    · rw [hexs_pos h]
      intro c hc
      rcases List.mem_append.1 hc with hc | hc
      · exact ih (n / 16) (by omega) c hc
      · rw [List.mem_singleton.1 hc]
        exact (dig_val (n % 16) (by omega)).2.1
theorem hexs_ne {n : Nat} (h : n ≠ 0) : hexs n ≠ [] := by rw [hexs_pos h]; simp
theorem hexs_head (n : Nat) : ¬ [48] <+: hexs n := by
  induction n using Nat.strongRecOn with
  | _ n ih =>
    by_cases h : n = 0
    · subst h; rw [hexs_zero]; simp
    · rw [hexs_pos h]
      by_cases h2 : n / 16 = 0
      · rw [h2, hexs_zero, List.nil_append]
        intro hp
        have h3 : (48 : UInt8) = dig (n % 16) := by simpa using hp
        have := (dig_val (n % 16) (by omega)).2.2 h3.symm
        omega
      · intro hp
        refine ih (n / 16) (by omega) ?_
        have hne := hexs_ne h2
        generalize hexs (n / 16) = a at hp hne
        cases a with
        | nil => exact absurd rfl hne
        | cons x a =>
          rw [List.cons_append] at hp
          have : (48 : UInt8) = x := by simpa using hp
          subst this
          simp
theorem toNum_text {n : Nat} (hn : n ≤ 4611686018427387904) : toNum (numText n) = ((n : Int), 0) := by
  have hl : (hexs n).length ≤ 16 := hexs_length 16 n (by show n < 16 ^ 16; omega)
  unfold toNum numText
  have e : (UInt8.ofNat (97 + (hexs n).length)).toNat = 97 + (hexs n).length := by
    rw [UInt8.toNat_ofNat']
    omega
  rw [if_neg, List.drop_succ_cons, List.drop_zero, if_neg, if_neg, hexs_val]
  · rw [hexs_val]; omega
  · rintro (h | h)
    · exact hexs_head n h
    · exact h (hexs_mem n)
  · rintro (h | h | h)
    · cases h
    · rw [List.getD_cons_zero, e, List.length_cons] at h
      omega
    · rw [List.length_cons] at h
      omega
end Go.Proofs.YtmnaalpjhkkglaaGreatDoor

/-
  A chain's events, copied; adding an event.
-/
set_option linter.all false
set_option maxRecDepth 10000
namespace Go.Proofs.YtmnaalpjhkkglaaGreatDoor
open Go Hold
variable {E : World0} {w : World} {H R : HP} {K : Value → World → Prop}
theorem osl_empty {b : Nat} (h : sat E w (pts b (.cells #[] 31 (0, 0)) * R)) : sat E w (osl 31 4 (.slice (some ⟨b, 0, none⟩) 0 0) 0 [] * R) :=
  sat_osl.2 (.inr ⟨b, 0, [], rfl, rfl, rfl, Nat.le_refl _, by omega, h⟩)
def newE (s : Ch) (t : Int) (a b : List UInt8) : Evt := ⟨s.bn + s.l.length + 1, t, a, b⟩
def addS (s : Ch) (t : Int) (a b : List UInt8) : Ch × Evt × Int :=
  if t < 0 ∨ 1099511627776 < t then (s, zeroE, 2)
  else if 12 < a.length ∨ 30 < b.length then (s, zeroE, 6)
  else if t < s.last then (s, zeroE, 9)
  else if 64 ≤ s.l.length then (s, zeroE, 26)
  else ({ s with l := s.l ++ [newE s t a b], hd := nx s.hd (newE s t a b), last := t }, newE s t a b, 0)
theorem ok_add {s : Ch} {m : Nat} {t : Int} {a b : List UInt8} (ok : Ok s m) : Ok (addS s t a b).1 (m + 1) := by
  have ok1 : Ok s (m + 1) := ⟨ok.b, ok.a, ok.h, ok.b0, ok.a0, ok.le, by have := ok.top; omega, ok.few⟩
  unfold addS
  split
  · exact ok1
  · split
    · exact ok1
    · split
      · exact ok1
      · split
        · exact ok1
        · have := ok.le; have := ok.top
          exact ⟨ok.b, ok.a, nx_length _ _, ok.b0, ok.a0, by simp; omega, by simp; omega, by simp; omega⟩
theorem evt_ret (h : sat E w H) {b : Nat} {x y : Evt} {e : Int} [Own H b (.cells (ecells x).toArray 31 (0, 0)) R] (k : ∀ w', sat E w' (pts b (.cells (ecells y).toArray 31 (0, 0)) * R) → K (.tuple #[ev y, .int .i64 e]) w') :
    efu prog (Instr.storeAt 31 (.pointer (some ⟨b, 0, none⟩)) (ev y)) w fun _ w => ∃ r, (do loadVar 31 (← asAddr (.pointer (some ⟨b, 0, none⟩)))).run prog w = .ok r w ∧ K (.tuple #[r, .int .i64 e]) w :=
  res_all (K := fun r w => K (.tuple #[r, .int .i64 e]) w) (b := b) h (xs := ecells x) (vs := ecells y) rfl rfl (ecells_one y) k
theorem zeroE_build (k : K (ev zeroE) w) : pvv prog (Instr.build 31 #[]) w K := pvv_of (fun w => by kernel_rfl) k
theorem Add_nil (h : sat E w H) {t : Int} {x y : Value} (k : ∀ w', sat E w' H → K (.tuple #[ev zeroE, .int .i64 1]) w') : Calls prog 8 #[.pointer none, .int .i64 t, x, y] w (Ret K) := by
  refine c8 ?_
  unfold B8
  refine alloc_sl h fun b0 w h => ?_
  have h : sat E w (pts b0 (.cells (ecells zeroE).toArray 31 (0, 0)) * H) := h
  try simp only [↓o_nil, ↓o_field, ↓o_add, ↓o_sub, ↓o_mul, ↓o_lss, ↓o_leq, ↓o_gtr, ↓o_geq, ↓o_not, ↓o_pick, ↓o_eqInt, ↓o_neInt, ↓o_eqBool, ↓o_neBool, ↓o_eqPtr, ↓o_nePtr, ↓o_eqPtr', ↓o_eqSl, ↓o_neSl, ↓o_eqStr, ↓o_neStr, ↓o_len, ↓o_lenS, ↓o_min, ↓o_max, ↓o_extract, ↓o_convInt, ↓cd_true, ↓cd_false, ↓gate_tt, ↓gate_ff, ↓gate_tf, ↓gate_ft, ↓gate_undef, ↓o_bind, ↓stay_v, ↓pop_cons, ↓fin_nil, Option.isNone_none, Option.isNone_some, Bool.not_true, Bool.not_false, Nat.zero_add, decide_true, decide_false, if_true, if_false, Bool.false_eq_true, ↓reduceIte]
  refine zeroE_build ?_
  exact evt_ret (b := b0) (x := zeroE) h fun w h => k _ h.drop
theorem Add_spec {p m : Nat} {s : Ch} {v : Value} {t : Int} {a b : List UInt8} (ok : Ok s m) (hm : m ≤ 1000000000000) (hd : Dbt R) (h : sat E w (chI p s v R))
    (k : ∀ v' w', sat E w' (chI p (addS s t a b).1 v' R) → K (.tuple #[ev (addS s t a b).2.1, .int .i64 (addS s t a b).2.2]) w') : Calls prog 8 #[.pointer (some ⟨p, 0, none⟩), .int .i64 t, tv a, tv b] w (Ret K) := by
  have := ok.few; have := ok.top; have := ok.b0
  obtain ⟨va, vc, rfl, hc, hv, _⟩ := (Rds.evs (s := s)).shape h
  refine c8 ?_
  unfold B8
  refine alloc_sl h fun b0 w h => ?_
  have h : sat E w (pts b0 (.cells (ecells zeroE).toArray 31 (0, 0)) * chI p s (.slice va s.l.length vc) R) := h
  simp only [↓o_eqPtr, Option.isNone_some, ↓cd_false]
  rw [o_lss]
  by_cases h1 : t < 0
  · have e : addS s t a b = (s, zeroE, 2) := by unfold addS; rw [if_pos (.inl h1)]
    simp only [h1, ↓o_nil, ↓o_field, ↓o_add, ↓o_sub, ↓o_mul, ↓o_lss, ↓o_leq, ↓o_gtr, ↓o_geq, ↓o_not, ↓o_pick, ↓o_eqInt, ↓o_neInt, ↓o_eqBool, ↓o_neBool, ↓o_eqPtr, ↓o_nePtr, ↓o_eqPtr', ↓o_eqSl, ↓o_neSl, ↓o_eqStr, ↓o_neStr, ↓o_len, ↓o_lenS, ↓o_min, ↓o_max, ↓o_extract, ↓o_convInt, ↓cd_true, ↓cd_false, ↓gate_tt, ↓gate_ff, ↓gate_tf, ↓gate_ft, ↓gate_undef, ↓o_bind, ↓stay_v, ↓pop_cons, ↓fin_nil, Option.isNone_none, Option.isNone_some, Bool.not_true, Bool.not_false, Nat.zero_add, decide_true, decide_false, if_true, if_false, Bool.false_eq_true, ↓reduceIte]
    refine zeroE_build ?_
    exact evt_ret (b := b0) (x := zeroE) h fun w h => by rw [e] at k; exact k _ _ h.drop
  simp only [h1, ↓o_nil, ↓o_field, ↓o_add, ↓o_sub, ↓o_mul, ↓o_lss, ↓o_leq, ↓o_gtr, ↓o_geq, ↓o_not, ↓o_pick, ↓o_eqInt, ↓o_neInt, ↓o_eqBool, ↓o_neBool, ↓o_eqPtr, ↓o_nePtr, ↓o_eqPtr', ↓o_eqSl, ↓o_neSl, ↓o_eqStr, ↓o_neStr, ↓o_len, ↓o_lenS, ↓o_min, ↓o_max, ↓o_extract, ↓o_convInt, ↓cd_true, ↓cd_false, ↓gate_tt, ↓gate_ff, ↓gate_tf, ↓gate_ft, ↓gate_undef, ↓o_bind, ↓stay_v, ↓pop_cons, ↓fin_nil, Option.isNone_none, Option.isNone_some, Bool.not_true, Bool.not_false, Nat.zero_add, decide_true, decide_false, if_true, if_false, Bool.false_eq_true, ↓reduceIte]
  by_cases h2 : 1099511627776 < t
  · have e : addS s t a b = (s, zeroE, 2) := by unfold addS; rw [if_pos (.inr h2)]
    simp only [h2, ↓o_nil, ↓o_field, ↓o_add, ↓o_sub, ↓o_mul, ↓o_lss, ↓o_leq, ↓o_gtr, ↓o_geq, ↓o_not, ↓o_pick, ↓o_eqInt, ↓o_neInt, ↓o_eqBool, ↓o_neBool, ↓o_eqPtr, ↓o_nePtr, ↓o_eqPtr', ↓o_eqSl, ↓o_neSl, ↓o_eqStr, ↓o_neStr, ↓o_len, ↓o_lenS, ↓o_min, ↓o_max, ↓o_extract, ↓o_convInt, ↓cd_true, ↓cd_false, ↓gate_tt, ↓gate_ff, ↓gate_tf, ↓gate_ft, ↓gate_undef, ↓o_bind, ↓stay_v, ↓pop_cons, ↓fin_nil, Option.isNone_none, Option.isNone_some, Bool.not_true, Bool.not_false, Nat.zero_add, decide_true, decide_false, if_true, if_false, Bool.false_eq_true, ↓reduceIte]
    refine zeroE_build ?_
    exact evt_ret (b := b0) (x := zeroE) h fun w h => by rw [e] at k; exact k _ _ h.drop
  have n1 : ¬ (t < 0 ∨ 1099511627776 < t) := by omega
  simp only [h2, ↓o_nil, ↓o_field, ↓o_add, ↓o_sub, ↓o_mul, ↓o_lss, ↓o_leq, ↓o_gtr, ↓o_geq, ↓o_not, ↓o_pick, ↓o_eqInt, ↓o_neInt, ↓o_eqBool, ↓o_neBool, ↓o_eqPtr, ↓o_nePtr, ↓o_eqPtr', ↓o_eqSl, ↓o_neSl, ↓o_eqStr, ↓o_neStr, ↓o_len, ↓o_lenS, ↓o_min, ↓o_max, ↓o_extract, ↓o_convInt, ↓cd_true, ↓cd_false, ↓gate_tt, ↓gate_ff, ↓gate_tf, ↓gate_ft, ↓gate_undef, ↓o_bind, ↓stay_v, ↓pop_cons, ↓fin_nil, Option.isNone_none, Option.isNone_some, Bool.not_true, Bool.not_false, Nat.zero_add, decide_true, decide_false, if_true, if_false, Bool.false_eq_true, ↓reduceIte]
  rw [o_lenT, o_gtr]
  by_cases h3 : (12 : Int) < a.length
  · have e : addS s t a b = (s, zeroE, 6) := by unfold addS; rw [if_neg n1, if_pos (.inl (by omega))]
    simp only [h3, ↓o_nil, ↓o_field, ↓o_add, ↓o_sub, ↓o_mul, ↓o_lss, ↓o_leq, ↓o_gtr, ↓o_geq, ↓o_not, ↓o_pick, ↓o_eqInt, ↓o_neInt, ↓o_eqBool, ↓o_neBool, ↓o_eqPtr, ↓o_nePtr, ↓o_eqPtr', ↓o_eqSl, ↓o_neSl, ↓o_eqStr, ↓o_neStr, ↓o_len, ↓o_lenS, ↓o_min, ↓o_max, ↓o_extract, ↓o_convInt, ↓cd_true, ↓cd_false, ↓gate_tt, ↓gate_ff, ↓gate_tf, ↓gate_ft, ↓gate_undef, ↓o_bind, ↓stay_v, ↓pop_cons, ↓fin_nil, Option.isNone_none, Option.isNone_some, Bool.not_true, Bool.not_false, Nat.zero_add, decide_true, decide_false, if_true, if_false, Bool.false_eq_true, ↓reduceIte]
    refine zeroE_build ?_
    exact evt_ret (b := b0) (x := zeroE) h fun w h => by rw [e] at k; exact k _ _ h.drop
  simp only [h3, ↓o_nil, ↓o_field, ↓o_add, ↓o_sub, ↓o_mul, ↓o_lss, ↓o_leq, ↓o_gtr, ↓o_geq, ↓o_not, ↓o_pick, ↓o_eqInt, ↓o_neInt, ↓o_eqBool, ↓o_neBool, ↓o_eqPtr, ↓o_nePtr, ↓o_eqPtr', ↓o_eqSl, ↓o_neSl, ↓o_eqStr, ↓o_neStr, ↓o_len, ↓o_lenS, ↓o_min, ↓o_max, ↓o_extract, ↓o_convInt, ↓cd_true, ↓cd_false, ↓gate_tt, ↓gate_ff, ↓gate_tf, ↓gate_ft, ↓gate_undef, ↓o_bind, ↓stay_v, ↓pop_cons, ↓fin_nil, Option.isNone_none, Option.isNone_some, Bool.not_true, Bool.not_false, Nat.zero_add, decide_true, decide_false, if_true, if_false, Bool.false_eq_true, ↓reduceIte]
  rw [o_lenT, o_gtr]
  by_cases h4 : (30 : Int) < b.length
  · have e : addS s t a b = (s, zeroE, 6) := by unfold addS; rw [if_neg n1, if_pos (.inr (by omega))]
    simp only [h4, ↓o_nil, ↓o_field, ↓o_add, ↓o_sub, ↓o_mul, ↓o_lss, ↓o_leq, ↓o_gtr, ↓o_geq, ↓o_not, ↓o_pick, ↓o_eqInt, ↓o_neInt, ↓o_eqBool, ↓o_neBool, ↓o_eqPtr, ↓o_nePtr, ↓o_eqPtr', ↓o_eqSl, ↓o_neSl, ↓o_eqStr, ↓o_neStr, ↓o_len, ↓o_lenS, ↓o_min, ↓o_max, ↓o_extract, ↓o_convInt, ↓cd_true, ↓cd_false, ↓gate_tt, ↓gate_ff, ↓gate_tf, ↓gate_ft, ↓gate_undef, ↓o_bind, ↓stay_v, ↓pop_cons, ↓fin_nil, Option.isNone_none, Option.isNone_some, Bool.not_true, Bool.not_false, Nat.zero_add, decide_true, decide_false, if_true, if_false, Bool.false_eq_true, ↓reduceIte]
    refine zeroE_build ?_
    exact evt_ret (b := b0) (x := zeroE) h fun w h => by rw [e] at k; exact k _ _ h.drop
  have n2 : ¬ (12 < a.length ∨ 30 < b.length) := by omega
  simp only [h4, ↓o_nil, ↓o_field, ↓o_add, ↓o_sub, ↓o_mul, ↓o_lss, ↓o_leq, ↓o_gtr, ↓o_geq, ↓o_not, ↓o_pick, ↓o_eqInt, ↓o_neInt, ↓o_eqBool, ↓o_neBool, ↓o_eqPtr, ↓o_nePtr, ↓o_eqPtr', ↓o_eqSl, ↓o_neSl, ↓o_eqStr, ↓o_neStr, ↓o_len, ↓o_lenS, ↓o_min, ↓o_max, ↓o_extract, ↓o_convInt, ↓cd_true, ↓cd_false, ↓gate_tt, ↓gate_ff, ↓gate_tf, ↓gate_ft, ↓gate_undef, ↓o_bind, ↓stay_v, ↓pop_cons, ↓fin_nil, Option.isNone_none, Option.isNone_some, Bool.not_true, Bool.not_false, Nat.zero_add, decide_true, decide_false, if_true, if_false, Bool.false_eq_true, ↓reduceIte]
  refine ld_in (b := p) (v := .int .i64 s.last) h (ic_last ok) ?_
  rw [o_lss]
  by_cases h5 : t < s.last
  · have e : addS s t a b = (s, zeroE, 9) := by unfold addS; rw [if_neg n1, if_neg n2, if_pos h5]
    simp only [h5, ↓o_nil, ↓o_field, ↓o_add, ↓o_sub, ↓o_mul, ↓o_lss, ↓o_leq, ↓o_gtr, ↓o_geq, ↓o_not, ↓o_pick, ↓o_eqInt, ↓o_neInt, ↓o_eqBool, ↓o_neBool, ↓o_eqPtr, ↓o_nePtr, ↓o_eqPtr', ↓o_eqSl, ↓o_neSl, ↓o_eqStr, ↓o_neStr, ↓o_len, ↓o_lenS, ↓o_min, ↓o_max, ↓o_extract, ↓o_convInt, ↓cd_true, ↓cd_false, ↓gate_tt, ↓gate_ff, ↓gate_tf, ↓gate_ft, ↓gate_undef, ↓o_bind, ↓stay_v, ↓pop_cons, ↓fin_nil, Option.isNone_none, Option.isNone_some, Bool.not_true, Bool.not_false, Nat.zero_add, decide_true, decide_false, if_true, if_false, Bool.false_eq_true, ↓reduceIte]
    refine zeroE_build ?_
    exact evt_ret (b := b0) (x := zeroE) h fun w h => by rw [e] at k; exact k _ _ h.drop
  simp only [h5, ↓o_nil, ↓o_field, ↓o_add, ↓o_sub, ↓o_mul, ↓o_lss, ↓o_leq, ↓o_gtr, ↓o_geq, ↓o_not, ↓o_pick, ↓o_eqInt, ↓o_neInt, ↓o_eqBool, ↓o_neBool, ↓o_eqPtr, ↓o_nePtr, ↓o_eqPtr', ↓o_eqSl, ↓o_neSl, ↓o_eqStr, ↓o_neStr, ↓o_len, ↓o_lenS, ↓o_min, ↓o_max, ↓o_extract, ↓o_convInt, ↓cd_true, ↓cd_false, ↓gate_tt, ↓gate_ff, ↓gate_tf, ↓gate_ft, ↓gate_undef, ↓o_bind, ↓stay_v, ↓pop_cons, ↓fin_nil, Option.isNone_none, Option.isNone_some, Bool.not_true, Bool.not_false, Nat.zero_add, decide_true, decide_false, if_true, if_false, Bool.false_eq_true, ↓reduceIte]
  refine ld_in (b := p) (v := .slice va s.l.length vc) h (ic_l ok) ?_
  rw [o_len, o_geq]
  by_cases h6 : (64 : Int) ≤ s.l.length
  · have e : addS s t a b = (s, zeroE, 26) := by unfold addS; rw [if_neg n1, if_neg n2, if_neg h5, if_pos (by omega)]
    simp only [h6, ↓o_nil, ↓o_field, ↓o_add, ↓o_sub, ↓o_mul, ↓o_lss, ↓o_leq, ↓o_gtr, ↓o_geq, ↓o_not, ↓o_pick, ↓o_eqInt, ↓o_neInt, ↓o_eqBool, ↓o_neBool, ↓o_eqPtr, ↓o_nePtr, ↓o_eqPtr', ↓o_eqSl, ↓o_neSl, ↓o_eqStr, ↓o_neStr, ↓o_len, ↓o_lenS, ↓o_min, ↓o_max, ↓o_extract, ↓o_convInt, ↓cd_true, ↓cd_false, ↓gate_tt, ↓gate_ff, ↓gate_tf, ↓gate_ft, ↓gate_undef, ↓o_bind, ↓stay_v, ↓pop_cons, ↓fin_nil, Option.isNone_none, Option.isNone_some, Bool.not_true, Bool.not_false, Nat.zero_add, decide_true, decide_false, if_true, if_false, Bool.false_eq_true, ↓reduceIte]
    refine zeroE_build ?_
    exact evt_ret (b := b0) (x := zeroE) h fun w h => by rw [e] at k; exact k _ _ h.drop
  have e : addS s t a b = ({ s with l := s.l ++ [newE s t a b], hd := nx s.hd (newE s t a b), last := t }, newE s t a b, 0) := by unfold addS; rw [if_neg n1, if_neg n2, if_neg h5, if_neg (by omega)]
  rw [e] at k
  simp only [h6, ↓o_nil, ↓o_field, ↓o_add, ↓o_sub, ↓o_mul, ↓o_lss, ↓o_leq, ↓o_gtr, ↓o_geq, ↓o_not, ↓o_pick, ↓o_eqInt, ↓o_neInt, ↓o_eqBool, ↓o_neBool, ↓o_eqPtr, ↓o_nePtr, ↓o_eqPtr', ↓o_eqSl, ↓o_neSl, ↓o_eqStr, ↓o_neStr, ↓o_len, ↓o_lenS, ↓o_min, ↓o_max, ↓o_extract, ↓o_convInt, ↓cd_true, ↓cd_false, ↓gate_tt, ↓gate_ff, ↓gate_tf, ↓gate_ft, ↓gate_undef, ↓o_bind, ↓stay_v, ↓pop_cons, ↓fin_nil, Option.isNone_none, Option.isNone_some, Bool.not_true, Bool.not_false, Nat.zero_add, decide_true, decide_false, if_true, if_false, Bool.false_eq_true, ↓reduceIte]
  refine Count_spec ok (by omega) h fun w h => ?_
  rw [o_add, i64_of (by omega) (by omega)]
  refine pvv_of (v := ev (newE s t a b)) (fun w => by kernel_rfl) ?_
  generalize hx : newE s t a b = x at k ⊢
  refine alloc_sl h fun b1 w h => ?_
  have h : sat E w (pts b1 (.cells (ecells zeroE).toArray 31 (0, 0)) * (pts b0 (.cells (ecells zeroE).toArray 31 (0, 0)) * chI p s (.slice va s.l.length vc) R)) := h
  refine store_all (b := b1) h (xs := ecells zeroE) (vs := ecells x) rfl rfl (ecells_one x) fun w h => ?_
  refine dr_sl h fun w h _ => ?_
  try simp only [↓o_nil, ↓o_field, ↓o_add, ↓o_sub, ↓o_mul, ↓o_lss, ↓o_leq, ↓o_gtr, ↓o_geq, ↓o_not, ↓o_pick, ↓o_eqInt, ↓o_neInt, ↓o_eqBool, ↓o_neBool, ↓o_eqPtr, ↓o_nePtr, ↓o_eqPtr', ↓o_eqSl, ↓o_neSl, ↓o_eqStr, ↓o_neStr, ↓o_len, ↓o_lenS, ↓o_min, ↓o_max, ↓o_extract, ↓o_convInt, ↓cd_true, ↓cd_false, ↓gate_tt, ↓gate_ff, ↓gate_tf, ↓gate_ft, ↓gate_undef, ↓o_bind, ↓stay_v, ↓pop_cons, ↓fin_nil, Option.isNone_none, Option.isNone_some, Bool.not_true, Bool.not_false, Nat.zero_add, decide_true, decide_false, if_true, if_false, Bool.false_eq_true, ↓reduceIte]
  refine ld_in (b := p) (v := .slice va s.l.length vc) h (ic_l ok) ?_
  refine ld_in (b := p) (v := .slice va s.l.length vc) h (ic_l ok) ?_
  rw [o_len]
  refine ld_in (b := p) (v := .slice va s.l.length vc) h (ic_l ok) ?_
  rw [o_len, o_slice_hm (by omega) (by omega) (by omega)]
  simp only [Int.toNat_natCast]
  refine ld_agg (b := b1) (xs := ecells x) h rfl ?_
  refine buildSlice_sl (e := 31) (cs := (ecells x).toArray) h (fun w => by kernel_rfl) fun b2 w h => ?_
  refine st_in (b := p) (v := .slice va s.l.length vc) h (ic_l ok) ?_
  refine st_in (b := p) (v := .slice va s.l.length vc) h (ic_l ok) ?_
  refine st_in (b := p) (v := .slice va s.l.length vc) h (ic_l ok) ?_
  have hcut : Rds (pts b2 (.cells (ecells x).toArray 31 (0, 0)) * (pts b1 (.cells (ecells x).toArray 31 (0, 0)) * (pts b0 (.cells (ecells zeroE).toArray 31 (0, 0)) * chI p s (.slice va s.l.length vc) R))) (.slice va s.l.length s.l.length) s.l.length (evs s.l) := by
    intro E w hs
    obtain ⟨a', c', e', hc', hw'⟩ := hv E w hs.drop.drop.drop
    cases e'
    exact ⟨_, _, rfl, Nat.le_refl _, hw'⟩
  refine append_fullN h (evs_length s.l) hcut (ecells x) (k' := 1) (by omega) rfl (.inr ⟨b2, 0, _, _, _, rfl, h.pts_get, fun j v hj => by simpa using hj⟩) (by omega) (by omega) fun v' w h => ?_
  refine st_agg (b := b1) (xs := ecells x) h rfl ?_
  refine st_in (b := p) (v := .slice va s.l.length vc) h (ic_l ok) ?_
  refine st_in (b := p) (v := .slice va s.l.length vc) h (ic_l ok) ?_
  refine st_in (b := p) (v := .slice va s.l.length vc) h (ic_l ok) ?_
  try simp only [↓o_nil, ↓o_field, ↓o_add, ↓o_sub, ↓o_mul, ↓o_lss, ↓o_leq, ↓o_gtr, ↓o_geq, ↓o_not, ↓o_pick, ↓o_eqInt, ↓o_neInt, ↓o_eqBool, ↓o_neBool, ↓o_eqPtr, ↓o_nePtr, ↓o_eqPtr', ↓o_eqSl, ↓o_neSl, ↓o_eqStr, ↓o_neStr, ↓o_len, ↓o_lenS, ↓o_min, ↓o_max, ↓o_extract, ↓o_convInt, ↓cd_true, ↓cd_false, ↓gate_tt, ↓gate_ff, ↓gate_tf, ↓gate_ft, ↓gate_undef, ↓o_bind, ↓stay_v, ↓pop_cons, ↓fin_nil, Option.isNone_none, Option.isNone_some, Bool.not_true, Bool.not_false, Nat.zero_add, decide_true, decide_false, if_true, if_false, Bool.false_eq_true, ↓reduceIte]
  have hone : v'.oneCell' = true := by
    obtain ⟨_, _, rfl, _⟩ := osl_shape h
    rfl
  refine store_sl (b := p) h hone (by rw [ic_length ok]; omega) fun w h => ?_
  rw [ip_l ok (l := s.l ++ [x])] at h
  have ok1 : Ok { s with l := s.l ++ [x] } (m + 1) := ⟨ok.b, ok.a, ok.h, ok.b0, ok.a0, by have := ok.le; simp; omega, by simp; omega, by simp; omega⟩
  refine dr_sl h fun w h _ => ?_
  try simp only [↓o_nil, ↓o_field, ↓o_add, ↓o_sub, ↓o_mul, ↓o_lss, ↓o_leq, ↓o_gtr, ↓o_geq, ↓o_not, ↓o_pick, ↓o_eqInt, ↓o_neInt, ↓o_eqBool, ↓o_neBool, ↓o_eqPtr, ↓o_nePtr, ↓o_eqPtr', ↓o_eqSl, ↓o_neSl, ↓o_eqStr, ↓o_neStr, ↓o_len, ↓o_lenS, ↓o_min, ↓o_max, ↓o_extract, ↓o_convInt, ↓cd_true, ↓cd_false, ↓gate_tt, ↓gate_ff, ↓gate_tf, ↓gate_ft, ↓gate_undef, ↓o_bind, ↓stay_v, ↓pop_cons, ↓fin_nil, Option.isNone_none, Option.isNone_some, Bool.not_true, Bool.not_false, Nat.zero_add, decide_true, decide_false, if_true, if_false, Bool.false_eq_true, ↓reduceIte]
  refine ld_part (b := p) h (s.hd.map bv) (by simp [ok.h]) (ic_hd ok1) ?_
  refine ld_agg (b := b1) (xs := ecells x) h rfl ?_
  refine next_spec h hd.up ok.h fun w h => ?_
  try simp only [↓o_nil, ↓o_field, ↓o_add, ↓o_sub, ↓o_mul, ↓o_lss, ↓o_leq, ↓o_gtr, ↓o_geq, ↓o_not, ↓o_pick, ↓o_eqInt, ↓o_neInt, ↓o_eqBool, ↓o_neBool, ↓o_eqPtr, ↓o_nePtr, ↓o_eqPtr', ↓o_eqSl, ↓o_neSl, ↓o_eqStr, ↓o_neStr, ↓o_len, ↓o_lenS, ↓o_min, ↓o_max, ↓o_extract, ↓o_convInt, ↓cd_true, ↓cd_false, ↓gate_tt, ↓gate_ff, ↓gate_tf, ↓gate_ft, ↓gate_undef, ↓o_bind, ↓stay_v, ↓pop_cons, ↓fin_nil, Option.isNone_none, Option.isNone_some, Bool.not_true, Bool.not_false, Nat.zero_add, decide_true, decide_false, if_true, if_false, Bool.false_eq_true, ↓reduceIte]
  refine store_part (b := p) h (icells { s with l := s.l ++ [x], hd := nx s.hd x } v') (vs := (nx s.hd x).map bv) (by simp [nx_length]) (bv_one _) (by rw [ic_length ok1]; omega) (ip_hd ok1) fun w h => ?_
  have ok2 : Ok { s with l := s.l ++ [x], hd := nx s.hd x } (m + 1) := ⟨ok.b, ok.a, nx_length _ _, ok.b0, ok.a0, ok1.le, ok1.top, ok1.few⟩
  refine store_sl (b := p) h rfl (by rw [ic_length ok2]; omega) fun w h => ?_
  rw [ip_last ok2] at h
  refine ld_agg (b := b1) (xs := ecells x) h rfl ?_
  refine evt_ret (b := b0) (x := zeroE) (y := x) h fun w h => k v' w ?_
  have h := h.drop
  have h : sat E w (osl 31 4 v' (s.l.length + 1) (evs s.l ++ ecells x) * (pts b2 (.cells (ecells x).toArray 31 (0, 0)) * (pts b1 (.cells (ecells x).toArray 31 (0, 0)) * (pers (immS (.slice va s.l.length vc) s.l.length (evs s.l)) * (pts p (.cells (icells { s with l := s.l ++ [x], hd := nx s.hd x, last := t } v').toArray 69 (0, 0)) * R))))) := h.perm (by ac_rfl)
  have h := osl_freeze h
  have e9 : evs s.l ++ ecells x = evs (s.l ++ [x]) := by rw [evs_append]; simp [evs]
  rw [e9] at h
  have h := h.perm (show _ = pts b2 (.cells (ecells x).toArray 31 (0, 0)) * (pts b1 (.cells (ecells x).toArray 31 (0, 0)) * (pers (immS (.slice va s.l.length vc) s.l.length (evs s.l)) * (pts p (.cells (icells { s with l := s.l ++ [x], hd := nx s.hd x, last := t } v').toArray 69 (0, 0)) * (pers (immS v' (s.l.length + 1) (evs (s.l ++ [x]))) * R)))) by ac_rfl)
  have h := h.drop.drop.drop
  simpa [chI] using h
end Go.Proofs.YtmnaalpjhkkglaaGreatDoor
