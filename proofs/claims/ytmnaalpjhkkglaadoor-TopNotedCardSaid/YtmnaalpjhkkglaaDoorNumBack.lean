/-
  Bytes handed back with an error's number.
-/
import Derived.Test.YtmnaalpjhkkglaaDoorPB
import Derived.Test.YtmnaalpjhkkglaaDoorStructs
import Derived.Test.YtmnaalpjhkkglaaDoorCard
import Derived.Laws.Runes
import Derived.Test.YtmnaalpjhkkglaaDoorRChain
import Derived.Test.YtmnaalpjhkkglaaDoorElems
import Derived.Test.YtmnaalpjhkkglaaDoorNames
set_option linter.all false
set_option maxRecDepth 10000
namespace Go.Proofs.YtmnaalpjhkkglaaDoor
open Go Hold
variable {E : World0} {w : World} {H R : HP} {K : Value → World → Prop}
theorem gettv {ps : List (List UInt8)} {i : Nat} (h : i < ps.length) : (ps.map tv)[i]? = some (tv (ps.getD i [])) := by
  simp [List.getD_eq_getElem?_getD, h]
/-- Bytes handed back: they are owned. -/
def back (K : Value → World → Prop) (E : World0) (H : HP) (x : List UInt8 × Int) : Prop := ∀ v w, sat E w (osl 5 1 v x.1.length (x.1.map bv) * H) → K (.tuple #[v, .int .i64 x.2]) w
theorem back_nil (h : sat E w H) {e : Int} (k : back K E H ([], e)) : K (.tuple #[.slice none 0 0, .int .i64 e]) w := k _ _ (osl_nil h 5 1)
end Go.Proofs.YtmnaalpjhkkglaaDoor

/-
  Rows of columns: the code's and the reference's; columns of rows; what they say of each other.
-/
set_option linter.all false
set_option maxRecDepth 10000
namespace Go.Proofs.YtmnaalpjhkkglaaDoor
open Go Hold
variable {E : World0} {w : World} {H R : HP} {K : Value → World → Prop}
def col (c : List UInt8) : List UInt8 := UInt8.ofNat c.length :: c
def body (cs : List (List UInt8)) : List UInt8 := cs.flatMap col
def rowOut (cs : List (List UInt8)) : List UInt8 := UInt8.ofNat cs.length :: body cs
def row (cs : List (List UInt8)) : List UInt8 × Int :=
  if 8 < cs.length then ([], 2) else if cs.all (fun p => decide (p.length ≤ 70)) = true then (if 72 < (rowOut cs).length then ([], 6) else (rowOut cs, 0)) else ([], 6)
theorem body_append (a b : List (List UInt8)) : body (a ++ b) = body a ++ body b := by simp [body]
theorem body_take {ps : List (List UInt8)} {i : Nat} (h : i < ps.length) : body (ps.take (i + 1)) = body (ps.take i) ++ col (ps.getD i []) := by
  rw [List.take_succ_eq_append_getElem h, body_append]
  simp [body, List.getD_eq_getElem?_getD, h]
theorem body_short {ps : List (List UInt8)} : ∀ i, i ≤ ps.length → (∀ j, j < i → (ps.getD j []).length ≤ 70) → (body (ps.take i)).length ≤ 71 * i
  | 0, _, _ => by simp [body]
  | i + 1, h, hs => by
    have ih := body_short i (by omega) fun j hj => hs j (by omega)
    rw [body_take (by omega)]
    have h2 := hs i (by omega)
    simp only [List.length_append, col, List.length_cons]
    omega
theorem row_long {ps : List (List UInt8)} (h : ¬ 8 < ps.length) {i : Nat} (hi : i < ps.length) (hl : 70 < (ps.getD i []).length) : row ps = ([], 6) := by
  unfold row
  rw [if_neg h, if_neg]
  intro ha
  have := List.all_eq_true.1 ha (ps.getD i []) (by rw [List.getD_eq_getElem?_getD, List.getElem?_eq_getElem hi]; exact List.getElem_mem hi)
  have := of_decide_eq_true this
  omega
theorem all_short70 {ps : List (List UInt8)} (h : ∀ j, j < ps.length → (ps.getD j []).length ≤ 70) : ps.all (fun p => decide (p.length ≤ 70)) = true := by
  refine List.all_eq_true.2 fun p hp => ?_
  obtain ⟨i, hi, rfl⟩ := List.getElem_of_mem hp
  have := h i hi
  rw [List.getD_eq_getElem?_getD, List.getElem?_eq_getElem hi] at this
  simpa using this
theorem row_done {ps : List (List UInt8)} (h : ¬ 8 < ps.length) (hs : ∀ j, j < ps.length → (ps.getD j []).length ≤ 70) : row ps = if 72 < (rowOut ps).length then ([], 6) else (rowOut ps, 0) := by
  unfold row
  rw [if_neg h, if_pos (all_short70 hs)]
theorem bv_len {n : Nat} (h : n < 256) : Value.int .u8 (IntKind.u8.wrap (n : Int)) = bv (UInt8.ofNat n) := by
  unfold bv; rw [IntKind.wrap_u8]; congr 1
theorem Row_spec (h : sat E w H) {v : Value} {ps : List (List UInt8)} (hp : Rds H v ps.length (ps.map tv)) (hpl : ps.length ≤ 9223372036854775000) (k : back K E H (row ps)) : Calls prog 50 #[v] w (Ret K) := by
  obtain ⟨a, c, rfl, hc, hp, hpn⟩ := hp.shape h
  refine c50 ?_
  unfold B50
  rw [o_len, o_gtr]
  by_cases h2 : 8 < ps.length
  · have f2 : (8 : Int) < ps.length := by omega
    simp only [f2, ↓o_nil, ↓o_field, ↓o_add, ↓o_sub, ↓o_mul, ↓o_lss, ↓o_leq, ↓o_gtr, ↓o_geq, ↓o_not, ↓o_pick, ↓o_eqInt, ↓o_neInt, ↓o_eqBool, ↓o_neBool, ↓o_eqPtr, ↓o_nePtr, ↓o_eqPtr', ↓o_eqSl, ↓o_neSl, ↓o_eqStr, ↓o_neStr, ↓o_len, ↓o_lenS, ↓o_min, ↓o_max, ↓o_extract, ↓o_convInt, ↓cd_true, ↓cd_false, ↓gate_tt, ↓gate_ff, ↓gate_tf, ↓gate_ft, ↓gate_undef, ↓o_bind, ↓stay_v, ↓pop_cons, ↓fin_nil, Option.isNone_none, Option.isNone_some, Bool.not_true, Bool.not_false, Nat.zero_add, decide_true, decide_false, if_true, if_false, Bool.false_eq_true, ↓reduceIte]
    have e : row ps = ([], 2) := by unfold row; rw [if_pos h2]
    rw [e] at k
    exact back_nil h k
  have f2 : ¬ (8 : Int) < ps.length := by omega
  simp only [f2, ↓o_nil, ↓o_field, ↓o_add, ↓o_sub, ↓o_mul, ↓o_lss, ↓o_leq, ↓o_gtr, ↓o_geq, ↓o_not, ↓o_pick, ↓o_eqInt, ↓o_neInt, ↓o_eqBool, ↓o_neBool, ↓o_eqPtr, ↓o_nePtr, ↓o_eqPtr', ↓o_eqSl, ↓o_neSl, ↓o_eqStr, ↓o_neStr, ↓o_len, ↓o_lenS, ↓o_min, ↓o_max, ↓o_extract, ↓o_convInt, ↓cd_true, ↓cd_false, ↓gate_tt, ↓gate_ff, ↓gate_tf, ↓gate_ft, ↓gate_undef, ↓o_bind, ↓stay_v, ↓pop_cons, ↓fin_nil, Option.isNone_none, Option.isNone_some, Bool.not_true, Bool.not_false, Nat.zero_add, decide_true, decide_false, if_true, if_false, Bool.false_eq_true, ↓reduceIte, bv_len (show ps.length < 256 by omega)]
  refine buildSlice_sl (e := 5) (cs := #[bv (UInt8.ofNat ps.length)]) h (fun w => by kernel_rfl) fun b0 w h => ?_
  refine lp_nat (fun q σ w => ∃ (i : Nat) (v : Value), σ = [v, .int .i64 (i : Int)] ∧ q = ps.length - i ∧ i ≤ ps.length ∧ (∀ j, j < i → (ps.getD j []).length ≤ 70) ∧ sat E w (osl 5 1 v (1 + (body (ps.take i)).length) ((UInt8.ofNat ps.length :: body (ps.take i)).map bv) * H)) ps.length
    ⟨0, _, rfl, rfl, by omega, fun j hj => by omega, by
      have := osl_of (n := 1) (sz := 1) (xs := [bv (UInt8.ofNat ps.length)]) h rfl (by omega)
      simpa [body] using this⟩ ?_
  clear h
  rintro q σ w again ⟨i, v, rfl, rfl, hi, hs, h⟩ hag
  have hes := body_short i hi hs
  rw [pop_cons, pop_cons, fin_nil, o_lss]
  refine cd_dec (fun hlt => ?_) (fun hge => ?_)
  · have hlt : i < ps.length := by omega
    obtain ⟨bb, o, c', hv, _, hp⟩ := hp.opened h.drop (by simp; omega)
    cases hv
    rw [o_index (by omega) (by omega)]
    refine ld_rd h hp.right i (by rw [Int.toNat_natCast]; omega) (gettv hlt) ?_
    rw [o_lenT, o_gtr]
    by_cases h3 : 70 < (ps.getD i []).length
    · have f3 : (70 : Int) < (ps.getD i []).length := by omega
      simp only [f3, ↓o_nil, ↓o_field, ↓o_add, ↓o_sub, ↓o_mul, ↓o_lss, ↓o_leq, ↓o_gtr, ↓o_geq, ↓o_not, ↓o_pick, ↓o_eqInt, ↓o_neInt, ↓o_eqBool, ↓o_neBool, ↓o_eqPtr, ↓o_nePtr, ↓o_eqPtr', ↓o_eqSl, ↓o_neSl, ↓o_eqStr, ↓o_neStr, ↓o_len, ↓o_lenS, ↓o_min, ↓o_max, ↓o_extract, ↓o_convInt, ↓cd_true, ↓cd_false, ↓gate_tt, ↓gate_ff, ↓gate_tf, ↓gate_ft, ↓gate_undef, ↓o_bind, ↓stay_v, ↓pop_cons, ↓fin_nil, Option.isNone_none, Option.isNone_some, Bool.not_true, Bool.not_false, Nat.zero_add, decide_true, decide_false, if_true, if_false, Bool.false_eq_true, ↓reduceIte]
      rw [row_long h2 hlt h3] at k
      exact back_nil h.drop k
    · have f3 : ¬ (70 : Int) < (ps.getD i []).length := by omega
      simp only [f3, ↓o_lenT, ↓o_nil, ↓o_field, ↓o_add, ↓o_sub, ↓o_mul, ↓o_lss, ↓o_leq, ↓o_gtr, ↓o_geq, ↓o_not, ↓o_pick, ↓o_eqInt, ↓o_neInt, ↓o_eqBool, ↓o_neBool, ↓o_eqPtr, ↓o_nePtr, ↓o_eqPtr', ↓o_eqSl, ↓o_neSl, ↓o_eqStr, ↓o_neStr, ↓o_len, ↓o_lenS, ↓o_min, ↓o_max, ↓o_extract, ↓o_convInt, ↓cd_true, ↓cd_false, ↓gate_tt, ↓gate_ff, ↓gate_tf, ↓gate_ft, ↓gate_undef, ↓o_bind, ↓stay_v, ↓pop_cons, ↓fin_nil, Option.isNone_none, Option.isNone_some, Bool.not_true, Bool.not_false, Nat.zero_add, decide_true, decide_false, if_true, if_false, Bool.false_eq_true, ↓reduceIte, bv_len (show (ps.getD i []).length < 256 by omega)]
      refine push_sl (v := v) h rfl rfl (by omega) (by omega) fun v2 w h => ?_
      refine append_str (v := v2) h (by omega) fun v3 w h => ?_
      (try rw [o_add]); rw [i64_of (by omega) (by omega)]
      refine hag (ps.length - (i + 1)) _ _ (by omega) ⟨i + 1, v3, rfl, rfl, by omega, fun j hj => ?_, ?_⟩
      · by_cases c1 : j < i
        · exact hs j c1
        · rw [show j = i by omega]; omega
      · rw [body_take hlt]
        have e : (UInt8.ofNat ps.length :: body (ps.take i)).map bv ++ [bv (UInt8.ofNat (ps.getD i []).length)] ++ (ps.getD i []).map bv = (UInt8.ofNat ps.length :: (body (ps.take i) ++ col (ps.getD i []))).map bv := by simp [col]
        have e2 : 1 + (body (ps.take i)).length + 1 + (ps.getD i []).length = 1 + (body (ps.take i) ++ col (ps.getD i [])).length := by simp [col]; omega
        rw [e, e2] at h
        exact h
  · have hi2 : i = ps.length := by omega
    subst hi2
    rw [List.take_length] at h hes
    obtain ⟨a2, c2, rfl, _, _, _⟩ := osl_shape h
    (try rw [o_len]); (try rw [o_gtr])
    rw [row_done h2 hs] at k
    have hrl : (rowOut ps).length = 1 + (body ps).length := by simp [rowOut]; omega
    by_cases h4 : 72 < (rowOut ps).length
    · have f4 : (72 : Int) < ((1 + (body ps).length : Nat) : Int) := by omega
      simp only [f4, ↓o_nil, ↓o_field, ↓o_add, ↓o_sub, ↓o_mul, ↓o_lss, ↓o_leq, ↓o_gtr, ↓o_geq, ↓o_not, ↓o_pick, ↓o_eqInt, ↓o_neInt, ↓o_eqBool, ↓o_neBool, ↓o_eqPtr, ↓o_nePtr, ↓o_eqPtr', ↓o_eqSl, ↓o_neSl, ↓o_eqStr, ↓o_neStr, ↓o_len, ↓o_lenS, ↓o_min, ↓o_max, ↓o_extract, ↓o_convInt, ↓cd_true, ↓cd_false, ↓gate_tt, ↓gate_ff, ↓gate_tf, ↓gate_ft, ↓gate_undef, ↓o_bind, ↓stay_v, ↓pop_cons, ↓fin_nil, Option.isNone_none, Option.isNone_some, Bool.not_true, Bool.not_false, Nat.zero_add, decide_true, decide_false, if_true, if_false, Bool.false_eq_true, ↓reduceIte]
      rw [if_pos h4] at k
      exact back_nil h.drop k
    · have f4 : ¬ (72 : Int) < ((1 + (body ps).length : Nat) : Int) := by omega
      simp only [f4, ↓o_nil, ↓o_field, ↓o_add, ↓o_sub, ↓o_mul, ↓o_lss, ↓o_leq, ↓o_gtr, ↓o_geq, ↓o_not, ↓o_pick, ↓o_eqInt, ↓o_neInt, ↓o_eqBool, ↓o_neBool, ↓o_eqPtr, ↓o_nePtr, ↓o_eqPtr', ↓o_eqSl, ↓o_neSl, ↓o_eqStr, ↓o_neStr, ↓o_len, ↓o_lenS, ↓o_min, ↓o_max, ↓o_extract, ↓o_convInt, ↓cd_true, ↓cd_false, ↓gate_tt, ↓gate_ff, ↓gate_tf, ↓gate_ft, ↓gate_undef, ↓o_bind, ↓stay_v, ↓pop_cons, ↓fin_nil, Option.isNone_none, Option.isNone_some, Bool.not_true, Bool.not_false, Nat.zero_add, decide_true, decide_false, if_true, if_false, Bool.false_eq_true, ↓reduceIte]
      rw [if_neg h4] at k
      refine k _ _ ?_
      rw [hrl]
      exact h
/-! Columns. -/
def colsGo : Nat → List UInt8 → Option (List (List UInt8))
  | 0, [] => some []
  | 0, _ :: _ => none
  | _ + 1, [] => none
  | n + 1, k :: b => if 70 < k.toNat ∨ b.length < k.toNat then none else (colsGo n (b.drop k.toNat)).map (b.take k.toNat :: ·)
def columns (b : List UInt8) : List (List UInt8) × Int :=
  if 72 < b.length then ([], 6) else match b with
    | [] => ([], 3)
    | n :: r => if 8 < n.toNat then ([], 3) else match colsGo n.toNat r with | some cs => (cs, 0) | none => ([], 3)
theorem colsGo_body : ∀ {cs : List (List UInt8)}, (∀ c ∈ cs, c.length ≤ 70) → colsGo cs.length (body cs) = some cs
  | [], _ => rfl
  | c :: cs, h => by
    have hc := h c (by simp)
    have ih := colsGo_body (cs := cs) fun x hx => h x (by simp [hx])
    have e : body (c :: cs) = UInt8.ofNat c.length :: (c ++ body cs) := by simp [body, col]
    have e2 : (UInt8.ofNat c.length).toNat = c.length := by rw [UInt8.toNat_ofNat']; omega
    rw [e]
    simp only [List.length_cons, colsGo, e2]
    rw [if_neg (by simp; omega), List.drop_left, List.take_left, ih]
    rfl
theorem colsGo_some : ∀ {n : Nat} {b : List UInt8} {cs : List (List UInt8)}, colsGo n b = some cs → cs.length = n ∧ (∀ c ∈ cs, c.length ≤ 70) ∧ b = body cs
  | 0, [], cs, h => by simp [colsGo] at h; subst h; simp [body]
  | 0, _ :: _, cs, h => by simp [colsGo] at h
  | n + 1, [], cs, h => by simp [colsGo] at h
  | n + 1, k :: b, cs, h => by
    unfold colsGo at h
    split at h
    · cases h
    · rename_i h1
      rw [Option.map_eq_some_iff] at h
      obtain ⟨l, hl, rfl⟩ := h
      obtain ⟨i1, i2, i3⟩ := colsGo_some hl
      have hkl : (b.take k.toNat).length = k.toNat := by simp; omega
      refine ⟨by simp [i1], ?_, ?_⟩
      · intro c hc
        rcases List.mem_cons.1 hc with rfl | hc
        · omega
        · exact i2 c hc
      · have e : body (b.take k.toNat :: l) = UInt8.ofNat (b.take k.toNat).length :: (b.take k.toNat ++ body l) := by simp [body, col]
        rw [e, hkl, ← i3, List.take_append_drop]
        simp
theorem colsGo_more : ∀ {n : Nat} {b : List UInt8} {cs : List (List UInt8)} {y : List UInt8}, colsGo n b = some cs → y ≠ [] → colsGo n (b ++ y) = none
  | 0, [], cs, y, h, hy => by
    cases y with
    | nil => exact absurd rfl hy
    | cons c y => rfl
  | 0, _ :: _, cs, y, h, hy => by simp [colsGo] at h
  | n + 1, [], cs, y, h, hy => by simp [colsGo] at h
  | n + 1, k :: b, cs, y, h, hy => by
    unfold colsGo at h
    split at h
    · cases h
    · rename_i h1
      rw [Option.map_eq_some_iff] at h
      obtain ⟨l, hl, rfl⟩ := h
      have ih := colsGo_more hl hy
      simp only [List.cons_append, colsGo]
      rw [if_neg (by simp; omega), List.drop_append_of_le_length (by omega), ih]
      rfl
theorem row_ok {cs : List (List UInt8)} (h : (row cs).2 = 0) : cs.length ≤ 8 ∧ (∀ c ∈ cs, c.length ≤ 70) ∧ (row cs).1 = rowOut cs ∧ (rowOut cs).length ≤ 72 := by
  unfold row at h ⊢
  split at h
  · cases h
  · rename_i h1
    rw [if_neg h1]
    split at h
    · rename_i h2
      rw [if_pos h2]
      split at h
      · cases h
      · rename_i h3
        rw [if_neg h3]
        refine ⟨by omega, fun c hc => ?_, rfl, by omega⟩
        simpa using List.all_eq_true.1 h2 c hc
    · cases h
theorem columns_row {cs : List (List UInt8)} (h : (row cs).2 = 0) : columns (row cs).1 = (cs, 0) := by
  obtain ⟨h1, h2, h3, h4⟩ := row_ok h
  rw [h3]
  have e : (UInt8.ofNat cs.length).toNat = cs.length := by rw [UInt8.toNat_ofNat']; omega
  have hg := colsGo_body h2
  unfold columns
  rw [if_neg (by omega)]
  unfold rowOut
  simp only [e, hg]
  rw [if_neg (by omega)]
theorem row_columns {b : List UInt8} (h : (columns b).2 = 0) : row (columns b).1 = (b, 0) := by
  unfold columns at h ⊢
  split at h
  · cases h
  · rename_i h1
    rw [if_neg h1]
    split at h
    · cases h
    · rename_i n r
      split at h
      · cases h
      · rename_i h2
        rw [if_neg h2]
        split at h
        · rename_i cs hcs
          obtain ⟨i1, i2, i3⟩ := colsGo_some hcs
          have e : rowOut cs = n :: r := by
            unfold rowOut
            rw [i1, ← i3]; simp
          simp only [hcs]
          unfold row
          rw [if_neg (by omega), if_pos (by refine List.all_eq_true.2 fun c hc => ?_; simpa using i2 c hc), e, if_neg h1]
        · cases h
/-- A row that is cut is none; nor is one that goes on. -/
theorem row_cut {cs : List (List UInt8)} (h : (row cs).2 = 0) {m : Nat} (hm : m < (rowOut cs).length) : (columns ((rowOut cs).take m)).2 = 3 := by
  obtain ⟨h1, h2, h3, h4⟩ := row_ok h
  have e : (UInt8.ofNat cs.length).toNat = cs.length := by rw [UInt8.toNat_ofNat']; omega
  have hg := colsGo_body h2
  unfold columns
  rw [if_neg (by simp; omega)]
  unfold rowOut at hm ⊢
  cases m with
  | zero => rfl
  | succ m =>
    rw [List.take_succ_cons]
    simp only [e]
    rw [if_neg (by omega)]
    split
    · rename_i l hl
      exfalso
      have hne : (body cs).drop m ≠ [] := by
        intro h0
        have := congrArg List.length h0
        simp at this hm
        omega
      have := colsGo_more hl hne
      rw [List.take_append_drop, hg] at this
      cases this
    · rfl
theorem row_on {cs : List (List UInt8)} (h : (row cs).2 = 0) (k : UInt8) : (columns (rowOut cs ++ [k])).2 = 3 ∨ (columns (rowOut cs ++ [k])).2 = 6 ∧ (rowOut cs).length = 72 := by
  obtain ⟨h1, h2, h3, h4⟩ := row_ok h
  have e : (UInt8.ofNat cs.length).toNat = cs.length := by rw [UInt8.toNat_ofNat']; omega
  have hg := colsGo_body h2
  by_cases h5 : (rowOut cs).length = 72
  · right
    refine ⟨?_, h5⟩
    unfold columns
    rw [if_pos (by simp; omega)]
  · left
    unfold columns
    rw [if_neg (by simp; omega)]
    unfold rowOut
    simp only [List.cons_append, e]
    rw [if_neg (by omega), colsGo_more hg (by simp)]
end Go.Proofs.YtmnaalpjhkkglaaDoor

/-
  Numbers as texts.
-/
set_option linter.all false
set_option maxRecDepth 10000
namespace Go.Proofs.YtmnaalpjhkkglaaDoor
open Go Hold
variable {E : World0} {w : World} {H R : HP} {K : Value → World → Prop}
def digs : List UInt8 := [48, 49, 50, 51, 52, 53, 54, 55, 56, 57, 97, 98, 99, 100, 101, 102]
def dig (n : Nat) : UInt8 := digs.getD n 0
def digs36 : List UInt8 := [48, 49, 50, 51, 52, 53, 54, 55, 56, 57, 97, 98, 99, 100, 101, 102, 103, 104, 105, 106, 107, 108, 109, 110, 111, 112, 113, 114, 115, 116, 117, 118, 119, 120, 121, 122]
theorem digs36_dig : ∀ n, n < 16 → digs36.getD n 0 = dig n := by decide
/-- The digits of a number to the base 16; none for 0. -/
def hexs (n : Nat) : List UInt8 := if h : n = 0 then [] else hexs (n / 16) ++ [dig (n % 16)]
termination_by n
decreasing_by omega
theorem hexs_zero : hexs 0 = [] := by unfold hexs; simp
theorem hexs_pos {n : Nat} (h : n ≠ 0) : hexs n = hexs (n / 16) ++ [dig (n % 16)] := by
  conv => lhs; unfold hexs
  simp [h]
theorem hexs_small {n : Nat} (h : n < 16) (h0 : n ≠ 0) : hexs n = [dig n] := by
  rw [hexs_pos h0, show n / 16 = 0 by omega, hexs_zero, Nat.mod_eq_of_lt h]; rfl
theorem hexs_length : ∀ (k n : Nat), n < 16 ^ k → (hexs n).length ≤ k
  | 0, n, h => by
    have : n = 0 := by simpa using h
    subst this; rw [hexs_zero]; simp
  | k + 1, n, h => by
    by_cases h0 : n = 0
    · subst h0; rw [hexs_zero]; simp
    · rw [hexs_pos h0, List.length_append]
      have := hexs_length k (n / 16) (by rw [Nat.pow_succ] at h; omega)
      simp; omega
/-- FormatInt's text: one nought for 0. -/
def fmt16 (n : Nat) : List UInt8 := if n = 0 then [48] else hexs n
theorem o_and15q {P : Program} {t : TypeId} {u : Nat} (hu : u < 18446744073709551616) {K : Value → World → Prop} : pvv P (binOp .and t (.int .u64 (u : Int)) (.int .u64 15)) w K = K (.int .u64 ((u % 16 : Nat) : Int)) w := pvv_eq fun w => by
  have e : ((BitVec.ofInt 64 (u : Int)) &&& (BitVec.ofInt 64 15)).toNat = u % 16 := by
    rw [BitVec.toNat_and]
    have h1 : (BitVec.ofInt 64 (u : Int)).toNat = u := by simp; omega
    have h2 : (BitVec.ofInt 64 15).toNat = 15 := by decide
    rw [h1, h2]
    exact Nat.and_two_pow_sub_one_eq_mod u 4
  show (pure (.int .u64 (IntKind.u64.wrap (((BitVec.ofInt 64 (u : Int)) &&& (BitVec.ofInt 64 15)).toNat : Int))) : Sem Value).run P w = _
  rw [e]
  have : IntKind.u64.wrap ((u % 16 : Nat) : Int) = ((u % 16 : Nat) : Int) := by rw [IntKind.wrap_u64]; omega
  rw [this]; rfl
/-- The table by which the lowest bit is found. -/
def Dbt (H : HP) : Prop := RdC H 5 15 (.int .u8 4)
theorem TZ_spec (h : sat E w H) (hd : Dbt H) (k : K (.int .i64 4) w) : Calls prog 123 #[.int .u64 16] w (Ret K) := by
  refine c123 ?_
  unfold B123
  rw [cd_false]
  refine c125 ?_
  unfold B125
  rw [o_eqInt, show decide ((16 : Int) = 0) = false from rfl, cd_false]
  refine pvv_of (v := .int .u64 18446744073709551600) (fun w => by kernel_rfl) ?_
  refine pvv_of (v := .int .u64 16) (fun w => by kernel_rfl) ?_
  refine pvv_of (v := .int .u64 4573923408821661840) (fun w => by kernel_rfl) ?_
  refine pvv_of (v := .int .u64 15) (fun w => by kernel_rfl) ?_
  refine pvv_of (v := .pointer (some ⟨5, 15, none⟩)) (fun w => by kernel_rfl) ?_
  refine ld_cell (hd E w h) ?_
  rw [o_convInt]
  exact k
theorem P2_spec (k : K (.bool true) w) : Calls prog 122 #[.int .i64 16] w (Ret K) := by
  refine c122 ?_
  unfold B122
  refine pvv_of (v := .int .i64 15) (fun w => by kernel_rfl) ?_
  refine pvv_of (v := .int .i64 0) (fun w => by kernel_rfl) ?_
  rw [o_eqInt]
  exact k
theorem map_bv_inj : ∀ {l m : List UInt8}, l.map bv = m.map bv → l = m
  | [], [], _ => rfl
  | [], _ :: _, h => by simp at h
  | _ :: _, [], h => by simp at h
  | a :: l, b :: m, h => by
    simp only [List.map_cons, List.cons.injEq] at h
    rw [bv_ne.1 h.1, map_bv_inj h.2]
theorem drop_set_at {α : Type} {xs : List α} {i : Nat} {v : α} {l : List α} (hi : i < xs.length) (h : xs.drop (i + 1) = l) : (xs.set i v).drop i = v :: l := by
  have : (xs.set i v).drop i = (xs.set i v)[i]'(by simpa using hi) :: (xs.set i v).drop (i + 1) := List.drop_eq_getElem_cons (by simpa using hi)
  rw [this, List.getElem_set_self, List.drop_set]
  simp [h]
theorem Format_spec (h : sat E w H) (hd : Dbt H) {n : Nat} (hn : n < 9223372036854775808) (k : ∀ w', sat E w' H → K (tv (fmt16 n)) w') : Calls prog 89 #[.int .i64 (n : Int), .int .i64 16] w (Ret K) := by
  refine c89 ?_
  unfold B89
  refine c104 ?_
  unfold B104
  have hneg : decide ((n : Int) < 0) = false := by simp
  have hw : IntKind.u64.wrap (n : Int) = (n : Int) := by rw [IntKind.wrap_u64]; omega
  simp only [show decide ((16 : Int) = 10) = false from rfl, hneg, hw, ↓o_nil, ↓o_field, ↓o_add, ↓o_sub, ↓o_mul, ↓o_lss, ↓o_leq, ↓o_gtr, ↓o_geq, ↓o_not, ↓o_pick, ↓o_eqInt, ↓o_neInt, ↓o_eqBool, ↓o_neBool, ↓o_eqPtr, ↓o_nePtr, ↓o_eqPtr', ↓o_eqSl, ↓o_neSl, ↓o_eqStr, ↓o_neStr, ↓o_len, ↓o_lenS, ↓o_min, ↓o_max, ↓o_extract, ↓o_convInt, ↓cd_true, ↓cd_false, ↓gate_tt, ↓gate_ff, ↓gate_tf, ↓gate_ft, ↓gate_undef, ↓o_bind, ↓stay_v, ↓pop_cons, ↓fin_nil, Option.isNone_none, Option.isNone_some, Bool.not_true, Bool.not_false, Nat.zero_add, decide_true, decide_false, if_true, if_false, Bool.false_eq_true, ↓reduceIte]
  refine c117 ?_
  unfold B117
  simp only [show decide ((16 : Int) < 2) = false from rfl, show decide ((16 : Int) = 10) = false from rfl, show decide ((36 : Int) < 16) = false from rfl, ↓o_nil, ↓o_field, ↓o_add, ↓o_sub, ↓o_mul, ↓o_lss, ↓o_leq, ↓o_gtr, ↓o_geq, ↓o_not, ↓o_pick, ↓o_eqInt, ↓o_neInt, ↓o_eqBool, ↓o_neBool, ↓o_eqPtr, ↓o_nePtr, ↓o_eqPtr', ↓o_eqSl, ↓o_neSl, ↓o_eqStr, ↓o_neStr, ↓o_len, ↓o_lenS, ↓o_min, ↓o_max, ↓o_extract, ↓o_convInt, ↓cd_true, ↓cd_false, ↓gate_tt, ↓gate_ff, ↓gate_tf, ↓gate_ft, ↓gate_undef, ↓o_bind, ↓stay_v, ↓pop_cons, ↓fin_nil, Option.isNone_none, Option.isNone_some, Bool.not_true, Bool.not_false, Nat.zero_add, decide_true, decide_false, if_true, if_false, Bool.false_eq_true, ↓reduceIte]
  refine jn_cut (fun σ w => σ = [] ∧ sat E w H) (fun kk hkk => hkk _ _ ⟨rfl, h⟩) ?_
  clear h
  rintro σ w ⟨rfl, h⟩
  simp only [↓o_nil, ↓o_field, ↓o_add, ↓o_sub, ↓o_mul, ↓o_lss, ↓o_leq, ↓o_gtr, ↓o_geq, ↓o_not, ↓o_pick, ↓o_eqInt, ↓o_neInt, ↓o_eqBool, ↓o_neBool, ↓o_eqPtr, ↓o_nePtr, ↓o_eqPtr', ↓o_eqSl, ↓o_neSl, ↓o_eqStr, ↓o_neStr, ↓o_len, ↓o_lenS, ↓o_min, ↓o_max, ↓o_extract, ↓o_convInt, ↓cd_true, ↓cd_false, ↓gate_tt, ↓gate_ff, ↓gate_tf, ↓gate_ft, ↓gate_undef, ↓o_bind, ↓stay_v, ↓pop_cons, ↓fin_nil, Option.isNone_none, Option.isNone_some, Bool.not_true, Bool.not_false, Nat.zero_add, decide_true, decide_false, if_true, if_false, Bool.false_eq_true, ↓reduceIte]
  refine alloc_sl h fun b w h => ?_
  have h : sat E w (pts b (.cells (List.replicate 65 (bv 0)).toArray 195 (0, 0)) * H) := h
  refine jn_cut (fun σ w => σ = [.int .u64 (n : Int)] ∧ sat E w (pts b (.cells (List.replicate 65 (bv 0)).toArray 195 (0, 0)) * H)) (fun kk hkk => hkk _ _ ⟨rfl, h⟩) ?_
  clear h
  rintro σ w ⟨rfl, h⟩
  rw [pop_cons, fin_nil]
  refine jn_cut (fun σ w => ∃ (i : Nat) (xs : List Value), σ = [.int .i64 (i : Int)] ∧ xs.length = 65 ∧ i ≤ 65 ∧ xs.drop i = (fmt16 n).map bv ∧ sat E w (pts b (.cells xs.toArray 195 (0, 0)) * H)) (fun kk hkk => ?_) ?_
  · refine P2_spec ?_
    simp only [show IntKind.u64.wrap 16 = 16 from rfl, ↓o_nil, ↓o_field, ↓o_add, ↓o_sub, ↓o_mul, ↓o_lss, ↓o_leq, ↓o_gtr, ↓o_geq, ↓o_not, ↓o_pick, ↓o_eqInt, ↓o_neInt, ↓o_eqBool, ↓o_neBool, ↓o_eqPtr, ↓o_nePtr, ↓o_eqPtr', ↓o_eqSl, ↓o_neSl, ↓o_eqStr, ↓o_neStr, ↓o_len, ↓o_lenS, ↓o_min, ↓o_max, ↓o_extract, ↓o_convInt, ↓cd_true, ↓cd_false, ↓gate_tt, ↓gate_ff, ↓gate_tf, ↓gate_ft, ↓gate_undef, ↓o_bind, ↓stay_v, ↓pop_cons, ↓fin_nil, Option.isNone_none, Option.isNone_some, Bool.not_true, Bool.not_false, Nat.zero_add, decide_true, decide_false, if_true, if_false, Bool.false_eq_true, ↓reduceIte]
    refine TZ_spec h hd.right ?_
    simp only [show IntKind.u64.wrap 16 = 16 from rfl, show IntKind.u64.wrap 4 = 4 from rfl, show IntKind.u64.wrap ((16 : Int) - 1) = 15 from rfl, ↓o_nil, ↓o_field, ↓o_add, ↓o_sub, ↓o_mul, ↓o_lss, ↓o_leq, ↓o_gtr, ↓o_geq, ↓o_not, ↓o_pick, ↓o_eqInt, ↓o_neInt, ↓o_eqBool, ↓o_neBool, ↓o_eqPtr, ↓o_nePtr, ↓o_eqPtr', ↓o_eqSl, ↓o_neSl, ↓o_eqStr, ↓o_neStr, ↓o_len, ↓o_lenS, ↓o_min, ↓o_max, ↓o_extract, ↓o_convInt, ↓cd_true, ↓cd_false, ↓gate_tt, ↓gate_ff, ↓gate_tf, ↓gate_ft, ↓gate_undef, ↓o_bind, ↓stay_v, ↓pop_cons, ↓fin_nil, Option.isNone_none, Option.isNone_some, Bool.not_true, Bool.not_false, Nat.zero_add, decide_true, decide_false, if_true, if_false, Bool.false_eq_true, ↓reduceIte]
    refine lp_nat (fun q σ w => ∃ (u i : Nat) (xs : List Value), σ = [.int .u64 (u : Int), .int .i64 (i : Int)] ∧ q = u ∧ u ≤ n ∧ u < 16 ^ (i - 49) ∧ 49 ≤ i ∧ i ≤ 65 ∧ xs.length = 65 ∧ (n ≠ 0 → u ≠ 0) ∧ (∀ l : List UInt8, xs.drop i = l.map bv → hexs n = hexs u ++ l) ∧ (∃ l : List UInt8, xs.drop i = l.map bv) ∧ sat E w (pts b (.cells xs.toArray 195 (0, 0)) * H)) n
      ⟨n, 65, List.replicate 65 (bv 0), rfl, rfl, Nat.le_refl _, by show n < 16 ^ 16; omega, by omega, by omega, by simp, fun h => h, fun l hl => by
        have : l = [] := by
          have := congrArg List.length hl
          simp at this
          exact List.eq_nil_of_length_eq_zero this.symm
        subst this; simp, ⟨[], by simp⟩, h⟩ ?_
    clear h
    rintro q σ w again ⟨u, i, xs, rfl, hq, hun, hui, hi1, hi2, hxl, hnz, hl1, ⟨l, hl2⟩, h⟩ hag
    rw [pop_cons, pop_cons, fin_nil, o_geq]
    have hu64 : u < 18446744073709551616 := by omega
    refine cd_dec (fun hge => ?_) (fun hlt => ?_)
    · have hi3 : 50 ≤ i := by
        rcases Nat.lt_or_ge i 50 with h5 | h5
        · rw [show i - 49 = 0 by omega] at hui; simp at hui; omega
        · exact h5
      have e1 : IntKind.i64.wrap ((i : Int) - 1) = ((i - 1 : Nat) : Int) := by rw [i64_of (by omega) (by omega)]; omega
      rw [o_sub, e1, o_and15q hu64]
      rw [show (Value.string ⟨#[48, 49, 50, 51, 52, 53, 54, 55, 56, 57, 97, 98, 99, 100, 101, 102, 103, 104, 105, 106, 107, 108, 109, 110, 111, 112, 113, 114, 115, 116, 117, 118, 119, 120, 121, 122]⟩) = tv digs36 from rfl, o_indexT (by omega) (by show u % 16 < 36; omega), Int.toNat_natCast, digs36_dig _ (by omega), o_indexA (by omega) (by omega)]
      refine store_sl (b := b) (o := 0 + ((i - 1 : Nat) : Int).toNat) h rfl (by rw [Int.toNat_natCast]; omega) fun w h => ?_
      rw [show Value.int .u64 4 = Value.int .u64 ((4 : Nat) : Int) from rfl, o_shr (by decide)]
      have hdr : (xs.set (0 + ((i - 1 : Nat) : Int).toNat) (bv (dig (u % 16)))).drop (i - 1) = bv (dig (u % 16)) :: l.map bv := by
        rw [Nat.zero_add, Int.toNat_natCast]
        exact drop_set_at (by omega) (by rw [show i - 1 + 1 = i by omega]; exact hl2)
      refine hag (u / 16) _ _ (by omega) ⟨u / 16, i - 1, _, rfl, rfl, by omega, ?_, by omega, by omega, by rw [List.length_set]; exact hxl, fun h0 => by omega, fun l' hl' => ?_, ⟨dig (u % 16) :: l, hdr⟩, h⟩
      · rw [show i - 49 = (i - 1 - 49) + 1 by omega, Nat.pow_succ] at hui; omega
      · rw [hdr] at hl'
        have e2 : l' = dig (u % 16) :: l := by
          exact (map_bv_inj (by rw [← hl']; rfl)).symm
        rw [e2, hl1 l hl2, hexs_pos (show u ≠ 0 by omega)]; simp
    · have hi3 : 1 ≤ i := by omega
      have e1 : IntKind.i64.wrap ((i : Int) - 1) = ((i - 1 : Nat) : Int) := by rw [i64_of (by omega) (by omega)]; omega
      have hu16 : u < 16 := by omega
      rw [o_sub, e1, show (Value.string ⟨#[48, 49, 50, 51, 52, 53, 54, 55, 56, 57, 97, 98, 99, 100, 101, 102, 103, 104, 105, 106, 107, 108, 109, 110, 111, 112, 113, 114, 115, 116, 117, 118, 119, 120, 121, 122]⟩) = tv digs36 from rfl, o_indexT (by omega) (by show u < 36; omega), Int.toNat_natCast, digs36_dig _ hu16, o_indexA (by omega) (by omega)]
      refine store_sl (b := b) (o := 0 + ((i - 1 : Nat) : Int).toNat) h rfl (by rw [Int.toNat_natCast]; omega) fun w h => ?_
      have hdr : (xs.set (0 + ((i - 1 : Nat) : Int).toNat) (bv (dig u))).drop (i - 1) = bv (dig u) :: l.map bv := by
        rw [Nat.zero_add, Int.toNat_natCast]
        exact drop_set_at (by omega) (by rw [show i - 1 + 1 = i by omega]; exact hl2)
      refine hkk _ _ ⟨i - 1, _, rfl, by rw [List.length_set]; exact hxl, by omega, ?_, h⟩
      rw [hdr]
      have hh := hl1 l hl2
      unfold fmt16
      by_cases h0 : n = 0
      · subst h0
        have hu0 : u = 0 := by omega
        subst hu0
        rw [hexs_zero] at hh
        have : l = [] := by simpa using hh.symm
        subst this
        rfl
      · rw [if_neg h0, hh, hexs_small hu16 (hnz h0)]; rfl
  · clear h
    rintro σ w ⟨i, xs, rfl, hxl, hi, hdr, h⟩
    rw [pop_cons, fin_nil]
    refine jn_cut (fun σ w => σ = [.int .i64 (i : Int)] ∧ sat E w (pts b (.cells xs.toArray 195 (0, 0)) * H)) (fun kk hkk => by (try rw [cd_false]); exact hkk _ _ ⟨rfl, h⟩) ?_
    clear h
    rintro σ w ⟨rfl, h⟩
    have hfl : (fmt16 n).length + i = 65 := by
      have := congrArg List.length hdr
      simp at this; omega
    have hfp : 0 < (fmt16 n).length := by
      unfold fmt16
      split
      · simp
      · rename_i h0; rw [hexs_pos h0]; simp
    rw [pop_cons, fin_nil]
    (try rw [cd_false]); rw [o_sliceA_l (by omega) (by omega), Int.toNat_natCast]
    refine conv_bs (l := fmt16 n) ⟨_, _, by rw [show 65 - i = (fmt16 n).length by omega], by omega, .inr ⟨b, 0 + i, _, _, _, rfl, Has.get h, fun j v hj => ?_⟩⟩ ?_
    · rw [← hdr, List.getElem?_drop] at hj
      simpa using hj
    · try simp only [↓o_nil, ↓o_field, ↓o_add, ↓o_sub, ↓o_mul, ↓o_lss, ↓o_leq, ↓o_gtr, ↓o_geq, ↓o_not, ↓o_pick, ↓o_eqInt, ↓o_neInt, ↓o_eqBool, ↓o_neBool, ↓o_eqPtr, ↓o_nePtr, ↓o_eqPtr', ↓o_eqSl, ↓o_neSl, ↓o_eqStr, ↓o_neStr, ↓o_len, ↓o_lenS, ↓o_min, ↓o_max, ↓o_extract, ↓o_convInt, ↓cd_true, ↓cd_false, ↓gate_tt, ↓gate_ff, ↓gate_tf, ↓gate_ft, ↓gate_undef, ↓o_bind, ↓stay_v, ↓pop_cons, ↓fin_nil, Option.isNone_none, Option.isNone_some, Bool.not_true, Bool.not_false, Nat.zero_add, decide_true, decide_false, if_true, if_false, Bool.false_eq_true, ↓reduceIte]
      exact k _ h.drop
theorem TrimPrefix_spec {s : List UInt8} (k : K (tv (if s.take 1 = [48] then s.drop 1 else s)) w) : Calls prog 88 #[tv s, tv [48]] w (Ret K) := by
  refine c88 ?_
  unfold B88
  refine c103 ?_
  unfold B103
  refine c113 ?_
  unfold B113
  rw [o_lenT, o_lenT, o_geq, show ([48] : List UInt8).length = 1 from rfl]
  by_cases h1 : 1 ≤ s.length
  · have f1 : ((1 : Nat) : Int) ≤ s.length := by omega
    simp only [f1, ↓o_lenT, ↓o_nil, ↓o_field, ↓o_add, ↓o_sub, ↓o_mul, ↓o_lss, ↓o_leq, ↓o_gtr, ↓o_geq, ↓o_not, ↓o_pick, ↓o_eqInt, ↓o_neInt, ↓o_eqBool, ↓o_neBool, ↓o_eqPtr, ↓o_nePtr, ↓o_eqPtr', ↓o_eqSl, ↓o_neSl, ↓o_eqStr, ↓o_neStr, ↓o_len, ↓o_lenS, ↓o_min, ↓o_max, ↓o_extract, ↓o_convInt, ↓cd_true, ↓cd_false, ↓gate_tt, ↓gate_ff, ↓gate_tf, ↓gate_ft, ↓gate_undef, ↓o_bind, ↓stay_v, ↓pop_cons, ↓fin_nil, Option.isNone_none, Option.isNone_some, Bool.not_true, Bool.not_false, Nat.zero_add, decide_true, decide_false, if_true, if_false, Bool.false_eq_true, ↓reduceIte, show ([48] : List UInt8).length = 1 from rfl]
    rw [o_sliceT_h (by omega) (by omega), Int.toNat_natCast]
    simp only [↓o_eqT, ↓o_nil, ↓o_field, ↓o_add, ↓o_sub, ↓o_mul, ↓o_lss, ↓o_leq, ↓o_gtr, ↓o_geq, ↓o_not, ↓o_pick, ↓o_eqInt, ↓o_neInt, ↓o_eqBool, ↓o_neBool, ↓o_eqPtr, ↓o_nePtr, ↓o_eqPtr', ↓o_eqSl, ↓o_neSl, ↓o_eqStr, ↓o_neStr, ↓o_len, ↓o_lenS, ↓o_min, ↓o_max, ↓o_extract, ↓o_convInt, ↓cd_true, ↓cd_false, ↓gate_tt, ↓gate_ff, ↓gate_tf, ↓gate_ft, ↓gate_undef, ↓o_bind, ↓stay_v, ↓pop_cons, ↓fin_nil, Option.isNone_none, Option.isNone_some, Bool.not_true, Bool.not_false, Nat.zero_add, decide_true, decide_false, if_true, if_false, Bool.false_eq_true, ↓reduceIte]
    by_cases h2 : s.take 1 = [48]
    · simp only [h2, ↓o_lenT, ↓o_nil, ↓o_field, ↓o_add, ↓o_sub, ↓o_mul, ↓o_lss, ↓o_leq, ↓o_gtr, ↓o_geq, ↓o_not, ↓o_pick, ↓o_eqInt, ↓o_neInt, ↓o_eqBool, ↓o_neBool, ↓o_eqPtr, ↓o_nePtr, ↓o_eqPtr', ↓o_eqSl, ↓o_neSl, ↓o_eqStr, ↓o_neStr, ↓o_len, ↓o_lenS, ↓o_min, ↓o_max, ↓o_extract, ↓o_convInt, ↓cd_true, ↓cd_false, ↓gate_tt, ↓gate_ff, ↓gate_tf, ↓gate_ft, ↓gate_undef, ↓o_bind, ↓stay_v, ↓pop_cons, ↓fin_nil, Option.isNone_none, Option.isNone_some, Bool.not_true, Bool.not_false, Nat.zero_add, decide_true, decide_false, if_true, if_false, Bool.false_eq_true, ↓reduceIte, show ([48] : List UInt8).length = 1 from rfl]
      rw [o_sliceT_l (by omega) (by omega), Int.toNat_natCast]
      rw [if_pos h2] at k
      exact k
    · simp only [h2, ↓o_nil, ↓o_field, ↓o_add, ↓o_sub, ↓o_mul, ↓o_lss, ↓o_leq, ↓o_gtr, ↓o_geq, ↓o_not, ↓o_pick, ↓o_eqInt, ↓o_neInt, ↓o_eqBool, ↓o_neBool, ↓o_eqPtr, ↓o_nePtr, ↓o_eqPtr', ↓o_eqSl, ↓o_neSl, ↓o_eqStr, ↓o_neStr, ↓o_len, ↓o_lenS, ↓o_min, ↓o_max, ↓o_extract, ↓o_convInt, ↓cd_true, ↓cd_false, ↓gate_tt, ↓gate_ff, ↓gate_tf, ↓gate_ft, ↓gate_undef, ↓o_bind, ↓stay_v, ↓pop_cons, ↓fin_nil, Option.isNone_none, Option.isNone_some, Bool.not_true, Bool.not_false, Nat.zero_add, decide_true, decide_false, if_true, if_false, Bool.false_eq_true, ↓reduceIte]
      rw [if_neg h2] at k
      exact k
  · have f1 : ¬ ((1 : Nat) : Int) ≤ s.length := by omega
    have h0 : s = [] := List.eq_nil_of_length_eq_zero (by omega)
    simp only [f1, ↓o_nil, ↓o_field, ↓o_add, ↓o_sub, ↓o_mul, ↓o_lss, ↓o_leq, ↓o_gtr, ↓o_geq, ↓o_not, ↓o_pick, ↓o_eqInt, ↓o_neInt, ↓o_eqBool, ↓o_neBool, ↓o_eqPtr, ↓o_nePtr, ↓o_eqPtr', ↓o_eqSl, ↓o_neSl, ↓o_eqStr, ↓o_neStr, ↓o_len, ↓o_lenS, ↓o_min, ↓o_max, ↓o_extract, ↓o_convInt, ↓cd_true, ↓cd_false, ↓gate_tt, ↓gate_ff, ↓gate_tf, ↓gate_ft, ↓gate_undef, ↓o_bind, ↓stay_v, ↓pop_cons, ↓fin_nil, Option.isNone_none, Option.isNone_some, Bool.not_true, Bool.not_false, Nat.zero_add, decide_true, decide_false, if_true, if_false, Bool.false_eq_true, ↓reduceIte]
    subst h0
    exact k
/-- The text of a number. -/
def numText (n : Nat) : List UInt8 := UInt8.ofNat (97 + (hexs n).length) :: hexs n
def number (n : Int) : List UInt8 × Int := if n < 0 ∨ 4611686018427387904 < n then ([], 2) else (numText n.toNat, 0)
def nv2 (x : List UInt8 × Int) : Value := .tuple #[tv x.1, .int .i64 x.2]
theorem dig_nought : ∀ n, n < 16 → n ≠ 0 → dig n ≠ 48 := by decide
theorem hexs_first {n : Nat} : (hexs n).take 1 ≠ [48] := by
  induction n using Nat.strongRecOn with
  | _ n ih =>
    by_cases h0 : n = 0
    · subst h0; rw [hexs_zero]; simp
    · rw [hexs_pos h0]
      by_cases h1 : n / 16 = 0
      · rw [h1, hexs_zero]
        have := dig_nought (n % 16) (by omega) (by omega)
        simpa using this
      · have hne : hexs (n / 16) ≠ [] := by rw [hexs_pos h1]; simp
        have := ih (n / 16) (by omega)
        rw [List.take_append_of_le_length (by
          have := List.length_pos_iff.2 hne; omega)]
        exact this
theorem conv_rune {P : Program} {s d : TypeId} {n : Nat} (hn : n < 128) [i : Ul P s (.int .i32)] [j : Ul P d .string] (k : K (tv [UInt8.ofNat n]) w) : pvv P (convert s d (.int .i32 (n : Int))) w K := by
  have key : ∀ n : Fin 128, Utf8.encode (n.val : Int) = ⟨#[UInt8.ofNat n.val]⟩ := by decide +kernel
  refine pvv_of (fun w => run_convert_int_string (P := P) w s d .i32 (n : Int) (by rw [i.ul]; rfl) j.ul) ?_
  rw [key ⟨n, hn⟩]
  exact k
theorem Number_spec (h : sat E w H) (hd : Dbt H) {n : Int} (k : ∀ w', sat E w' H → K (nv2 (number n)) w') : Calls prog 67 #[.int .i64 n] w (Ret K) := by
  refine c67 ?_
  unfold B67
  rw [o_lss]
  by_cases h1 : n < 0
  · simp only [h1, ↓o_nil, ↓o_field, ↓o_add, ↓o_sub, ↓o_mul, ↓o_lss, ↓o_leq, ↓o_gtr, ↓o_geq, ↓o_not, ↓o_pick, ↓o_eqInt, ↓o_neInt, ↓o_eqBool, ↓o_neBool, ↓o_eqPtr, ↓o_nePtr, ↓o_eqPtr', ↓o_eqSl, ↓o_neSl, ↓o_eqStr, ↓o_neStr, ↓o_len, ↓o_lenS, ↓o_min, ↓o_max, ↓o_extract, ↓o_convInt, ↓cd_true, ↓cd_false, ↓gate_tt, ↓gate_ff, ↓gate_tf, ↓gate_ft, ↓gate_undef, ↓o_bind, ↓stay_v, ↓pop_cons, ↓fin_nil, Option.isNone_none, Option.isNone_some, Bool.not_true, Bool.not_false, Nat.zero_add, decide_true, decide_false, if_true, if_false, Bool.false_eq_true, ↓reduceIte]
    have e : number n = ([], 2) := by unfold number; rw [if_pos (.inl h1)]
    rw [e] at k
    exact k _ h
  simp only [h1, ↓o_nil, ↓o_field, ↓o_add, ↓o_sub, ↓o_mul, ↓o_lss, ↓o_leq, ↓o_gtr, ↓o_geq, ↓o_not, ↓o_pick, ↓o_eqInt, ↓o_neInt, ↓o_eqBool, ↓o_neBool, ↓o_eqPtr, ↓o_nePtr, ↓o_eqPtr', ↓o_eqSl, ↓o_neSl, ↓o_eqStr, ↓o_neStr, ↓o_len, ↓o_lenS, ↓o_min, ↓o_max, ↓o_extract, ↓o_convInt, ↓cd_true, ↓cd_false, ↓gate_tt, ↓gate_ff, ↓gate_tf, ↓gate_ft, ↓gate_undef, ↓o_bind, ↓stay_v, ↓pop_cons, ↓fin_nil, Option.isNone_none, Option.isNone_some, Bool.not_true, Bool.not_false, Nat.zero_add, decide_true, decide_false, if_true, if_false, Bool.false_eq_true, ↓reduceIte]
  by_cases h2 : 4611686018427387904 < n
  · simp only [h2, ↓o_nil, ↓o_field, ↓o_add, ↓o_sub, ↓o_mul, ↓o_lss, ↓o_leq, ↓o_gtr, ↓o_geq, ↓o_not, ↓o_pick, ↓o_eqInt, ↓o_neInt, ↓o_eqBool, ↓o_neBool, ↓o_eqPtr, ↓o_nePtr, ↓o_eqPtr', ↓o_eqSl, ↓o_neSl, ↓o_eqStr, ↓o_neStr, ↓o_len, ↓o_lenS, ↓o_min, ↓o_max, ↓o_extract, ↓o_convInt, ↓cd_true, ↓cd_false, ↓gate_tt, ↓gate_ff, ↓gate_tf, ↓gate_ft, ↓gate_undef, ↓o_bind, ↓stay_v, ↓pop_cons, ↓fin_nil, Option.isNone_none, Option.isNone_some, Bool.not_true, Bool.not_false, Nat.zero_add, decide_true, decide_false, if_true, if_false, Bool.false_eq_true, ↓reduceIte]
    have e : number n = ([], 2) := by unfold number; rw [if_pos (.inr h2)]
    rw [e] at k
    exact k _ h
  simp only [h2, ↓o_nil, ↓o_field, ↓o_add, ↓o_sub, ↓o_mul, ↓o_lss, ↓o_leq, ↓o_gtr, ↓o_geq, ↓o_not, ↓o_pick, ↓o_eqInt, ↓o_neInt, ↓o_eqBool, ↓o_neBool, ↓o_eqPtr, ↓o_nePtr, ↓o_eqPtr', ↓o_eqSl, ↓o_neSl, ↓o_eqStr, ↓o_neStr, ↓o_len, ↓o_lenS, ↓o_min, ↓o_max, ↓o_extract, ↓o_convInt, ↓cd_true, ↓cd_false, ↓gate_tt, ↓gate_ff, ↓gate_tf, ↓gate_ft, ↓gate_undef, ↓o_bind, ↓stay_v, ↓pop_cons, ↓fin_nil, Option.isNone_none, Option.isNone_some, Bool.not_true, Bool.not_false, Nat.zero_add, decide_true, decide_false, if_true, if_false, Bool.false_eq_true, ↓reduceIte]
  obtain ⟨n, rfl⟩ := Int.eq_ofNat_of_zero_le (show 0 ≤ n by omega)
  have e : number (n : Int) = (numText n, 0) := by unfold number; rw [if_neg (by omega)]; rfl
  rw [e] at k
  refine Format_spec h hd (by omega) fun w h => ?_
  have hlen : (hexs n).length ≤ 16 := hexs_length 16 n (by show n < 16 ^ 16; omega)
  refine TrimPrefix_spec ?_
  have e2 : (if (fmt16 n).take 1 = [48] then (fmt16 n).drop 1 else fmt16 n) = hexs n := by
    unfold fmt16
    by_cases h0 : n = 0
    · subst h0; rw [if_pos rfl, hexs_zero]; rfl
    · rw [if_neg h0, if_neg hexs_first]
  rw [e2, o_lenT, o_add, i64_of (by omega) (by omega), o_convInt]
  have e3 : IntKind.i32.wrap ((97 : Int) + (hexs n).length) = ((97 + (hexs n).length : Nat) : Int) := by rw [IntKind.wrap_i32]; omega
  rw [e3]
  refine conv_rune (P := prog) (s := 21) (d := 9) (n := 97 + (hexs n).length) (by omega) ?_
  rw [o_catT (by simp; omega)]
  exact k _ h
end Go.Proofs.YtmnaalpjhkkglaaDoor

/-
  Events of a chain; numbers as texts, the reference's; the hash behind an event.
-/
set_option linter.all false
set_option maxRecDepth 10000
namespace Go.Proofs.YtmnaalpjhkkglaaDoor
open Go Hold
variable {E : World0} {w : World} {H R : HP} {K : Value → World → Prop}
theorem Dbt.up {H0 H1 R1 : HP} (h : Dbt H1) [s : Split H0 H1 R1] : Dbt H0 := fun E w hs => h E w (hs.split H1).drop'
def numT (n : Int) : List UInt8 := (number n).1
theorem num_spec (h : sat E w H) (hd : Dbt H) {n : Int} (k : ∀ w', sat E w' H → K (tv (numT n)) w') : Calls prog 51 #[.int .i64 n] w (Ret K) := by
  refine c51 ?_
  unfold B51
  refine Number_spec h hd fun w h => ?_
  unfold nv2
  rw [o_extract, o_extract]
  exact k _ h
/-- An event. -/
structure Evt where
  n : Int
  t : Int
  what : List UInt8
  who : List UInt8
  deriving DecidableEq
def ecells (x : Evt) : List Value := [.int .i64 x.n, .int .i64 x.t, tv x.what, tv x.who]
def ev (x : Evt) : Value := .agg (ecells x).toArray
def evs (l : List Evt) : List Value := l.flatMap ecells
def zeroE : Evt := ⟨0, 0, [], []⟩
theorem ecells_one (x : Evt) : ∀ v ∈ ecells x, v.oneCell' = true := by
  intro v hv
  simp [ecells] at hv
  rcases hv with rfl | rfl | rfl | rfl <;> rfl
theorem evs_one (l : List Evt) : ∀ v ∈ evs l, v.oneCell' = true := by
  intro v hv
  obtain ⟨x, _, hx⟩ := List.mem_flatMap.1 hv
  exact ecells_one x v hx
theorem evs_length : ∀ (l : List Evt), (evs l).length = l.length * 4
  | [] => rfl
  | x :: l => by
    have := evs_length l
    simp only [evs, List.flatMap_cons, List.length_append, List.length_cons] at this ⊢
    rw [this]; simp [ecells]; omega
theorem evs_append (a b : List Evt) : evs (a ++ b) = evs a ++ evs b := by simp [evs]
theorem evs_drop : ∀ (l : List Evt) (i : Nat), (evs l).drop (i * 4) = evs (l.drop i)
  | l, 0 => by simp
  | [], i + 1 => by simp [evs]
  | x :: l, i + 1 => by
    have e : evs (x :: l) = ecells x ++ evs l := rfl
    rw [e, List.drop_append, show (i + 1) * 4 = i * 4 + 4 by omega]
    simp [ecells, evs_drop l i]
theorem evs_at {l : List Evt} {i : Nat} {x : Evt} (h : l[i]? = some x) : ((evs l).drop (i * 4)).take 4 = ecells x := by
  rw [evs_drop]
  have hlt := (List.getElem?_eq_some_iff.1 h).1
  rw [List.drop_eq_getElem_cons hlt, (List.getElem?_eq_some_iff.1 h).2]
  rfl
def colsE (x : Evt) : List (List UInt8) := [numT x.n, numT x.t, x.what, x.who]
def rowE (x : Evt) : List UInt8 := (row (colsE x)).1
def nx (h : List UInt8) (x : Evt) : List UInt8 := sha (h ++ rowE x)
theorem nx_length (h : List UInt8) (x : Evt) : (nx h x).length = 32 := sha_length _
theorem row_le (cs : List (List UInt8)) : (row cs).1.length ≤ 72 := by
  unfold row
  split
  · simp
  · split
    · split
      · simp
      · simp only; omega
    · simp
theorem next_spec (h : sat E w H) (hd : Dbt H) {l : List UInt8} (hl : l.length = 32) {x : Evt} (k : ∀ w', sat E w' H → K (.agg ((nx l x).map bv).toArray) w') : Calls prog 39 #[.agg (l.map bv).toArray, ev x] w (Ret K) := by
  refine c39 ?_
  unfold B39
  refine box_sl h fun b1 w h => ?_
  have h : sat E w (pts b1 (.cells (l.map bv).toArray 23 (0, 0)) * H) := h
  refine box_sl h fun b2 w h => ?_
  have h : sat E w (pts b2 (.cells (ecells x).toArray 56 (0, 0)) * (pts b1 (.cells (l.map bv).toArray 23 (0, 0)) * H)) := h
  refine alloc_sl h fun b3 w h => ?_
  have h : sat E w (pts b3 (.cells ((List.replicate 32 (0 : UInt8)).map bv).toArray 23 (0, 0)) * (pts b2 (.cells (ecells x).toArray 56 (0, 0)) * (pts b1 (.cells (l.map bv).toArray 23 (0, 0)) * H))) := h
  refine dr_sl h fun w h _ => ?_
  simp only [↓o_nil, ↓o_field, ↓o_add, ↓o_sub, ↓o_mul, ↓o_lss, ↓o_leq, ↓o_gtr, ↓o_geq, ↓o_not, ↓o_pick, ↓o_eqInt, ↓o_neInt, ↓o_eqBool, ↓o_neBool, ↓o_eqPtr, ↓o_nePtr, ↓o_eqPtr', ↓o_eqSl, ↓o_neSl, ↓o_eqStr, ↓o_neStr, ↓o_len, ↓o_lenS, ↓o_min, ↓o_max, ↓o_extract, ↓o_convInt, ↓cd_true, ↓cd_false, ↓gate_tt, ↓gate_ff, ↓gate_tf, ↓gate_ft, ↓gate_undef, ↓o_bind, ↓stay_v, ↓pop_cons, ↓fin_nil, Option.isNone_none, Option.isNone_some, Bool.not_true, Bool.not_false, Nat.zero_add, decide_true, decide_false, if_true, if_false, Bool.false_eq_true, ↓reduceIte]
  refine ld_in (b := b2) (v := .int .i64 x.n) h rfl ?_
  refine ld_in (b := b2) (v := .int .i64 x.t) h rfl ?_
  refine ld_in (b := b2) (v := tv x.what) h rfl ?_
  refine ld_in (b := b2) (v := tv x.who) h rfl ?_
  have hd3 : Dbt (pts b3 (.cells ((List.replicate 32 (0 : UInt8)).map bv).toArray 23 (0, 0)) * (pts b2 (.cells (ecells x).toArray 56 (0, 0)) * (pts b1 (.cells (l.map bv).toArray 23 (0, 0)) * H))) := hd.right.right.right
  refine num_spec h hd3 fun w h => ?_
  refine st_cell (cell_of ((h.drop.own b2).pts_get) (by rfl)) ?_
  refine st_cell (cell_of ((h.drop.own b2).pts_get) (by rfl)) ?_
  refine st_cell (cell_of ((h.drop.own b2).pts_get) (by rfl)) ?_
  refine num_spec h hd3 fun w h => ?_
  refine st_cell (cell_of ((h.drop.own b2).pts_get) (by rfl)) ?_
  refine st_cell (cell_of ((h.drop.own b2).pts_get) (by rfl)) ?_
  refine st_cell (cell_of ((h.drop.own b2).pts_get) (by rfl)) ?_
  refine buildSlice_sl (e := 9) (cs := ((colsE x).map tv).toArray) h (fun w => by kernel_rfl) fun b4 w h => ?_
  refine st_cell (cell_of ((h.drop.drop.own b2).pts_get) (by rfl)) ?_
  refine st_cell (cell_of ((h.drop.drop.own b2).pts_get) (by rfl)) ?_
  refine Row_spec (ps := colsE x) h (rds_block (b := b4) (Nat.le_refl _)) (by simp [colsE]) fun v w h => ?_
  refine st_cell (cell_of ((h.drop.drop.drop.own b2).pts_get) (by rfl)) ?_
  refine st_cell (cell_of ((h.drop.drop.drop.own b2).pts_get) (by rfl)) ?_
  refine st_cell (cell_of ((h.drop.drop.drop.own b2).pts_get) (by rfl)) ?_
  refine st_cell (cell_of ((h.drop.drop.drop.own b2).pts_get) (by rfl)) ?_
  rw [o_extract, o_extract]
  refine ld_agg (b := b1) h (by simpa using hl) ?_
  have hr := row_le (colsE x)
  refine Chain_spec h hl Rds.osl.left (by omega) fun w h => ?_
  exact hash_ret (b := b3) h (sha_length _) (by simp) fun w h => k _ h.drop.drop.drop.drop.drop
end Go.Proofs.YtmnaalpjhkkglaaDoor

/-
  A chain as it is held; its simple functions; adding.
-/
set_option linter.all false
set_option maxRecDepth 10000
namespace Go.Proofs.YtmnaalpjhkkglaaDoor
open Go Hold
variable {E : World0} {w : World} {H R : HP} {K : Value → World → Prop}
/-- A chain: the base, the anchor, the head, the last time, the events. -/
structure Ch where
  bn : Int
  bh : List UInt8
  an : Int
  ah : List UInt8
  hd : List UInt8
  last : Int
  l : List Evt
structure Ok (s : Ch) (m : Nat) : Prop where
  b : s.bh.length = 32
  a : s.ah.length = 32
  h : s.hd.length = 32
  b0 : 0 ≤ s.bn
  a0 : 0 ≤ s.an
  le : s.an ≤ s.bn + s.l.length
  top : s.bn + s.l.length ≤ m
  few : s.l.length ≤ 64
def icells (s : Ch) (v : Value) : List Value := .int .i64 s.bn :: (s.bh.map bv ++ (.int .i64 s.an :: (s.ah.map bv ++ (s.hd.map bv ++ [.int .i64 s.last, v]))))
theorem part_at {xs : List Value} (A B C : List Value) {o n : Nat} (e : xs = A ++ (B ++ C)) (hA : A.length = o) (hB : B.length = n) : (xs.drop o).take n = B := by rw [e, List.drop_left' hA, List.take_left' hB]
theorem part_cell {xs : List Value} (A C : List Value) {x : Value} {o : Nat} (e : xs = A ++ ([x] ++ C)) (hA : A.length = o) : xs[o]? = some x := by
  have := take_cell (j := 0) (v := x) (part_at A [x] C e hA rfl) rfl
  simpa using this
theorem part_put {xs : List Value} (A B C B' : List Value) {ys : List Value} {o n : Nat} (e : xs = A ++ (B ++ C)) (hA : A.length = o) (hB : B.length = n) (e' : A ++ (B' ++ C) = ys) : xs.take o ++ B' ++ xs.drop (o + n) = ys := by
  rw [e, List.take_left' hA, ← List.append_assoc A B C, List.drop_left' (by rw [List.length_append, hA, hB]), List.append_assoc]
  exact e'
theorem part_set {xs : List Value} (A C : List Value) {x y : Value} {ys : List Value} {o : Nat} (e : xs = A ++ ([x] ++ C)) (hA : A.length = o) (e' : A ++ ([y] ++ C) = ys) : xs.set o y = ys := by
  rw [← take_set_drop xs o y (by rw [e]; simp [hA])]
  exact part_put A [x] C [y] e hA rfl e'
section
variable {s : Ch} {v : Value} {m : Nat}
theorem ic_length (ok : Ok s m) : (icells s v).length = 100 := by simp [icells, ok.b, ok.a, ok.h]
theorem ic_bn : (icells s v)[0]? = some (.int .i64 s.bn) := rfl
theorem ic_an (ok : Ok s m) : (icells s v)[33]? = some (.int .i64 s.an) := part_cell (.int .i64 s.bn :: s.bh.map bv) (s.ah.map bv ++ (s.hd.map bv ++ [.int .i64 s.last, v])) (by simp [icells]) (by simp [ok.b])
theorem ic_last (ok : Ok s m) : (icells s v)[98]? = some (.int .i64 s.last) := part_cell (.int .i64 s.bn :: (s.bh.map bv ++ (.int .i64 s.an :: (s.ah.map bv ++ s.hd.map bv)))) [v] (by simp [icells]) (by simp [ok.b, ok.a, ok.h])
theorem ic_l (ok : Ok s m) : (icells s v)[99]? = some v := part_cell (.int .i64 s.bn :: (s.bh.map bv ++ (.int .i64 s.an :: (s.ah.map bv ++ (s.hd.map bv ++ [.int .i64 s.last]))))) [] (by simp [icells]) (by simp [ok.b, ok.a, ok.h])
theorem ic_ah (ok : Ok s m) : ((icells s v).drop 34).take 32 = s.ah.map bv := part_at (.int .i64 s.bn :: (s.bh.map bv ++ [.int .i64 s.an])) _ (s.hd.map bv ++ [.int .i64 s.last, v]) (by simp [icells]) (by simp [ok.b]) (by simp [ok.a])
theorem ic_hd (ok : Ok s m) : ((icells s v).drop 66).take 32 = s.hd.map bv := part_at (.int .i64 s.bn :: (s.bh.map bv ++ (.int .i64 s.an :: s.ah.map bv))) _ [.int .i64 s.last, v] (by simp [icells]) (by simp [ok.b, ok.a]) (by simp [ok.h])
theorem ic_base (ok : Ok s m) : ((icells s v).drop 0).take 33 = .int .i64 s.bn :: s.bh.map bv := part_at [] _ (.int .i64 s.an :: (s.ah.map bv ++ (s.hd.map bv ++ [.int .i64 s.last, v]))) (by simp [icells]) rfl (by simp [ok.b])
theorem ic_anchor (ok : Ok s m) : ((icells s v).drop 33).take 33 = .int .i64 s.an :: s.ah.map bv := part_at (.int .i64 s.bn :: s.bh.map bv) _ (s.hd.map bv ++ [.int .i64 s.last, v]) (by simp [icells]) (by simp [ok.b]) (by simp [ok.a])
theorem ip_l (ok : Ok s m) {l : List Evt} {u : Value} : (icells s v).set 99 u = icells { s with l := l } u := part_set (.int .i64 s.bn :: (s.bh.map bv ++ (.int .i64 s.an :: (s.ah.map bv ++ (s.hd.map bv ++ [.int .i64 s.last]))))) [] (x := v) (by simp [icells]) (by simp [ok.b, ok.a, ok.h]) (by simp [icells])
theorem ip_last (ok : Ok s m) {t : Int} : (icells s v).set 98 (.int .i64 t) = icells { s with last := t } v := part_set (.int .i64 s.bn :: (s.bh.map bv ++ (.int .i64 s.an :: (s.ah.map bv ++ s.hd.map bv)))) [v] (x := .int .i64 s.last) (by simp [icells]) (by simp [ok.b, ok.a, ok.h]) (by simp [icells])
theorem ip_hd (ok : Ok s m) {h : List UInt8} : (icells s v).take 66 ++ h.map bv ++ (icells s v).drop (66 + 32) = icells { s with hd := h } v := part_put (.int .i64 s.bn :: (s.bh.map bv ++ (.int .i64 s.an :: s.ah.map bv))) (s.hd.map bv) [.int .i64 s.last, v] _ (by simp [icells]) (by simp [ok.b, ok.a]) (by simp [ok.h]) (by simp [icells])
theorem ip_anchor (ok : Ok s m) {n : Int} {h : List UInt8} : (icells s v).take 33 ++ (.int .i64 n :: h.map bv) ++ (icells s v).drop (33 + 33) = icells { s with an := n, ah := h } v := part_put (.int .i64 s.bn :: s.bh.map bv) (.int .i64 s.an :: s.ah.map bv) (s.hd.map bv ++ [.int .i64 s.last, v]) _ (by simp [icells]) (by simp [ok.b]) (by simp [ok.a]) (by simp [icells])
theorem ip_base (ok : Ok s m) {n : Int} {h : List UInt8} : (icells s v).take 0 ++ (.int .i64 n :: h.map bv) ++ (icells s v).drop (0 + 33) = icells { s with bn := n, bh := h } v := part_put [] (.int .i64 s.bn :: s.bh.map bv) (.int .i64 s.an :: (s.ah.map bv ++ (s.hd.map bv ++ [.int .i64 s.last, v]))) _ (by simp [icells]) rfl (by simp [ok.b]) (by simp [icells])
end
abbrev chI (p : Nat) (s : Ch) (v : Value) (R : HP) : HP := pts p (.cells (icells s v).toArray 98 (0, 0)) * (pers (immS v s.l.length (evs s.l)) * R)
theorem Rds.evs {v : Value} {s : Ch} {p : Nat} {R : HP} : Rds (chI p s v R) v s.l.length (evs s.l) := Rds.pers.left.right
def zeros32 : List UInt8 := List.replicate 32 0
def newS : Ch := ⟨0, zeros32, 0, zeros32, zeros32, 0, []⟩
theorem ok_new : Ok newS 0 := ⟨rfl, rfl, rfl, by decide, by decide, by decide, by decide, by decide⟩
theorem New_spec (h : sat E w R) (k : ∀ p w', sat E w' (chI p newS (.slice none 0 0) R) → K (.pointer (some ⟨p, 0, none⟩)) w') : Calls prog 13 #[] w (Ret K) := by
  refine c13 ?_
  unfold B13
  refine pvv_of (v := .agg (icells newS (.slice none 0 0)).toArray) (fun w => by kernel_rfl) ?_
  refine box_sl h fun p w h => k p w ?_
  have h : sat E w (pts p (.cells (icells newS (.slice none 0 0)).toArray 98 (0, 0)) * R) := h
  unfold chI
  rw [star_left_comm]
  exact h.mono fun I h' hp' => (pers_star_p _ _ _ _).2 ⟨⟨none, 0, rfl, Nat.le_refl _, .inl rfl⟩, hp'⟩
theorem Count_spec {p m : Nat} {s : Ch} {a : Option Addr} {c : Nat} (ok : Ok s m) (hm : m ≤ 1000000000000000) (h : sat E w H) [Has H p (.cells (icells s (.slice a s.l.length c)).toArray 98 (0, 0))]
    (k : ∀ w', sat E w' H → K (.int .i64 (s.bn + s.l.length)) w') : Calls prog 20 #[.pointer (some ⟨p, 0, none⟩)] w (Ret K) := by
  have := ok.b0; have := ok.top; have := ok.few
  refine c20 ?_
  unfold B20
  try simp only [↓o_nil, ↓o_field, ↓o_add, ↓o_sub, ↓o_mul, ↓o_lss, ↓o_leq, ↓o_gtr, ↓o_geq, ↓o_not, ↓o_pick, ↓o_eqInt, ↓o_neInt, ↓o_eqBool, ↓o_neBool, ↓o_eqPtr, ↓o_nePtr, ↓o_eqPtr', ↓o_eqSl, ↓o_neSl, ↓o_eqStr, ↓o_neStr, ↓o_len, ↓o_lenS, ↓o_min, ↓o_max, ↓o_extract, ↓o_convInt, ↓cd_true, ↓cd_false, ↓gate_tt, ↓gate_ff, ↓gate_tf, ↓gate_ft, ↓gate_undef, ↓o_bind, ↓stay_v, ↓pop_cons, ↓fin_nil, Option.isNone_none, Option.isNone_some, Bool.not_true, Bool.not_false, Nat.zero_add, decide_true, decide_false, if_true, if_false, Bool.false_eq_true, ↓reduceIte]
  refine dr_sl h fun w h _ => ?_
  try simp only [↓o_nil, ↓o_field, ↓o_add, ↓o_sub, ↓o_mul, ↓o_lss, ↓o_leq, ↓o_gtr, ↓o_geq, ↓o_not, ↓o_pick, ↓o_eqInt, ↓o_neInt, ↓o_eqBool, ↓o_neBool, ↓o_eqPtr, ↓o_nePtr, ↓o_eqPtr', ↓o_eqSl, ↓o_neSl, ↓o_eqStr, ↓o_neStr, ↓o_len, ↓o_lenS, ↓o_min, ↓o_max, ↓o_extract, ↓o_convInt, ↓cd_true, ↓cd_false, ↓gate_tt, ↓gate_ff, ↓gate_tf, ↓gate_ft, ↓gate_undef, ↓o_bind, ↓stay_v, ↓pop_cons, ↓fin_nil, Option.isNone_none, Option.isNone_some, Bool.not_true, Bool.not_false, Nat.zero_add, decide_true, decide_false, if_true, if_false, Bool.false_eq_true, ↓reduceIte]
  refine ld_in (b := p) (v := .int .i64 s.bn) h ic_bn ?_
  refine ld_in (b := p) (v := .slice a s.l.length c) h (ic_l ok) ?_
  rw [o_len, o_add, i64_of (by omega) (by omega)]
  exact k _ h
theorem Count_nil (k : K (.int .i64 0) w) : Calls prog 20 #[.pointer none] w (Ret K) := by
  refine c20 ?_
  unfold B20
  try simp only [↓o_nil, ↓o_field, ↓o_add, ↓o_sub, ↓o_mul, ↓o_lss, ↓o_leq, ↓o_gtr, ↓o_geq, ↓o_not, ↓o_pick, ↓o_eqInt, ↓o_neInt, ↓o_eqBool, ↓o_neBool, ↓o_eqPtr, ↓o_nePtr, ↓o_eqPtr', ↓o_eqSl, ↓o_neSl, ↓o_eqStr, ↓o_neStr, ↓o_len, ↓o_lenS, ↓o_min, ↓o_max, ↓o_extract, ↓o_convInt, ↓cd_true, ↓cd_false, ↓gate_tt, ↓gate_ff, ↓gate_tf, ↓gate_ft, ↓gate_undef, ↓o_bind, ↓stay_v, ↓pop_cons, ↓fin_nil, Option.isNone_none, Option.isNone_some, Bool.not_true, Bool.not_false, Nat.zero_add, decide_true, decide_false, if_true, if_false, Bool.false_eq_true, ↓reduceIte]
  exact k
theorem zeroH_build {K : Value → World → Prop} (k : K (.agg (zeros32.map bv).toArray) w) : pvv prog (Instr.build 23 #[]) w K := pvv_of (fun w => by kernel_rfl) k
theorem hash_ret3 (h : sat E w H) {b : Nat} {l ol : List UInt8} {n : Int} (hl : l.length = 32) (hol : ol.length = 32) [Own H b (.cells (ol.map bv).toArray 23 (0, 0)) R]
    (k : ∀ w', sat E w' (pts b (.cells (l.map bv).toArray 23 (0, 0)) * R) → K (.tuple #[.int .i64 n, .agg (l.map bv).toArray]) w') :
    efu prog (Instr.storeAt 23 (.pointer (some ⟨b, 0, none⟩)) (.agg (l.map bv).toArray)) w fun _ w =>
      ∃ r, (do loadVar 23 (← asAddr (.pointer (some ⟨b, 0, none⟩)))).run prog w = .ok r w ∧ K (.tuple #[.int .i64 n, r]) w :=
  hash_ret (K := fun r w => K (.tuple #[.int .i64 n, r]) w) h hl hol k
theorem build57 {n : Int} {l : List UInt8} (hl : l.length = 32) (k : K (.agg (.int .i64 n :: l.map bv).toArray) w) : pvv prog (Instr.build 96 #[(0, .int .i64 n), (1, .agg (l.map bv).toArray)]) w K := by
  obtain ⟨f, rfl⟩ : ∃ f : Nat → UInt8, l = (List.range 32).map f := ⟨fun i => l.getD i 0, by
    apply List.ext_getElem
    · simp [hl]
    · intro i h1 h2
      simp [List.getD_eq_getElem?_getD, h1]⟩
  exact pvv_of (fun w => by kernel_rfl) k
def anchorS (s : Ch) : Ch := { s with an := s.bn + s.l.length, ah := s.hd }
theorem ok_anchor {s : Ch} {m : Nat} (ok : Ok s m) : Ok (anchorS s) m := ⟨ok.b, ok.h, ok.h, ok.b0, by have := ok.b0; simp only [anchorS]; omega, by simp only [anchorS]; omega, ok.top, ok.few⟩
end Go.Proofs.YtmnaalpjhkkglaaDoor

/-
  A chain's events, copied; adding an event.
-/
set_option linter.all false
set_option maxRecDepth 10000
namespace Go.Proofs.YtmnaalpjhkkglaaDoor
open Go Hold
variable {E : World0} {w : World} {H R : HP} {K : Value → World → Prop}
theorem osl_empty {b : Nat} (h : sat E w (pts b (.cells #[] 56 (0, 0)) * R)) : sat E w (osl 56 4 (.slice (some ⟨b, 0, none⟩) 0 0) 0 [] * R) :=
  sat_osl.2 (.inr ⟨b, 0, [], rfl, rfl, rfl, Nat.le_refl _, by omega, h⟩)
theorem CloneE_spec (h : sat E w H) {a : Option Addr} {n c : Nat} {xs : List Value} (hx : xs.length = n * 4) (h1 : ∀ x ∈ xs, x.oneCell' = true) (hv : Rds H (.slice a n c) n xs) (hn : n ≤ 1000)
    (k : ∀ v w', sat E w' (osl 56 4 v n xs * H) → K v w') : Calls prog 41 #[.slice a n c] w (Ret K) := by
  refine c41 ?_
  unfold B41
  rw [o_eqSl]
  cases a with
  | none =>
    obtain ⟨_, _, _, _, _, ha⟩ := hv.shape h
    have hw := hv.win h
    have hxs : xs = [] := by
      rcases hw with h | ⟨_, _, _, _, _, h, _⟩
      · exact h
      · cases h
    subst hxs
    have hn0 : n = 0 := by simp at hx; omega
    subst hn0
    try simp only [↓o_nil, ↓o_field, ↓o_add, ↓o_sub, ↓o_mul, ↓o_lss, ↓o_leq, ↓o_gtr, ↓o_geq, ↓o_not, ↓o_pick, ↓o_eqInt, ↓o_neInt, ↓o_eqBool, ↓o_neBool, ↓o_eqPtr, ↓o_nePtr, ↓o_eqPtr', ↓o_eqSl, ↓o_neSl, ↓o_eqStr, ↓o_neStr, ↓o_len, ↓o_lenS, ↓o_min, ↓o_max, ↓o_extract, ↓o_convInt, ↓cd_true, ↓cd_false, ↓gate_tt, ↓gate_ff, ↓gate_tf, ↓gate_ft, ↓gate_undef, ↓o_bind, ↓stay_v, ↓pop_cons, ↓fin_nil, Option.isNone_none, Option.isNone_some, Bool.not_true, Bool.not_false, Nat.zero_add, decide_true, decide_false, if_true, if_false, Bool.false_eq_true, ↓reduceIte]
    exact k _ _ (osl_nil h 56 4)
  | some a =>
    try simp only [↓o_nil, ↓o_field, ↓o_add, ↓o_sub, ↓o_mul, ↓o_lss, ↓o_leq, ↓o_gtr, ↓o_geq, ↓o_not, ↓o_pick, ↓o_eqInt, ↓o_neInt, ↓o_eqBool, ↓o_neBool, ↓o_eqPtr, ↓o_nePtr, ↓o_eqPtr', ↓o_eqSl, ↓o_neSl, ↓o_eqStr, ↓o_neStr, ↓o_len, ↓o_lenS, ↓o_min, ↓o_max, ↓o_extract, ↓o_convInt, ↓cd_true, ↓cd_false, ↓gate_tt, ↓gate_ff, ↓gate_tf, ↓gate_ft, ↓gate_undef, ↓o_bind, ↓stay_v, ↓pop_cons, ↓fin_nil, Option.isNone_none, Option.isNone_some, Bool.not_true, Bool.not_false, Nat.zero_add, decide_true, decide_false, if_true, if_false, Bool.false_eq_true, ↓reduceIte]
    refine buildSlice_sl (e := 56) (cs := #[]) h (fun w => by kernel_rfl) fun b w h => ?_
    have h := osl_empty h
    refine append_sl (v := .slice (some ⟨b, 0, none⟩) 0 0) h xs hx (hv.win h.drop) h1 (by omega) (by omega) fun v w h => ?_
    refine k v w ?_
    simpa using h
theorem Events_spec {p m : Nat} {s : Ch} {v : Value} (ok : Ok s m) (h : sat E w (chI p s v R)) (k : ∀ u w', sat E w' (osl 56 4 u s.l.length (evs s.l) * chI p s v R) → K u w') : Calls prog 22 #[.pointer (some ⟨p, 0, none⟩)] w (Ret K) := by
  have := ok.few
  obtain ⟨a, c, rfl, hc, hv, _⟩ := (Rds.evs (s := s)).shape h
  refine c22 ?_
  unfold B22
  try simp only [↓o_nil, ↓o_field, ↓o_add, ↓o_sub, ↓o_mul, ↓o_lss, ↓o_leq, ↓o_gtr, ↓o_geq, ↓o_not, ↓o_pick, ↓o_eqInt, ↓o_neInt, ↓o_eqBool, ↓o_neBool, ↓o_eqPtr, ↓o_nePtr, ↓o_eqPtr', ↓o_eqSl, ↓o_neSl, ↓o_eqStr, ↓o_neStr, ↓o_len, ↓o_lenS, ↓o_min, ↓o_max, ↓o_extract, ↓o_convInt, ↓cd_true, ↓cd_false, ↓gate_tt, ↓gate_ff, ↓gate_tf, ↓gate_ft, ↓gate_undef, ↓o_bind, ↓stay_v, ↓pop_cons, ↓fin_nil, Option.isNone_none, Option.isNone_some, Bool.not_true, Bool.not_false, Nat.zero_add, decide_true, decide_false, if_true, if_false, Bool.false_eq_true, ↓reduceIte]
  refine ld_in (b := p) (v := .slice a s.l.length c) h (ic_l ok) ?_
  exact CloneE_spec h (evs_length _) (evs_one _) hv (by omega) fun u w h => k u w h
theorem Events_nil (k : K (.slice none 0 0) w) : Calls prog 22 #[.pointer none] w (Ret K) := by
  refine c22 ?_
  unfold B22
  try simp only [↓o_nil, ↓o_field, ↓o_add, ↓o_sub, ↓o_mul, ↓o_lss, ↓o_leq, ↓o_gtr, ↓o_geq, ↓o_not, ↓o_pick, ↓o_eqInt, ↓o_neInt, ↓o_eqBool, ↓o_neBool, ↓o_eqPtr, ↓o_nePtr, ↓o_eqPtr', ↓o_eqSl, ↓o_neSl, ↓o_eqStr, ↓o_neStr, ↓o_len, ↓o_lenS, ↓o_min, ↓o_max, ↓o_extract, ↓o_convInt, ↓cd_true, ↓cd_false, ↓gate_tt, ↓gate_ff, ↓gate_tf, ↓gate_ft, ↓gate_undef, ↓o_bind, ↓stay_v, ↓pop_cons, ↓fin_nil, Option.isNone_none, Option.isNone_some, Bool.not_true, Bool.not_false, Nat.zero_add, decide_true, decide_false, if_true, if_false, Bool.false_eq_true, ↓reduceIte]
  exact k
def newE (s : Ch) (t : Int) (a b : List UInt8) : Evt := ⟨s.bn + s.l.length + 1, t, a, b⟩
def addS (s : Ch) (t : Int) (a b : List UInt8) : Ch × Evt × Int :=
  if t < 0 ∨ 1099511627776 < t then (s, zeroE, 2)
  else if 12 < a.length ∨ 30 < b.length then (s, zeroE, 6)
  else if t < s.last then (s, zeroE, 9)
  else if 64 ≤ s.l.length then (s, zeroE, 26)
  else ({ s with l := s.l ++ [newE s t a b], hd := nx s.hd (newE s t a b), last := t }, newE s t a b, 0)
theorem ok_add {s : Ch} {m : Nat} {t : Int} {a b : List UInt8} (ok : Ok s m) : Ok (addS s t a b).1 (m + 1) := by
  have ok1 : Ok s (m + 1) := ⟨ok.b, ok.a, ok.h, ok.b0, ok.a0, ok.le, by have := ok.top; omega, ok.few⟩
  unfold addS
  split
  · exact ok1
  · split
    · exact ok1
    · split
      · exact ok1
      · split
        · exact ok1
        · have := ok.le; have := ok.top
          exact ⟨ok.b, ok.a, nx_length _ _, ok.b0, ok.a0, by simp; omega, by simp; omega, by simp; omega⟩
theorem evt_ret (h : sat E w H) {b : Nat} {x y : Evt} {e : Int} [Own H b (.cells (ecells x).toArray 56 (0, 0)) R] (k : ∀ w', sat E w' (pts b (.cells (ecells y).toArray 56 (0, 0)) * R) → K (.tuple #[ev y, .int .i64 e]) w') :
    efu prog (Instr.storeAt 56 (.pointer (some ⟨b, 0, none⟩)) (ev y)) w fun _ w => ∃ r, (do loadVar 56 (← asAddr (.pointer (some ⟨b, 0, none⟩)))).run prog w = .ok r w ∧ K (.tuple #[r, .int .i64 e]) w :=
  res_all (K := fun r w => K (.tuple #[r, .int .i64 e]) w) (b := b) h (xs := ecells x) (vs := ecells y) rfl rfl (ecells_one y) k
theorem zeroE_build (k : K (ev zeroE) w) : pvv prog (Instr.build 56 #[]) w K := pvv_of (fun w => by kernel_rfl) k
theorem Add_nil (h : sat E w H) {t : Int} {x y : Value} (k : ∀ w', sat E w' H → K (.tuple #[ev zeroE, .int .i64 1]) w') : Calls prog 17 #[.pointer none, .int .i64 t, x, y] w (Ret K) := by
  refine c17 ?_
  unfold B17
  refine alloc_sl h fun b0 w h => ?_
  have h : sat E w (pts b0 (.cells (ecells zeroE).toArray 56 (0, 0)) * H) := h
  try simp only [↓o_nil, ↓o_field, ↓o_add, ↓o_sub, ↓o_mul, ↓o_lss, ↓o_leq, ↓o_gtr, ↓o_geq, ↓o_not, ↓o_pick, ↓o_eqInt, ↓o_neInt, ↓o_eqBool, ↓o_neBool, ↓o_eqPtr, ↓o_nePtr, ↓o_eqPtr', ↓o_eqSl, ↓o_neSl, ↓o_eqStr, ↓o_neStr, ↓o_len, ↓o_lenS, ↓o_min, ↓o_max, ↓o_extract, ↓o_convInt, ↓cd_true, ↓cd_false, ↓gate_tt, ↓gate_ff, ↓gate_tf, ↓gate_ft, ↓gate_undef, ↓o_bind, ↓stay_v, ↓pop_cons, ↓fin_nil, Option.isNone_none, Option.isNone_some, Bool.not_true, Bool.not_false, Nat.zero_add, decide_true, decide_false, if_true, if_false, Bool.false_eq_true, ↓reduceIte]
  refine zeroE_build ?_
  exact evt_ret (b := b0) (x := zeroE) h fun w h => k _ h.drop
theorem Add_spec {p m : Nat} {s : Ch} {v : Value} {t : Int} {a b : List UInt8} (ok : Ok s m) (hm : m ≤ 1000000000000) (hd : Dbt R) (h : sat E w (chI p s v R))
    (k : ∀ v' w', sat E w' (chI p (addS s t a b).1 v' R) → K (.tuple #[ev (addS s t a b).2.1, .int .i64 (addS s t a b).2.2]) w') : Calls prog 17 #[.pointer (some ⟨p, 0, none⟩), .int .i64 t, tv a, tv b] w (Ret K) := by
  have := ok.few; have := ok.top; have := ok.b0
  obtain ⟨va, vc, rfl, hc, hv, _⟩ := (Rds.evs (s := s)).shape h
  refine c17 ?_
  unfold B17
  refine alloc_sl h fun b0 w h => ?_
  have h : sat E w (pts b0 (.cells (ecells zeroE).toArray 56 (0, 0)) * chI p s (.slice va s.l.length vc) R) := h
  simp only [↓o_eqPtr, Option.isNone_some, ↓cd_false]
  rw [o_lss]
  by_cases h1 : t < 0
  · have e : addS s t a b = (s, zeroE, 2) := by unfold addS; rw [if_pos (.inl h1)]
    simp only [h1, ↓o_nil, ↓o_field, ↓o_add, ↓o_sub, ↓o_mul, ↓o_lss, ↓o_leq, ↓o_gtr, ↓o_geq, ↓o_not, ↓o_pick, ↓o_eqInt, ↓o_neInt, ↓o_eqBool, ↓o_neBool, ↓o_eqPtr, ↓o_nePtr, ↓o_eqPtr', ↓o_eqSl, ↓o_neSl, ↓o_eqStr, ↓o_neStr, ↓o_len, ↓o_lenS, ↓o_min, ↓o_max, ↓o_extract, ↓o_convInt, ↓cd_true, ↓cd_false, ↓gate_tt, ↓gate_ff, ↓gate_tf, ↓gate_ft, ↓gate_undef, ↓o_bind, ↓stay_v, ↓pop_cons, ↓fin_nil, Option.isNone_none, Option.isNone_some, Bool.not_true, Bool.not_false, Nat.zero_add, decide_true, decide_false, if_true, if_false, Bool.false_eq_true, ↓reduceIte]
    refine zeroE_build ?_
    exact evt_ret (b := b0) (x := zeroE) h fun w h => by rw [e] at k; exact k _ _ h.drop
  simp only [h1, ↓o_nil, ↓o_field, ↓o_add, ↓o_sub, ↓o_mul, ↓o_lss, ↓o_leq, ↓o_gtr, ↓o_geq, ↓o_not, ↓o_pick, ↓o_eqInt, ↓o_neInt, ↓o_eqBool, ↓o_neBool, ↓o_eqPtr, ↓o_nePtr, ↓o_eqPtr', ↓o_eqSl, ↓o_neSl, ↓o_eqStr, ↓o_neStr, ↓o_len, ↓o_lenS, ↓o_min, ↓o_max, ↓o_extract, ↓o_convInt, ↓cd_true, ↓cd_false, ↓gate_tt, ↓gate_ff, ↓gate_tf, ↓gate_ft, ↓gate_undef, ↓o_bind, ↓stay_v, ↓pop_cons, ↓fin_nil, Option.isNone_none, Option.isNone_some, Bool.not_true, Bool.not_false, Nat.zero_add, decide_true, decide_false, if_true, if_false, Bool.false_eq_true, ↓reduceIte]
  by_cases h2 : 1099511627776 < t
  · have e : addS s t a b = (s, zeroE, 2) := by unfold addS; rw [if_pos (.inr h2)]
    simp only [h2, ↓o_nil, ↓o_field, ↓o_add, ↓o_sub, ↓o_mul, ↓o_lss, ↓o_leq, ↓o_gtr, ↓o_geq, ↓o_not, ↓o_pick, ↓o_eqInt, ↓o_neInt, ↓o_eqBool, ↓o_neBool, ↓o_eqPtr, ↓o_nePtr, ↓o_eqPtr', ↓o_eqSl, ↓o_neSl, ↓o_eqStr, ↓o_neStr, ↓o_len, ↓o_lenS, ↓o_min, ↓o_max, ↓o_extract, ↓o_convInt, ↓cd_true, ↓cd_false, ↓gate_tt, ↓gate_ff, ↓gate_tf, ↓gate_ft, ↓gate_undef, ↓o_bind, ↓stay_v, ↓pop_cons, ↓fin_nil, Option.isNone_none, Option.isNone_some, Bool.not_true, Bool.not_false, Nat.zero_add, decide_true, decide_false, if_true, if_false, Bool.false_eq_true, ↓reduceIte]
    refine zeroE_build ?_
    exact evt_ret (b := b0) (x := zeroE) h fun w h => by rw [e] at k; exact k _ _ h.drop
  have n1 : ¬ (t < 0 ∨ 1099511627776 < t) := by omega
  simp only [h2, ↓o_nil, ↓o_field, ↓o_add, ↓o_sub, ↓o_mul, ↓o_lss, ↓o_leq, ↓o_gtr, ↓o_geq, ↓o_not, ↓o_pick, ↓o_eqInt, ↓o_neInt, ↓o_eqBool, ↓o_neBool, ↓o_eqPtr, ↓o_nePtr, ↓o_eqPtr', ↓o_eqSl, ↓o_neSl, ↓o_eqStr, ↓o_neStr, ↓o_len, ↓o_lenS, ↓o_min, ↓o_max, ↓o_extract, ↓o_convInt, ↓cd_true, ↓cd_false, ↓gate_tt, ↓gate_ff, ↓gate_tf, ↓gate_ft, ↓gate_undef, ↓o_bind, ↓stay_v, ↓pop_cons, ↓fin_nil, Option.isNone_none, Option.isNone_some, Bool.not_true, Bool.not_false, Nat.zero_add, decide_true, decide_false, if_true, if_false, Bool.false_eq_true, ↓reduceIte]
  rw [o_lenT, o_gtr]
  by_cases h3 : (12 : Int) < a.length
  · have e : addS s t a b = (s, zeroE, 6) := by unfold addS; rw [if_neg n1, if_pos (.inl (by omega))]
    simp only [h3, ↓o_nil, ↓o_field, ↓o_add, ↓o_sub, ↓o_mul, ↓o_lss, ↓o_leq, ↓o_gtr, ↓o_geq, ↓o_not, ↓o_pick, ↓o_eqInt, ↓o_neInt, ↓o_eqBool, ↓o_neBool, ↓o_eqPtr, ↓o_nePtr, ↓o_eqPtr', ↓o_eqSl, ↓o_neSl, ↓o_eqStr, ↓o_neStr, ↓o_len, ↓o_lenS, ↓o_min, ↓o_max, ↓o_extract, ↓o_convInt, ↓cd_true, ↓cd_false, ↓gate_tt, ↓gate_ff, ↓gate_tf, ↓gate_ft, ↓gate_undef, ↓o_bind, ↓stay_v, ↓pop_cons, ↓fin_nil, Option.isNone_none, Option.isNone_some, Bool.not_true, Bool.not_false, Nat.zero_add, decide_true, decide_false, if_true, if_false, Bool.false_eq_true, ↓reduceIte]
    refine zeroE_build ?_
    exact evt_ret (b := b0) (x := zeroE) h fun w h => by rw [e] at k; exact k _ _ h.drop
  simp only [h3, ↓o_nil, ↓o_field, ↓o_add, ↓o_sub, ↓o_mul, ↓o_lss, ↓o_leq, ↓o_gtr, ↓o_geq, ↓o_not, ↓o_pick, ↓o_eqInt, ↓o_neInt, ↓o_eqBool, ↓o_neBool, ↓o_eqPtr, ↓o_nePtr, ↓o_eqPtr', ↓o_eqSl, ↓o_neSl, ↓o_eqStr, ↓o_neStr, ↓o_len, ↓o_lenS, ↓o_min, ↓o_max, ↓o_extract, ↓o_convInt, ↓cd_true, ↓cd_false, ↓gate_tt, ↓gate_ff, ↓gate_tf, ↓gate_ft, ↓gate_undef, ↓o_bind, ↓stay_v, ↓pop_cons, ↓fin_nil, Option.isNone_none, Option.isNone_some, Bool.not_true, Bool.not_false, Nat.zero_add, decide_true, decide_false, if_true, if_false, Bool.false_eq_true, ↓reduceIte]
  rw [o_lenT, o_gtr]
  by_cases h4 : (30 : Int) < b.length
  · have e : addS s t a b = (s, zeroE, 6) := by unfold addS; rw [if_neg n1, if_pos (.inr (by omega))]
    simp only [h4, ↓o_nil, ↓o_field, ↓o_add, ↓o_sub, ↓o_mul, ↓o_lss, ↓o_leq, ↓o_gtr, ↓o_geq, ↓o_not, ↓o_pick, ↓o_eqInt, ↓o_neInt, ↓o_eqBool, ↓o_neBool, ↓o_eqPtr, ↓o_nePtr, ↓o_eqPtr', ↓o_eqSl, ↓o_neSl, ↓o_eqStr, ↓o_neStr, ↓o_len, ↓o_lenS, ↓o_min, ↓o_max, ↓o_extract, ↓o_convInt, ↓cd_true, ↓cd_false, ↓gate_tt, ↓gate_ff, ↓gate_tf, ↓gate_ft, ↓gate_undef, ↓o_bind, ↓stay_v, ↓pop_cons, ↓fin_nil, Option.isNone_none, Option.isNone_some, Bool.not_true, Bool.not_false, Nat.zero_add, decide_true, decide_false, if_true, if_false, Bool.false_eq_true, ↓reduceIte]
    refine zeroE_build ?_
    exact evt_ret (b := b0) (x := zeroE) h fun w h => by rw [e] at k; exact k _ _ h.drop
  have n2 : ¬ (12 < a.length ∨ 30 < b.length) := by omega
  simp only [h4, ↓o_nil, ↓o_field, ↓o_add, ↓o_sub, ↓o_mul, ↓o_lss, ↓o_leq, ↓o_gtr, ↓o_geq, ↓o_not, ↓o_pick, ↓o_eqInt, ↓o_neInt, ↓o_eqBool, ↓o_neBool, ↓o_eqPtr, ↓o_nePtr, ↓o_eqPtr', ↓o_eqSl, ↓o_neSl, ↓o_eqStr, ↓o_neStr, ↓o_len, ↓o_lenS, ↓o_min, ↓o_max, ↓o_extract, ↓o_convInt, ↓cd_true, ↓cd_false, ↓gate_tt, ↓gate_ff, ↓gate_tf, ↓gate_ft, ↓gate_undef, ↓o_bind, ↓stay_v, ↓pop_cons, ↓fin_nil, Option.isNone_none, Option.isNone_some, Bool.not_true, Bool.not_false, Nat.zero_add, decide_true, decide_false, if_true, if_false, Bool.false_eq_true, ↓reduceIte]
  refine ld_in (b := p) (v := .int .i64 s.last) h (ic_last ok) ?_
  rw [o_lss]
  by_cases h5 : t < s.last
  · have e : addS s t a b = (s, zeroE, 9) := by unfold addS; rw [if_neg n1, if_neg n2, if_pos h5]
    simp only [h5, ↓o_nil, ↓o_field, ↓o_add, ↓o_sub, ↓o_mul, ↓o_lss, ↓o_leq, ↓o_gtr, ↓o_geq, ↓o_not, ↓o_pick, ↓o_eqInt, ↓o_neInt, ↓o_eqBool, ↓o_neBool, ↓o_eqPtr, ↓o_nePtr, ↓o_eqPtr', ↓o_eqSl, ↓o_neSl, ↓o_eqStr, ↓o_neStr, ↓o_len, ↓o_lenS, ↓o_min, ↓o_max, ↓o_extract, ↓o_convInt, ↓cd_true, ↓cd_false, ↓gate_tt, ↓gate_ff, ↓gate_tf, ↓gate_ft, ↓gate_undef, ↓o_bind, ↓stay_v, ↓pop_cons, ↓fin_nil, Option.isNone_none, Option.isNone_some, Bool.not_true, Bool.not_false, Nat.zero_add, decide_true, decide_false, if_true, if_false, Bool.false_eq_true, ↓reduceIte]
    refine zeroE_build ?_
    exact evt_ret (b := b0) (x := zeroE) h fun w h => by rw [e] at k; exact k _ _ h.drop
  simp only [h5, ↓o_nil, ↓o_field, ↓o_add, ↓o_sub, ↓o_mul, ↓o_lss, ↓o_leq, ↓o_gtr, ↓o_geq, ↓o_not, ↓o_pick, ↓o_eqInt, ↓o_neInt, ↓o_eqBool, ↓o_neBool, ↓o_eqPtr, ↓o_nePtr, ↓o_eqPtr', ↓o_eqSl, ↓o_neSl, ↓o_eqStr, ↓o_neStr, ↓o_len, ↓o_lenS, ↓o_min, ↓o_max, ↓o_extract, ↓o_convInt, ↓cd_true, ↓cd_false, ↓gate_tt, ↓gate_ff, ↓gate_tf, ↓gate_ft, ↓gate_undef, ↓o_bind, ↓stay_v, ↓pop_cons, ↓fin_nil, Option.isNone_none, Option.isNone_some, Bool.not_true, Bool.not_false, Nat.zero_add, decide_true, decide_false, if_true, if_false, Bool.false_eq_true, ↓reduceIte]
  refine ld_in (b := p) (v := .slice va s.l.length vc) h (ic_l ok) ?_
  rw [o_len, o_geq]
  by_cases h6 : (64 : Int) ≤ s.l.length
  · have e : addS s t a b = (s, zeroE, 26) := by unfold addS; rw [if_neg n1, if_neg n2, if_neg h5, if_pos (by omega)]
    simp only [h6, ↓o_nil, ↓o_field, ↓o_add, ↓o_sub, ↓o_mul, ↓o_lss, ↓o_leq, ↓o_gtr, ↓o_geq, ↓o_not, ↓o_pick, ↓o_eqInt, ↓o_neInt, ↓o_eqBool, ↓o_neBool, ↓o_eqPtr, ↓o_nePtr, ↓o_eqPtr', ↓o_eqSl, ↓o_neSl, ↓o_eqStr, ↓o_neStr, ↓o_len, ↓o_lenS, ↓o_min, ↓o_max, ↓o_extract, ↓o_convInt, ↓cd_true, ↓cd_false, ↓gate_tt, ↓gate_ff, ↓gate_tf, ↓gate_ft, ↓gate_undef, ↓o_bind, ↓stay_v, ↓pop_cons, ↓fin_nil, Option.isNone_none, Option.isNone_some, Bool.not_true, Bool.not_false, Nat.zero_add, decide_true, decide_false, if_true, if_false, Bool.false_eq_true, ↓reduceIte]
    refine zeroE_build ?_
    exact evt_ret (b := b0) (x := zeroE) h fun w h => by rw [e] at k; exact k _ _ h.drop
  have e : addS s t a b = ({ s with l := s.l ++ [newE s t a b], hd := nx s.hd (newE s t a b), last := t }, newE s t a b, 0) := by unfold addS; rw [if_neg n1, if_neg n2, if_neg h5, if_neg (by omega)]
  rw [e] at k
  simp only [h6, ↓o_nil, ↓o_field, ↓o_add, ↓o_sub, ↓o_mul, ↓o_lss, ↓o_leq, ↓o_gtr, ↓o_geq, ↓o_not, ↓o_pick, ↓o_eqInt, ↓o_neInt, ↓o_eqBool, ↓o_neBool, ↓o_eqPtr, ↓o_nePtr, ↓o_eqPtr', ↓o_eqSl, ↓o_neSl, ↓o_eqStr, ↓o_neStr, ↓o_len, ↓o_lenS, ↓o_min, ↓o_max, ↓o_extract, ↓o_convInt, ↓cd_true, ↓cd_false, ↓gate_tt, ↓gate_ff, ↓gate_tf, ↓gate_ft, ↓gate_undef, ↓o_bind, ↓stay_v, ↓pop_cons, ↓fin_nil, Option.isNone_none, Option.isNone_some, Bool.not_true, Bool.not_false, Nat.zero_add, decide_true, decide_false, if_true, if_false, Bool.false_eq_true, ↓reduceIte]
  refine Count_spec ok (by omega) h fun w h => ?_
  rw [o_add, i64_of (by omega) (by omega)]
  refine pvv_of (v := ev (newE s t a b)) (fun w => by kernel_rfl) ?_
  generalize hx : newE s t a b = x at k ⊢
  refine alloc_sl h fun b1 w h => ?_
  have h : sat E w (pts b1 (.cells (ecells zeroE).toArray 56 (0, 0)) * (pts b0 (.cells (ecells zeroE).toArray 56 (0, 0)) * chI p s (.slice va s.l.length vc) R)) := h
  refine store_all (b := b1) h (xs := ecells zeroE) (vs := ecells x) rfl rfl (ecells_one x) fun w h => ?_
  refine dr_sl h fun w h _ => ?_
  try simp only [↓o_nil, ↓o_field, ↓o_add, ↓o_sub, ↓o_mul, ↓o_lss, ↓o_leq, ↓o_gtr, ↓o_geq, ↓o_not, ↓o_pick, ↓o_eqInt, ↓o_neInt, ↓o_eqBool, ↓o_neBool, ↓o_eqPtr, ↓o_nePtr, ↓o_eqPtr', ↓o_eqSl, ↓o_neSl, ↓o_eqStr, ↓o_neStr, ↓o_len, ↓o_lenS, ↓o_min, ↓o_max, ↓o_extract, ↓o_convInt, ↓cd_true, ↓cd_false, ↓gate_tt, ↓gate_ff, ↓gate_tf, ↓gate_ft, ↓gate_undef, ↓o_bind, ↓stay_v, ↓pop_cons, ↓fin_nil, Option.isNone_none, Option.isNone_some, Bool.not_true, Bool.not_false, Nat.zero_add, decide_true, decide_false, if_true, if_false, Bool.false_eq_true, ↓reduceIte]
  refine ld_in (b := p) (v := .slice va s.l.length vc) h (ic_l ok) ?_
  refine ld_in (b := p) (v := .slice va s.l.length vc) h (ic_l ok) ?_
  rw [o_len]
  refine ld_in (b := p) (v := .slice va s.l.length vc) h (ic_l ok) ?_
  rw [o_len, o_slice_hm (by omega) (by omega) (by omega)]
  simp only [Int.toNat_natCast]
  refine ld_agg (b := b1) (xs := ecells x) h rfl ?_
  refine buildSlice_sl (e := 56) (cs := (ecells x).toArray) h (fun w => by kernel_rfl) fun b2 w h => ?_
  refine st_in (b := p) (v := .slice va s.l.length vc) h (ic_l ok) ?_
  refine st_in (b := p) (v := .slice va s.l.length vc) h (ic_l ok) ?_
  refine st_in (b := p) (v := .slice va s.l.length vc) h (ic_l ok) ?_
  have hcut : Rds (pts b2 (.cells (ecells x).toArray 56 (0, 0)) * (pts b1 (.cells (ecells x).toArray 56 (0, 0)) * (pts b0 (.cells (ecells zeroE).toArray 56 (0, 0)) * chI p s (.slice va s.l.length vc) R))) (.slice va s.l.length s.l.length) s.l.length (evs s.l) := by
    intro E w hs
    obtain ⟨a', c', e', hc', hw'⟩ := hv E w hs.drop.drop.drop
    cases e'
    exact ⟨_, _, rfl, Nat.le_refl _, hw'⟩
  refine append_fullN h (evs_length s.l) hcut (ecells x) (k' := 1) (by omega) rfl (.inr ⟨b2, 0, _, _, _, rfl, h.pts_get, fun j v hj => by simpa using hj⟩) (by omega) (by omega) fun v' w h => ?_
  refine st_agg (b := b1) (xs := ecells x) h rfl ?_
  refine st_in (b := p) (v := .slice va s.l.length vc) h (ic_l ok) ?_
  refine st_in (b := p) (v := .slice va s.l.length vc) h (ic_l ok) ?_
  refine st_in (b := p) (v := .slice va s.l.length vc) h (ic_l ok) ?_
  try simp only [↓o_nil, ↓o_field, ↓o_add, ↓o_sub, ↓o_mul, ↓o_lss, ↓o_leq, ↓o_gtr, ↓o_geq, ↓o_not, ↓o_pick, ↓o_eqInt, ↓o_neInt, ↓o_eqBool, ↓o_neBool, ↓o_eqPtr, ↓o_nePtr, ↓o_eqPtr', ↓o_eqSl, ↓o_neSl, ↓o_eqStr, ↓o_neStr, ↓o_len, ↓o_lenS, ↓o_min, ↓o_max, ↓o_extract, ↓o_convInt, ↓cd_true, ↓cd_false, ↓gate_tt, ↓gate_ff, ↓gate_tf, ↓gate_ft, ↓gate_undef, ↓o_bind, ↓stay_v, ↓pop_cons, ↓fin_nil, Option.isNone_none, Option.isNone_some, Bool.not_true, Bool.not_false, Nat.zero_add, decide_true, decide_false, if_true, if_false, Bool.false_eq_true, ↓reduceIte]
  have hone : v'.oneCell' = true := by
    obtain ⟨_, _, rfl, _⟩ := osl_shape h
    rfl
  refine store_sl (b := p) h hone (by rw [ic_length ok]; omega) fun w h => ?_
  rw [ip_l ok (l := s.l ++ [x])] at h
  have ok1 : Ok { s with l := s.l ++ [x] } (m + 1) := ⟨ok.b, ok.a, ok.h, ok.b0, ok.a0, by have := ok.le; simp; omega, by simp; omega, by simp; omega⟩
  refine dr_sl h fun w h _ => ?_
  try simp only [↓o_nil, ↓o_field, ↓o_add, ↓o_sub, ↓o_mul, ↓o_lss, ↓o_leq, ↓o_gtr, ↓o_geq, ↓o_not, ↓o_pick, ↓o_eqInt, ↓o_neInt, ↓o_eqBool, ↓o_neBool, ↓o_eqPtr, ↓o_nePtr, ↓o_eqPtr', ↓o_eqSl, ↓o_neSl, ↓o_eqStr, ↓o_neStr, ↓o_len, ↓o_lenS, ↓o_min, ↓o_max, ↓o_extract, ↓o_convInt, ↓cd_true, ↓cd_false, ↓gate_tt, ↓gate_ff, ↓gate_tf, ↓gate_ft, ↓gate_undef, ↓o_bind, ↓stay_v, ↓pop_cons, ↓fin_nil, Option.isNone_none, Option.isNone_some, Bool.not_true, Bool.not_false, Nat.zero_add, decide_true, decide_false, if_true, if_false, Bool.false_eq_true, ↓reduceIte]
  refine ld_part (b := p) h (s.hd.map bv) (by simp [ok.h]) (ic_hd ok1) ?_
  refine ld_agg (b := b1) (xs := ecells x) h rfl ?_
  refine next_spec h hd.up ok.h fun w h => ?_
  try simp only [↓o_nil, ↓o_field, ↓o_add, ↓o_sub, ↓o_mul, ↓o_lss, ↓o_leq, ↓o_gtr, ↓o_geq, ↓o_not, ↓o_pick, ↓o_eqInt, ↓o_neInt, ↓o_eqBool, ↓o_neBool, ↓o_eqPtr, ↓o_nePtr, ↓o_eqPtr', ↓o_eqSl, ↓o_neSl, ↓o_eqStr, ↓o_neStr, ↓o_len, ↓o_lenS, ↓o_min, ↓o_max, ↓o_extract, ↓o_convInt, ↓cd_true, ↓cd_false, ↓gate_tt, ↓gate_ff, ↓gate_tf, ↓gate_ft, ↓gate_undef, ↓o_bind, ↓stay_v, ↓pop_cons, ↓fin_nil, Option.isNone_none, Option.isNone_some, Bool.not_true, Bool.not_false, Nat.zero_add, decide_true, decide_false, if_true, if_false, Bool.false_eq_true, ↓reduceIte]
  refine store_part (b := p) h (icells { s with l := s.l ++ [x], hd := nx s.hd x } v') (vs := (nx s.hd x).map bv) (by simp [nx_length]) (bv_one _) (by rw [ic_length ok1]; omega) (ip_hd ok1) fun w h => ?_
  have ok2 : Ok { s with l := s.l ++ [x], hd := nx s.hd x } (m + 1) := ⟨ok.b, ok.a, nx_length _ _, ok.b0, ok.a0, ok1.le, ok1.top, ok1.few⟩
  refine store_sl (b := p) h rfl (by rw [ic_length ok2]; omega) fun w h => ?_
  rw [ip_last ok2] at h
  refine ld_agg (b := b1) (xs := ecells x) h rfl ?_
  refine evt_ret (b := b0) (x := zeroE) (y := x) h fun w h => k v' w ?_
  have h := h.drop
  have h : sat E w (osl 56 4 v' (s.l.length + 1) (evs s.l ++ ecells x) * (pts b2 (.cells (ecells x).toArray 56 (0, 0)) * (pts b1 (.cells (ecells x).toArray 56 (0, 0)) * (pers (immS (.slice va s.l.length vc) s.l.length (evs s.l)) * (pts p (.cells (icells { s with l := s.l ++ [x], hd := nx s.hd x, last := t } v').toArray 98 (0, 0)) * R))))) := h.perm (by ac_rfl)
  have h := osl_freeze h
  have e9 : evs s.l ++ ecells x = evs (s.l ++ [x]) := by rw [evs_append]; simp [evs]
  rw [e9] at h
  have h := h.perm (show _ = pts b2 (.cells (ecells x).toArray 56 (0, 0)) * (pts b1 (.cells (ecells x).toArray 56 (0, 0)) * (pers (immS (.slice va s.l.length vc) s.l.length (evs s.l)) * (pts p (.cells (icells { s with l := s.l ++ [x], hd := nx s.hd x, last := t } v').toArray 98 (0, 0)) * (pers (immS v' (s.l.length + 1) (evs (s.l ++ [x]))) * R)))) by ac_rfl)
  have h := h.drop.drop.drop
  simpa [chI] using h
end Go.Proofs.YtmnaalpjhkkglaaDoor

/-
  A chain's points, one behind the other; whether the events are those of the chain.
-/
set_option linter.all false
set_option maxRecDepth 10000
namespace Go.Proofs.YtmnaalpjhkkglaaDoor
open Go Hold
variable {E : World0} {w : World} {H R : HP} {K : Value → World → Prop}
def links (h : List UInt8) (l : List Evt) : List UInt8 := l.foldl nx h
theorem links_length : ∀ (l : List Evt) {h : List UInt8}, h.length = 32 → (links h l).length = 32
  | [], h, hh => hh
  | x :: l, h, hh => links_length l (nx_length h x)
theorem links_snoc {h : List UInt8} {l : List Evt} {i : Nat} (hi : i < l.length) : links h (l.take (i + 1)) = nx (links h (l.take i)) (l[i]'hi) := by
  unfold links
  rw [List.take_succ_eq_append_getElem hi, List.foldl_append]
  rfl
theorem ldw_part {t n b o e : Nat} {xs : List Value} {fr : Nat × Nat} [i : AggC prog t n] (hb : w.heap[b]? = some (.cells xs.toArray e fr)) (ys : List Value) (hn : ys.length = n) (hy : (xs.drop o).take n = ys) (k : K (.agg ys.toArray) w) :
    ldv prog (Instr.loadAt t (.pointer (some ⟨b, o, none⟩))) w K := ldv_of (run_loadN hn fun j v hj => cell_of hb (by simpa using take_cell hy hj)) k
theorem ldw_cell {t b o e : Nat} {xs : List Value} {fr : Nat × Nat} {v : Value} [i : OneC prog t] (hb : w.heap[b]? = some (.cells xs.toArray e fr)) (hv : xs[o]? = some v) (k : K v w) :
    ldv prog (Instr.loadAt t (.pointer (some ⟨b, o, none⟩))) w K := ld_cell (cell_of hb (by simpa using hv)) k
def pc (s : Ch) (i : Nat) : List Value := .int .i64 (s.bn + i) :: (links s.bh (s.l.take i)).map bv
section
variable {s : Ch} {m : Nat}
theorem pc_length (ok : Ok s m) (i : Nat) : (pc s i).length = 33 := by simp [pc, links_length _ ok.b]
theorem pc_one (s : Ch) (i : Nat) : ∀ x ∈ pc s i, x.oneCell' = true := by
  intro x hx
  rcases List.mem_cons.1 hx with rfl | hx
  · rfl
  · exact bv_one _ x hx
theorem pc_zero (s : Ch) : pc s 0 = .int .i64 s.bn :: s.bh.map bv := by simp [pc, links]
theorem pc_hash (ok : Ok s m) (i : Nat) : ((pc s i).drop 1).take 32 = (links s.bh (s.l.take i)).map bv := by
  unfold pc
  rw [List.drop_succ_cons, List.drop_zero, List.take_of_length_le (by simp [links_length _ ok.b])]
end
def z57 : List Value := .int .i64 0 :: zeros32.map bv
theorem Links_spec {p c0 m : Nat} {s : Ch} {v y : Value} (ok : Ok s m) (hm : m ≤ 1000000000000000) (G : Nat → HP) (Z : HP) (h : sat E w (G 0))
    (hG0 : ∀ i {w : World}, sat E w (G i) → w.heap[c0]? = some (.cells [Value.pointer (some ⟨p, 0, none⟩)].toArray 43 (0, 0)))
    (hG1 : ∀ i {w : World}, sat E w (G i) → w.heap[p]? = some (.cells (icells s v).toArray 98 (0, 0)))
    (hGv : ∀ i, Rds (G i) v s.l.length (evs s.l)) (hGd : ∀ i, Dbt (G i))
    (hy : ∀ (F : HP) (i : Nat), i ≤ s.l.length → ∀ (w : World) (K' : Value → World → Prop), sat E w (F * G i) → (∀ w', sat E w' (F * G (i + 1)) → K' (.bool true) w') → (∀ w', sat E w' (F * Z) → K' (.bool false) w') → ef prog (oCall y #[.agg (pc s i).toArray]) w K')
    (k1 : ∀ w', sat E w' (G (s.l.length + 1)) → K (.tuple #[]) w') (k2 : ∀ w', sat E w' Z → K (.tuple #[]) w') : Calls prog 53 #[y, .pointer (some ⟨c0, 0, none⟩)] w (Ret K) := by
  have := ok.few; have := ok.top; have := ok.b0
  obtain ⟨a, c, rfl, hc, _, _⟩ := (hGv 0).shape h
  refine c53 ?_
  unfold B53
  refine ldw_cell (hG0 0 h) (v := .pointer (some ⟨p, 0, none⟩)) rfl ?_
  try simp only [↓o_nil, ↓o_field, ↓o_add, ↓o_sub, ↓o_mul, ↓o_lss, ↓o_leq, ↓o_gtr, ↓o_geq, ↓o_not, ↓o_pick, ↓o_eqInt, ↓o_neInt, ↓o_eqBool, ↓o_neBool, ↓o_eqPtr, ↓o_nePtr, ↓o_eqPtr', ↓o_eqSl, ↓o_neSl, ↓o_eqStr, ↓o_neStr, ↓o_len, ↓o_lenS, ↓o_min, ↓o_max, ↓o_extract, ↓o_convInt, ↓cd_true, ↓cd_false, ↓gate_tt, ↓gate_ff, ↓gate_tf, ↓gate_ft, ↓gate_undef, ↓o_bind, ↓stay_v, ↓pop_cons, ↓fin_nil, Option.isNone_none, Option.isNone_some, Bool.not_true, Bool.not_false, Nat.zero_add, decide_true, decide_false, if_true, if_false, Bool.false_eq_true, ↓reduceIte]
  refine ldw_part (hG1 0 h) (pc s 0) (pc_length ok 0) (by rw [pc_zero]; exact ic_base ok) ?_
  refine alloc_sl h fun q w h => ?_
  have h : sat E w (pts q (.cells z57.toArray 96 (0, 0)) * G 0) := h
  refine store_all (b := q) h (xs := z57) (vs := pc s 0) rfl (pc_length ok 0) (pc_one s 0) fun w h => ?_
  refine ld_agg (b := q) h (pc_length ok 0) ?_
  refine hy _ 0 (by omega) w _ h (fun w h => ?_) (fun w h => ?_)
  · simp only [↓o_nil, ↓o_field, ↓o_add, ↓o_sub, ↓o_mul, ↓o_lss, ↓o_leq, ↓o_gtr, ↓o_geq, ↓o_not, ↓o_pick, ↓o_eqInt, ↓o_neInt, ↓o_eqBool, ↓o_neBool, ↓o_eqPtr, ↓o_nePtr, ↓o_eqPtr', ↓o_eqSl, ↓o_neSl, ↓o_eqStr, ↓o_neStr, ↓o_len, ↓o_lenS, ↓o_min, ↓o_max, ↓o_extract, ↓o_convInt, ↓cd_true, ↓cd_false, ↓gate_tt, ↓gate_ff, ↓gate_tf, ↓gate_ft, ↓gate_undef, ↓o_bind, ↓stay_v, ↓pop_cons, ↓fin_nil, Option.isNone_none, Option.isNone_some, Bool.not_true, Bool.not_false, Nat.zero_add, decide_true, decide_false, if_true, if_false, Bool.false_eq_true, ↓reduceIte]
    refine ldw_cell (hG0 1 h.drop) (v := .pointer (some ⟨p, 0, none⟩)) rfl ?_
    try simp only [↓o_nil, ↓o_field, ↓o_add, ↓o_sub, ↓o_mul, ↓o_lss, ↓o_leq, ↓o_gtr, ↓o_geq, ↓o_not, ↓o_pick, ↓o_eqInt, ↓o_neInt, ↓o_eqBool, ↓o_neBool, ↓o_eqPtr, ↓o_nePtr, ↓o_eqPtr', ↓o_eqSl, ↓o_neSl, ↓o_eqStr, ↓o_neStr, ↓o_len, ↓o_lenS, ↓o_min, ↓o_max, ↓o_extract, ↓o_convInt, ↓cd_true, ↓cd_false, ↓gate_tt, ↓gate_ff, ↓gate_tf, ↓gate_ft, ↓gate_undef, ↓o_bind, ↓stay_v, ↓pop_cons, ↓fin_nil, Option.isNone_none, Option.isNone_some, Bool.not_true, Bool.not_false, Nat.zero_add, decide_true, decide_false, if_true, if_false, Bool.false_eq_true, ↓reduceIte]
    refine ldw_cell (hG1 1 h.drop) (v := .slice a s.l.length c) (ic_l ok) ?_
    rw [o_len]
    refine lp_nat (fun q' σ w => ∃ j : Nat, σ = [.int .i64 (j : Int)] ∧ q' = s.l.length - j ∧ j ≤ s.l.length ∧ sat E w (pts q (.cells (pc s j).toArray 96 (0, 0)) * G (j + 1))) s.l.length ⟨0, rfl, by omega, by omega, h⟩ ?_
    clear h
    rintro q' σ w again ⟨j, rfl, rfl, hj, h⟩ hag
    rw [pop_cons, fin_nil, o_lss]
    refine cd_dec (fun hlt => ?_) (fun hge => ?_)
    · have hj2 : j < s.l.length := by omega
      obtain ⟨b, o, c', e, hc', hrd⟩ := (hGv (j + 1)).opened h.drop (by rw [evs_length]; omega)
      cases e
      rw [o_index (by omega) (by omega)]
      refine ld_el h (hrd.right) (j * 4) (by simp) (ecells s.l[j]) rfl (evs_at (by simp [hj2])) ?_
      refine alloc_sl h fun x w h => ?_
      have h : sat E w (pts x (.cells (ecells zeroE).toArray 56 (0, 0)) * (pts q (.cells (pc s j).toArray 96 (0, 0)) * G (j + 1))) := h
      refine store_all (b := x) h (xs := ecells zeroE) (vs := ecells s.l[j]) rfl rfl (ecells_one _) fun w h => ?_
      refine dr_sl h fun w h _ => ?_
      try simp only [↓o_nil, ↓o_field, ↓o_add, ↓o_sub, ↓o_mul, ↓o_lss, ↓o_leq, ↓o_gtr, ↓o_geq, ↓o_not, ↓o_pick, ↓o_eqInt, ↓o_neInt, ↓o_eqBool, ↓o_neBool, ↓o_eqPtr, ↓o_nePtr, ↓o_eqPtr', ↓o_eqSl, ↓o_neSl, ↓o_eqStr, ↓o_neStr, ↓o_len, ↓o_lenS, ↓o_min, ↓o_max, ↓o_extract, ↓o_convInt, ↓cd_true, ↓cd_false, ↓gate_tt, ↓gate_ff, ↓gate_tf, ↓gate_ft, ↓gate_undef, ↓o_bind, ↓stay_v, ↓pop_cons, ↓fin_nil, Option.isNone_none, Option.isNone_some, Bool.not_true, Bool.not_false, Nat.zero_add, decide_true, decide_false, if_true, if_false, Bool.false_eq_true, ↓reduceIte]
      refine ld_in (b := q) (v := .int .i64 (s.bn + j)) h rfl ?_
      rw [o_add, i64_of (by omega) (by omega)]
      refine ld_part (b := q) h ((links s.bh (s.l.take j)).map bv) (by simp [links_length _ ok.b]) (pc_hash ok j) ?_
      refine ld_agg (b := x) (xs := ecells s.l[j]) h rfl ?_
      refine next_spec h (hGd (j + 1)).right.right (links_length _ ok.b) fun w h => ?_
      refine st_in (b := q) (v := .int .i64 (s.bn + j)) h rfl ?_
      rw [← links_snoc hj2]
      refine build57 (links_length _ ok.b) ?_
      have e2 : (.int .i64 (s.bn + (j : Int) + 1) :: (links s.bh (s.l.take (j + 1))).map bv : List Value) = pc s (j + 1) := by
        unfold pc; congr 2; omega
      rw [e2]
      refine store_all (b := q) h (xs := pc s j) (vs := pc s (j + 1)) (pc_length ok _) (pc_length ok _) (pc_one s _) fun w h => ?_
      have h := h.lose x
      refine ld_agg (b := q) h (pc_length ok _) ?_
      refine hy _ (j + 1) (by omega) w _ h (fun w h => ?_) (fun w h => ?_)
      · simp only [↓o_nil, ↓o_field, ↓o_add, ↓o_sub, ↓o_mul, ↓o_lss, ↓o_leq, ↓o_gtr, ↓o_geq, ↓o_not, ↓o_pick, ↓o_eqInt, ↓o_neInt, ↓o_eqBool, ↓o_neBool, ↓o_eqPtr, ↓o_nePtr, ↓o_eqPtr', ↓o_eqSl, ↓o_neSl, ↓o_eqStr, ↓o_neStr, ↓o_len, ↓o_lenS, ↓o_min, ↓o_max, ↓o_extract, ↓o_convInt, ↓cd_true, ↓cd_false, ↓gate_tt, ↓gate_ff, ↓gate_tf, ↓gate_ft, ↓gate_undef, ↓o_bind, ↓stay_v, ↓pop_cons, ↓fin_nil, Option.isNone_none, Option.isNone_some, Bool.not_true, Bool.not_false, Nat.zero_add, decide_true, decide_false, if_true, if_false, Bool.false_eq_true, ↓reduceIte]
        rw [i64_of (by omega) (by omega)]
        exact hag (s.l.length - (j + 1)) _ _ (by omega) ⟨j + 1, rfl, rfl, by omega, h⟩
      · simp only [↓o_nil, ↓o_field, ↓o_add, ↓o_sub, ↓o_mul, ↓o_lss, ↓o_leq, ↓o_gtr, ↓o_geq, ↓o_not, ↓o_pick, ↓o_eqInt, ↓o_neInt, ↓o_eqBool, ↓o_neBool, ↓o_eqPtr, ↓o_nePtr, ↓o_eqPtr', ↓o_eqSl, ↓o_neSl, ↓o_eqStr, ↓o_neStr, ↓o_len, ↓o_lenS, ↓o_min, ↓o_max, ↓o_extract, ↓o_convInt, ↓cd_true, ↓cd_false, ↓gate_tt, ↓gate_ff, ↓gate_tf, ↓gate_ft, ↓gate_undef, ↓o_bind, ↓stay_v, ↓pop_cons, ↓fin_nil, Option.isNone_none, Option.isNone_some, Bool.not_true, Bool.not_false, Nat.zero_add, decide_true, decide_false, if_true, if_false, Bool.false_eq_true, ↓reduceIte]
        exact k2 _ h.drop
    · have hj2 : j = s.l.length := by omega
      subst hj2
      exact k1 _ h.drop
  · simp only [↓o_nil, ↓o_field, ↓o_add, ↓o_sub, ↓o_mul, ↓o_lss, ↓o_leq, ↓o_gtr, ↓o_geq, ↓o_not, ↓o_pick, ↓o_eqInt, ↓o_neInt, ↓o_eqBool, ↓o_neBool, ↓o_eqPtr, ↓o_nePtr, ↓o_eqPtr', ↓o_eqSl, ↓o_neSl, ↓o_eqStr, ↓o_neStr, ↓o_len, ↓o_lenS, ↓o_min, ↓o_max, ↓o_extract, ↓o_convInt, ↓cd_true, ↓cd_false, ↓gate_tt, ↓gate_ff, ↓gate_tf, ↓gate_ft, ↓gate_undef, ↓o_bind, ↓stay_v, ↓pop_cons, ↓fin_nil, Option.isNone_none, Option.isNone_some, Bool.not_true, Bool.not_false, Nat.zero_add, decide_true, decide_false, if_true, if_false, Bool.false_eq_true, ↓reduceIte]
    exact k2 _ h.drop
end Go.Proofs.YtmnaalpjhkkglaaDoor

/-
  Whether the events are those of the chain; letting events go.
-/
set_option linter.all false
set_option maxRecDepth 10000
namespace Go.Proofs.YtmnaalpjhkkglaaDoor
open Go Hold
variable {E : World0} {w : World} {H R : HP} {K : Value → World → Prop}
def bad (s : Ch) : Prop := s.bn ≤ s.an ∧ links s.bh (s.l.take (s.an - s.bn).toNat) ≠ s.ah
instance (s : Ch) : Decidable (bad s) := by unfold bad; exact inferInstance
def verifyS (s : Ch) : Int := if bad s ∨ links s.bh s.l ≠ s.hd then 15 else 0
theorem flds57 : ∃ f g : Field, (prog.fieldsOf 96).toList = [f, g] ∧ (f.name == "_") = false ∧ (g.name == "_") = false ∧ f.type = 3 ∧ f.offset = 0 ∧ g.type = 23 ∧ g.offset = 1 :=
  ⟨(prog.fieldsOf 96).toList.getD 0 default, (prog.fieldsOf 96).toList.getD 1 default, by kernel_rfl, by kernel_rfl, by kernel_rfl, by kernel_rfl, by kernel_rfl, by kernel_rfl, by kernel_rfl⟩
theorem run_eq57 {n n' : Int} {a b : List UInt8} (ha : a.length = 32) (hb : b.length = 32) (w : World) :
    (Op.eqFields 9999 (.int .i64 n :: a.map bv).toArray (.int .i64 n' :: b.map bv).toArray (prog.fieldsOf 96).toList).run prog w = .ok (decide (n = n') && (a == b)) w := by
  obtain ⟨f, g, e, h1, h2, h3, h4, h5, h6⟩ := flds57
  rw [e]
  have x1 : ∀ l : List UInt8, l.length = 32 → ∀ n : Int, (Value.int .i64 n :: l.map bv).toArray.extract 1 (1 + 32) = (l.map bv).toArray := fun l hl n => by
    apply Array.ext'
    simp [hl]
    exact List.take_of_length_le (by simp [hl])
  refine run_eqField h1 (a := .int .i64 n) (b := .int .i64 n') (by rw [h3, h4]; exact run_part1 rfl) (by rw [h3, h4]; exact run_part1 rfl) (by rw [h3]; exact run_equalIn_int w 9998 3 .i64 .i64 n n' ul_3.ul) ?_
  have h9 := run_eqField (P := prog) (w := w) (d := 9999) (xs := (.int .i64 n :: a.map bv).toArray) (ys := (.int .i64 n' :: b.map bv).toArray) (fs := []) h2 (a := .agg (a.map bv).toArray) (b := .agg (b.map bv).toArray) (p := a == b) (q := true)
    (by rw [h5, h6, run_partN (n := 32), x1 a ha]) (by rw [h5, h6, run_partN (n := 32), x1 b hb]) (by rw [h5]; exact run_equalIn_bytes w 9997 23 5 32 ul_23.ul ul_5.ul (fun w => run_sizeOf' (oneC_5).size) a b ha hb) run_eqNone
  simpa using h9
theorem neq_pc {n n' : Int} {a b : List UInt8} (ha : a.length = 32) (hb : b.length = 32) {xo yo : Operand} :
    pvv prog (oEq .neq 96 xo yo (.agg (.int .i64 n :: a.map bv).toArray) (.agg (.int .i64 n' :: b.map bv).toArray)) w K = K (.bool !(decide (n = n') && (a == b))) w :=
  o_neStruct (by kernel_rfl) (by kernel_rfl) (by kernel_rfl) (run_eq57 ha hb)
theorem flds34 : ∃ f g h i : Field, (prog.fieldsOf 56).toList = [f, g, h, i] ∧ (f.name == "_") = false ∧ (g.name == "_") = false ∧ (h.name == "_") = false ∧ (i.name == "_") = false ∧ f.type = 3 ∧ f.offset = 0 ∧ g.type = 3 ∧ g.offset = 1 ∧ h.type = 9 ∧ h.offset = 2 ∧ i.type = 9 ∧ i.offset = 3 :=
  ⟨(prog.fieldsOf 56).toList.getD 0 default, (prog.fieldsOf 56).toList.getD 1 default, (prog.fieldsOf 56).toList.getD 2 default, (prog.fieldsOf 56).toList.getD 3 default, by kernel_rfl, by kernel_rfl, by kernel_rfl, by kernel_rfl, by kernel_rfl, by kernel_rfl, by kernel_rfl, by kernel_rfl, by kernel_rfl, by kernel_rfl, by kernel_rfl, by kernel_rfl, by kernel_rfl⟩
theorem run_eq34 (x y : Evt) (w : World) : (Op.eqFields 9999 (ecells x).toArray (ecells y).toArray (prog.fieldsOf 56).toList).run prog w = .ok (decide (x = y)) w := by
  obtain ⟨f, g, h, i, e, h1, h2, h3, h4, t1, o1, t2, o2, t3, o3, t4, o4⟩ := flds34
  rw [e]
  have s1 : ∀ a b : List UInt8, (Op.equalIn 9999 9 (tv a) (tv b)).run prog w = .ok (decide (a = b)) w := fun a b => by
    have := run_equalIn_string (P := prog) w 9998 9 ⟨a.toArray⟩ ⟨b.toArray⟩ ul_9.ul
    rw [beq_lists] at this
    exact this
  have h9 := run_eqField (P := prog) (w := w) (d := 9999) (xs := (ecells x).toArray) (ys := (ecells y).toArray) (fs := [g, h, i]) h1 (a := .int .i64 x.n) (b := .int .i64 y.n) (by rw [t1, o1]; exact run_part1 rfl) (by rw [t1, o1]; exact run_part1 rfl) (by rw [t1]; exact run_equalIn_int w 9998 3 .i64 .i64 x.n y.n ul_3.ul)
    (run_eqField h2 (a := .int .i64 x.t) (b := .int .i64 y.t) (by rw [t2, o2]; exact run_part1 rfl) (by rw [t2, o2]; exact run_part1 rfl) (by rw [t2]; exact run_equalIn_int w 9998 3 .i64 .i64 x.t y.t ul_3.ul)
      (run_eqField h3 (a := tv x.what) (b := tv y.what) (by rw [t3, o3]; exact run_part1 rfl) (by rw [t3, o3]; exact run_part1 rfl) (by rw [t3]; exact s1 _ _)
        (run_eqField h4 (a := tv x.who) (b := tv y.who) (by rw [t4, o4]; exact run_part1 rfl) (by rw [t4, o4]; exact run_part1 rfl) (by rw [t4]; exact s1 _ _) run_eqNone)))
  rw [h9]
  congr 1
  rw [Bool.eq_iff_iff]
  obtain ⟨a, b, c, d⟩ := x
  obtain ⟨a', b', c', d'⟩ := y
  simp
theorem eq_ev {x y : Evt} {xo yo : Operand} : pvv prog (oEq .eql 56 xo yo (ev x) (ev y)) w K = K (.bool (decide (x = y))) w := o_eqStruct (by kernel_rfl) (by kernel_rfl) (by kernel_rfl) (run_eq34 x y)
theorem neq_ev {x y : Evt} {xo yo : Operand} : pvv prog (oEq .neq 56 xo yo (ev x) (ev y)) w K = K (.bool !(decide (x = y))) w := o_neStruct (by kernel_rfl) (by kernel_rfl) (by kernel_rfl) (run_eq34 x y)
theorem eq36 {a b : List UInt8} (ha : a.length = 32) (hb : b.length = 32) {xo yo : Operand} : pvv prog (oEq .eql 23 xo yo (.agg (a.map bv).toArray) (.agg (b.map bv).toArray)) w K = K (.bool (a == b)) w := o_eqArr (n := 32) (by kernel_rfl) ha hb
theorem neq36 {a b : List UInt8} (ha : a.length = 32) (hb : b.length = 32) {xo yo : Operand} : pvv prog (oEq .neq 23 xo yo (.agg (a.map bv).toArray) (.agg (b.map bv).toArray)) w K = K (.bool !(a == b)) w := o_neArr (n := 32) (by kernel_rfl) ha hb
end Go.Proofs.YtmnaalpjhkkglaaDoor

/-
  Whether the events are those of the chain.
-/
set_option linter.all false
set_option maxRecDepth 10000
namespace Go.Proofs.YtmnaalpjhkkglaaDoor
open Go Hold
variable {E : World0} {w : World} {H R : HP} {K : Value → World → Prop}
def lastP (s : Ch) : Nat → List Value
  | 0 => z57
  | i + 1 => pc s i
theorem lastP_length {s : Ch} {m : Nat} (ok : Ok s m) : ∀ i, (lastP s i).length = 33
  | 0 => rfl
  | i + 1 => pc_length ok i
def seen (s : Ch) (i : Nat) : Prop := ∀ j : Nat, j < i → ¬ (s.bn + (j : Int) = s.an ∧ links s.bh (s.l.take j) ≠ s.ah)
theorem seen_all {s : Ch} {m : Nat} (ok : Ok s m) (h : seen s (s.l.length + 1)) : ¬ bad s := by
  rintro ⟨h1, h2⟩
  have := ok.le
  exact h (s.an - s.bn).toNat (by omega) ⟨by omega, h2⟩
abbrev boxP (b p : Nat) : HP := pts b (.cells [Value.pointer (some ⟨p, 0, none⟩)].toArray 43 (0, 0))
abbrev boxI (b : Nat) (n : Int) : HP := pts b (.cells [Value.int .i64 n].toArray 28 (0, 0))
theorem Verify_spec {p m : Nat} {s : Ch} {v : Value} (ok : Ok s m) (hm : m ≤ 1000000000000) (hd : Dbt R) (h : sat E w (chI p s v R))
    (k : ∀ w', sat E w' (chI p s v R) → K (.int .i64 (verifyS s)) w') : Calls prog 21 #[.pointer (some ⟨p, 0, none⟩)] w (Ret K) := by
  have := ok.few; have := ok.top; have := ok.b0
  refine c21 ?_
  unfold B21
  refine box_sl h fun cb w h => ?_
  have h : sat E w (boxP cb p * chI p s v R) := h
  refine alloc_sl h fun tb w h => ?_
  have h : sat E w (boxI tb 0 * (boxP cb p * chI p s v R)) := h
  refine ld_in (b := cb) (v := .pointer (some ⟨p, 0, none⟩)) h rfl ?_
  simp only [↓o_eqPtr, Option.isNone_some, ↓cd_false]
  refine alloc_sl h fun lb w h => ?_
  have h : sat E w (pts lb (.cells z57.toArray 96 (0, 0)) * (boxI tb 0 * (boxP cb p * chI p s v R))) := h
  refine ld_in (b := cb) (v := .pointer (some ⟨p, 0, none⟩)) h rfl ?_
  refine c40 ?_
  unfold B40
  refine box_sl h fun xb w h => ?_
  have h : sat E w (boxP xb p * (pts lb (.cells z57.toArray 96 (0, 0)) * (boxI tb 0 * (boxP cb p * chI p s v R)))) := h
  refine pvv_of (v := .func (.func 53) #[] #[.pointer (some ⟨xb, 0, none⟩)]) (fun _ => rfl) ?_
  refine rng_body h Tryd.func53 (by kernel_rfl) (by kernel_rfl) fun rec D D1 w h hround => ?_
  refine Links_spec (E := E) (p := p) (v := v) (c0 := xb) ok (by omega)
    (fun i => pur (seen s i) * (pts D1 (rec .ready none) * (pts lb (.cells (lastP s i).toArray 96 (0, 0)) * (boxI tb 0 * (pts D (.deferred (some [])) * (boxP xb p * (boxP cb p * chI p s v R)))))))
    (pur (bad s) * (pts D1 (rec .done (some .ret)) * (boxI tb 15 * (pts D (.deferred (some [])) * (boxP xb p * (boxP cb p * chI p s v R))))))
    (sat_pur_star.2 ⟨fun j hj => by omega, h.perm (by ac_rfl)⟩) ?_ ?_ ?_ ?_ ?_ ?_ ?_
  · intro i w h
    exact ((sat_pur_star.1 h).2).has
  · intro i w h
    exact ((sat_pur_star.1 h).2).has
  · intro i
    exact Rds.under (H1 := pers (immS v s.l.length (evs s.l))) Rds.pers
  · intro i
    exact hd.up
  · clear h
    intro F i hi w K' h ht hf
    rw [star_left_comm] at h
    obtain ⟨hφ, h⟩ := sat_pur_star.1 h
    refine hround [.agg (pc s i).toArray] w K' rfl h.has ?_
    simp only [↓o_nil, ↓o_field, ↓o_add, ↓o_sub, ↓o_mul, ↓o_lss, ↓o_leq, ↓o_gtr, ↓o_geq, ↓o_not, ↓o_pick, ↓o_eqInt, ↓o_neInt, ↓o_eqBool, ↓o_neBool, ↓o_eqPtr, ↓o_nePtr, ↓o_eqPtr', ↓o_eqSl, ↓o_neSl, ↓o_eqStr, ↓o_neStr, ↓o_len, ↓o_lenS, ↓o_min, ↓o_max, ↓o_extract, ↓o_convInt, ↓cd_true, ↓cd_false, ↓gate_tt, ↓gate_ff, ↓gate_tf, ↓gate_ft, ↓gate_undef, ↓o_bind, ↓stay_v, ↓pop_cons, ↓fin_nil, Option.isNone_none, Option.isNone_some, Bool.not_true, Bool.not_false, Nat.zero_add, decide_true, decide_false, if_true, if_false, Bool.false_eq_true, ↓reduceIte]
    refine alloc_sl h fun pb w h => ?_
    have h : sat E w (pts pb (.cells z57.toArray 96 (0, 0)) * (F * (pts D1 (rec .ready none) * (pts lb (.cells (lastP s i).toArray 96 (0, 0)) * (boxI tb 0 * (pts D (.deferred (some [])) * (boxP xb p * (boxP cb p * chI p s v R)))))))) := h
    refine store_all (b := pb) h (xs := z57) (vs := pc s i) rfl (pc_length ok i) (pc_one s i) fun w h => ?_
    refine ⟨h.has, ?_⟩
    have h := (h.own D1).set (rec .busy none)
    refine dr_sl h fun w h _ => ?_
    try simp only [↓o_nil, ↓o_field, ↓o_add, ↓o_sub, ↓o_mul, ↓o_lss, ↓o_leq, ↓o_gtr, ↓o_geq, ↓o_not, ↓o_pick, ↓o_eqInt, ↓o_neInt, ↓o_eqBool, ↓o_neBool, ↓o_eqPtr, ↓o_nePtr, ↓o_eqPtr', ↓o_eqSl, ↓o_neSl, ↓o_eqStr, ↓o_neStr, ↓o_len, ↓o_lenS, ↓o_min, ↓o_max, ↓o_extract, ↓o_convInt, ↓cd_true, ↓cd_false, ↓gate_tt, ↓gate_ff, ↓gate_tf, ↓gate_ft, ↓gate_undef, ↓o_bind, ↓stay_v, ↓pop_cons, ↓fin_nil, Option.isNone_none, Option.isNone_some, Bool.not_true, Bool.not_false, Nat.zero_add, decide_true, decide_false, if_true, if_false, Bool.false_eq_true, ↓reduceIte]
    refine ld_in (b := pb) (v := .int .i64 (s.bn + i)) h rfl ?_
    refine ld_in (b := cb) (v := .pointer (some ⟨p, 0, none⟩)) h rfl ?_
    try simp only [↓o_nil, ↓o_field, ↓o_add, ↓o_sub, ↓o_mul, ↓o_lss, ↓o_leq, ↓o_gtr, ↓o_geq, ↓o_not, ↓o_pick, ↓o_eqInt, ↓o_neInt, ↓o_eqBool, ↓o_neBool, ↓o_eqPtr, ↓o_nePtr, ↓o_eqPtr', ↓o_eqSl, ↓o_neSl, ↓o_eqStr, ↓o_neStr, ↓o_len, ↓o_lenS, ↓o_min, ↓o_max, ↓o_extract, ↓o_convInt, ↓cd_true, ↓cd_false, ↓gate_tt, ↓gate_ff, ↓gate_tf, ↓gate_ft, ↓gate_undef, ↓o_bind, ↓stay_v, ↓pop_cons, ↓fin_nil, Option.isNone_none, Option.isNone_some, Bool.not_true, Bool.not_false, Nat.zero_add, decide_true, decide_false, if_true, if_false, Bool.false_eq_true, ↓reduceIte]
    refine ld_in (b := p) (v := .int .i64 s.an) h (ic_an ok) ?_
    rw [o_eqInt]
    have norm : ∀ w : World, sat E w (pts D1 (rec .busy none) * (pts pb (.cells (pc s i).toArray 96 (0, 0)) * (F * (pts lb (.cells (lastP s i).toArray 96 (0, 0)) * (boxI tb 0 * (pts D (.deferred (some [])) * (boxP xb p * (boxP cb p * chI p s v R)))))))) → seen s (i + 1) →
        ldv prog (Instr.loadAt 96 (.pointer (some ⟨pb, 0, none⟩))) w fun t_36 w => efu prog (Instr.storeAt 96 (.pointer (some ⟨lb, 0, none⟩)) t_36) w fun u_37 w => w.heap[D1]? = some (rec .busy none) ∧ K' (.bool true) (w.putObj D1 (rec .ready none)) := by
      intro w h hs
      refine ld_agg (b := pb) h (pc_length ok i) ?_
      refine store_all (b := lb) h (xs := lastP s i) (vs := pc s i) (lastP_length ok i) (pc_length ok i) (pc_one s i) fun w h => ?_
      refine ⟨h.has, ht _ ?_⟩
      have h := (h.own D1).set (rec .ready none)
      have h := h.lose pb
      rw [star_left_comm]
      exact sat_pur_star.2 ⟨hs, h.perm (by simp only [lastP]; ac_rfl)⟩
    by_cases hq : s.bn + (i : Int) = s.an
    · rw [decide_eq_true hq]
      simp only [↓o_nil, ↓o_field, ↓o_add, ↓o_sub, ↓o_mul, ↓o_lss, ↓o_leq, ↓o_gtr, ↓o_geq, ↓o_not, ↓o_pick, ↓o_eqInt, ↓o_neInt, ↓o_eqBool, ↓o_neBool, ↓o_eqPtr, ↓o_nePtr, ↓o_eqPtr', ↓o_eqSl, ↓o_neSl, ↓o_eqStr, ↓o_neStr, ↓o_len, ↓o_lenS, ↓o_min, ↓o_max, ↓o_extract, ↓o_convInt, ↓cd_true, ↓cd_false, ↓gate_tt, ↓gate_ff, ↓gate_tf, ↓gate_ft, ↓gate_undef, ↓o_bind, ↓stay_v, ↓pop_cons, ↓fin_nil, Option.isNone_none, Option.isNone_some, Bool.not_true, Bool.not_false, Nat.zero_add, decide_true, decide_false, if_true, if_false, Bool.false_eq_true, ↓reduceIte]
      refine ld_agg (b := pb) h (pc_length ok i) ?_
      refine ld_in (b := cb) (v := .pointer (some ⟨p, 0, none⟩)) h rfl ?_
      try simp only [↓o_nil, ↓o_field, ↓o_add, ↓o_sub, ↓o_mul, ↓o_lss, ↓o_leq, ↓o_gtr, ↓o_geq, ↓o_not, ↓o_pick, ↓o_eqInt, ↓o_neInt, ↓o_eqBool, ↓o_neBool, ↓o_eqPtr, ↓o_nePtr, ↓o_eqPtr', ↓o_eqSl, ↓o_neSl, ↓o_eqStr, ↓o_neStr, ↓o_len, ↓o_lenS, ↓o_min, ↓o_max, ↓o_extract, ↓o_convInt, ↓cd_true, ↓cd_false, ↓gate_tt, ↓gate_ff, ↓gate_tf, ↓gate_ft, ↓gate_undef, ↓o_bind, ↓stay_v, ↓pop_cons, ↓fin_nil, Option.isNone_none, Option.isNone_some, Bool.not_true, Bool.not_false, Nat.zero_add, decide_true, decide_false, if_true, if_false, Bool.false_eq_true, ↓reduceIte]
      refine ld_part (b := p) h (.int .i64 s.an :: s.ah.map bv) (by simp [ok.a]) (ic_anchor ok) ?_
      have e1 : ∀ (xo yo : Operand) (K : Value → World → Prop), pvv prog (oEq .neq 96 xo yo (.agg (pc s i).toArray) (.agg (.int .i64 s.an :: s.ah.map bv).toArray)) w K = K (.bool !(decide (s.bn + (i : Int) = s.an) && (links s.bh (s.l.take i) == s.ah))) w := fun xo yo K => neq_pc (links_length _ ok.b) ok.a
      rw [e1]
      by_cases hr : links s.bh (s.l.take i) = s.ah
      · rw [show (!(decide (s.bn + (i : Int) = s.an) && (links s.bh (s.l.take i) == s.ah))) = false by simp [hq, hr]]
        simp only [↓o_nil, ↓o_field, ↓o_add, ↓o_sub, ↓o_mul, ↓o_lss, ↓o_leq, ↓o_gtr, ↓o_geq, ↓o_not, ↓o_pick, ↓o_eqInt, ↓o_neInt, ↓o_eqBool, ↓o_neBool, ↓o_eqPtr, ↓o_nePtr, ↓o_eqPtr', ↓o_eqSl, ↓o_neSl, ↓o_eqStr, ↓o_neStr, ↓o_len, ↓o_lenS, ↓o_min, ↓o_max, ↓o_extract, ↓o_convInt, ↓cd_true, ↓cd_false, ↓gate_tt, ↓gate_ff, ↓gate_tf, ↓gate_ft, ↓gate_undef, ↓o_bind, ↓stay_v, ↓pop_cons, ↓fin_nil, Option.isNone_none, Option.isNone_some, Bool.not_true, Bool.not_false, Nat.zero_add, decide_true, decide_false, if_true, if_false, Bool.false_eq_true, ↓reduceIte]
        exact norm w (h.perm (by ac_rfl)) fun j hj => by
          rintro ⟨h1, h2⟩
          by_cases hji : j = i
          · subst hji; exact h2 hr
          · exact hφ j (by omega) ⟨h1, h2⟩
      · rw [show (!(decide (s.bn + (i : Int) = s.an) && (links s.bh (s.l.take i) == s.ah))) = true by simp [hr]]
        simp only [↓o_nil, ↓o_field, ↓o_add, ↓o_sub, ↓o_mul, ↓o_lss, ↓o_leq, ↓o_gtr, ↓o_geq, ↓o_not, ↓o_pick, ↓o_eqInt, ↓o_neInt, ↓o_eqBool, ↓o_neBool, ↓o_eqPtr, ↓o_nePtr, ↓o_eqPtr', ↓o_eqSl, ↓o_neSl, ↓o_eqStr, ↓o_neStr, ↓o_len, ↓o_lenS, ↓o_min, ↓o_max, ↓o_extract, ↓o_convInt, ↓cd_true, ↓cd_false, ↓gate_tt, ↓gate_ff, ↓gate_tf, ↓gate_ft, ↓gate_undef, ↓o_bind, ↓stay_v, ↓pop_cons, ↓fin_nil, Option.isNone_none, Option.isNone_some, Bool.not_true, Bool.not_false, Nat.zero_add, decide_true, decide_false, if_true, if_false, Bool.false_eq_true, ↓reduceIte]
        refine store_sl (b := tb) h rfl (by simp) fun w h => ?_
        have h : sat E w (boxI tb 15 * _) := h
        refine ⟨h.has, hf _ ?_⟩
        have h := (h.own D1).set (rec .done (some .ret))
        have h := (h.lose pb).lose lb
        rw [star_left_comm]
        refine sat_pur_star.2 ⟨⟨by omega, by rw [show (s.an - s.bn).toNat = i by omega]; exact hr⟩, ?_⟩
        have h : sat E _ (pts D1 (rec .done (some .ret)) * _) := h
        exact h.perm (by ac_rfl)
    · rw [decide_eq_false hq]
      simp only [↓o_nil, ↓o_field, ↓o_add, ↓o_sub, ↓o_mul, ↓o_lss, ↓o_leq, ↓o_gtr, ↓o_geq, ↓o_not, ↓o_pick, ↓o_eqInt, ↓o_neInt, ↓o_eqBool, ↓o_neBool, ↓o_eqPtr, ↓o_nePtr, ↓o_eqPtr', ↓o_eqSl, ↓o_neSl, ↓o_eqStr, ↓o_neStr, ↓o_len, ↓o_lenS, ↓o_min, ↓o_max, ↓o_extract, ↓o_convInt, ↓cd_true, ↓cd_false, ↓gate_tt, ↓gate_ff, ↓gate_tf, ↓gate_ft, ↓gate_undef, ↓o_bind, ↓stay_v, ↓pop_cons, ↓fin_nil, Option.isNone_none, Option.isNone_some, Bool.not_true, Bool.not_false, Nat.zero_add, decide_true, decide_false, if_true, if_false, Bool.false_eq_true, ↓reduceIte]
      exact norm w (h.perm (by ac_rfl)) fun j hj => by
        rintro ⟨h1, h2⟩
        by_cases hji : j = i
        · subst hji; exact hq h1
        · exact hφ j (by omega) ⟨h1, h2⟩
  · intro w h
    obtain ⟨hφ, h⟩ := sat_pur_star.1 h
    have hnb := seen_all ok hφ
    refine ⟨.ready, none, h.has, by simp, ?_⟩
    have h := (h.own D1).set (rec .exhausted none)
    simp only [jump]
    refine dr_sl h fun w h _ => ?_
    try simp only [↓o_nil, ↓o_field, ↓o_add, ↓o_sub, ↓o_mul, ↓o_lss, ↓o_leq, ↓o_gtr, ↓o_geq, ↓o_not, ↓o_pick, ↓o_eqInt, ↓o_neInt, ↓o_eqBool, ↓o_neBool, ↓o_eqPtr, ↓o_nePtr, ↓o_eqPtr', ↓o_eqSl, ↓o_neSl, ↓o_eqStr, ↓o_neStr, ↓o_len, ↓o_lenS, ↓o_min, ↓o_max, ↓o_extract, ↓o_convInt, ↓cd_true, ↓cd_false, ↓gate_tt, ↓gate_ff, ↓gate_tf, ↓gate_ft, ↓gate_undef, ↓o_bind, ↓stay_v, ↓pop_cons, ↓fin_nil, Option.isNone_none, Option.isNone_some, Bool.not_true, Bool.not_false, Nat.zero_add, decide_true, decide_false, if_true, if_false, Bool.false_eq_true, ↓reduceIte]
    refine ld_part (b := lb) h ((links s.bh (s.l.take s.l.length)).map bv) (by simp [links_length _ ok.b]) (pc_hash ok s.l.length) ?_
    refine ld_in (b := cb) (v := .pointer (some ⟨p, 0, none⟩)) h rfl ?_
    try simp only [↓o_nil, ↓o_field, ↓o_add, ↓o_sub, ↓o_mul, ↓o_lss, ↓o_leq, ↓o_gtr, ↓o_geq, ↓o_not, ↓o_pick, ↓o_eqInt, ↓o_neInt, ↓o_eqBool, ↓o_neBool, ↓o_eqPtr, ↓o_nePtr, ↓o_eqPtr', ↓o_eqSl, ↓o_neSl, ↓o_eqStr, ↓o_neStr, ↓o_len, ↓o_lenS, ↓o_min, ↓o_max, ↓o_extract, ↓o_convInt, ↓cd_true, ↓cd_false, ↓gate_tt, ↓gate_ff, ↓gate_tf, ↓gate_ft, ↓gate_undef, ↓o_bind, ↓stay_v, ↓pop_cons, ↓fin_nil, Option.isNone_none, Option.isNone_some, Bool.not_true, Bool.not_false, Nat.zero_add, decide_true, decide_false, if_true, if_false, Bool.false_eq_true, ↓reduceIte]
    refine ld_part (b := p) h (s.hd.map bv) (by simp [ok.h]) (ic_hd ok) ?_
    rw [neq36 (links_length _ ok.b) ok.h, List.take_length]
    by_cases hr : links s.bh s.l = s.hd
    · have e : verifyS s = 0 := by unfold verifyS; rw [if_neg (by rintro (h | h); exact hnb h; exact h hr)]
      rw [e] at k
      rw [show (!(links s.bh s.l == s.hd)) = false by simp [hr]]
      simp only [↓o_nil, ↓o_field, ↓o_add, ↓o_sub, ↓o_mul, ↓o_lss, ↓o_leq, ↓o_gtr, ↓o_geq, ↓o_not, ↓o_pick, ↓o_eqInt, ↓o_neInt, ↓o_eqBool, ↓o_neBool, ↓o_eqPtr, ↓o_nePtr, ↓o_eqPtr', ↓o_eqSl, ↓o_neSl, ↓o_eqStr, ↓o_neStr, ↓o_len, ↓o_lenS, ↓o_min, ↓o_max, ↓o_extract, ↓o_convInt, ↓cd_true, ↓cd_false, ↓gate_tt, ↓gate_ff, ↓gate_tf, ↓gate_ft, ↓gate_undef, ↓o_bind, ↓stay_v, ↓pop_cons, ↓fin_nil, Option.isNone_none, Option.isNone_some, Bool.not_true, Bool.not_false, Nat.zero_add, decide_true, decide_false, if_true, if_false, Bool.false_eq_true, ↓reduceIte]
      refine store_sl (b := tb) h rfl (by simp) fun w h => ?_
      refine ⟨h.has, ?_⟩
      have h := (h.own D).set (.deferred none)
      refine res_one (b := tb) h (v := .int .i64 0) rfl (k _ ?_)
      have h := (((((h.lose D).lose tb).lose D1).lose lb).lose xb).lose cb
      exact h.perm (by ac_rfl)
    · have e : verifyS s = 15 := by unfold verifyS; rw [if_pos (.inr hr)]
      rw [e] at k
      rw [show (!(links s.bh s.l == s.hd)) = true by simp [hr]]
      simp only [↓o_nil, ↓o_field, ↓o_add, ↓o_sub, ↓o_mul, ↓o_lss, ↓o_leq, ↓o_gtr, ↓o_geq, ↓o_not, ↓o_pick, ↓o_eqInt, ↓o_neInt, ↓o_eqBool, ↓o_neBool, ↓o_eqPtr, ↓o_nePtr, ↓o_eqPtr', ↓o_eqSl, ↓o_neSl, ↓o_eqStr, ↓o_neStr, ↓o_len, ↓o_lenS, ↓o_min, ↓o_max, ↓o_extract, ↓o_convInt, ↓cd_true, ↓cd_false, ↓gate_tt, ↓gate_ff, ↓gate_tf, ↓gate_ft, ↓gate_undef, ↓o_bind, ↓stay_v, ↓pop_cons, ↓fin_nil, Option.isNone_none, Option.isNone_some, Bool.not_true, Bool.not_false, Nat.zero_add, decide_true, decide_false, if_true, if_false, Bool.false_eq_true, ↓reduceIte]
      refine store_sl (b := tb) h rfl (by simp) fun w h => ?_
      refine ⟨h.has, ?_⟩
      have h := (h.own D).set (.deferred none)
      refine res_one (b := tb) h (v := .int .i64 15) rfl (k _ ?_)
      have h := (((((h.lose D).lose tb).lose D1).lose lb).lose xb).lose cb
      exact h.perm (by ac_rfl)
  · intro w h
    obtain ⟨hb, h⟩ := sat_pur_star.1 h
    have e : verifyS s = 15 := by unfold verifyS; rw [if_pos (.inl hb)]
    rw [e] at k
    refine ⟨.done, some .ret, h.has, by simp, ?_⟩
    have h := (h.own D1).set (rec .exhausted (some .ret))
    simp only [jump]
    refine ⟨h.has, ?_⟩
    have h := (h.own D).set (.deferred none)
    refine res_one (b := tb) h (v := .int .i64 15) rfl (k _ ?_)
    have h := ((((h.lose D).lose tb).lose D1).lose xb).lose cb
    exact h.perm (by ac_rfl)
end Go.Proofs.YtmnaalpjhkkglaaDoor

/-
  Letting events go.
-/
set_option linter.all false
set_option maxRecDepth 10000
namespace Go.Proofs.YtmnaalpjhkkglaaDoor
open Go Hold
variable {E : World0} {w : World} {H R : HP} {K : Value → World → Prop}
def pruneS (s : Ch) (n : Int) : Ch × Int × Int :=
  if s.an < n ∨ n < s.bn then (s, 0, 2)
  else ({ s with bn := n, bh := links s.bh (s.l.take (n - s.bn).toNat), l := s.l.drop (n - s.bn).toNat }, n - s.bn, 0)
theorem ok_prune {s : Ch} {m : Nat} {n : Int} (ok : Ok s m) : Ok (pruneS s n).1 m := by
  unfold pruneS
  split
  · exact ok
  · have := ok.le; have := ok.top; have := ok.b0; have := ok.few
    exact ⟨links_length _ ok.b, ok.a, ok.h, by simp only; omega, ok.a0, by simp only [List.length_drop]; omega, by simp only [List.length_drop]; omega, by simp only [List.length_drop]; omega⟩
abbrev boxN (b : Nat) (n : Int) : HP := pts b (.cells [Value.int .i64 n].toArray 3 (0, 0))
theorem Verify_nil (h : sat E w H) (k : ∀ w', sat E w' H → K (.int .i64 1) w') : Calls prog 21 #[.pointer none] w (Ret K) := by
  refine c21 ?_
  unfold B21
  refine box_sl h fun cb w h => ?_
  have h : sat E w (pts cb (.cells [Value.pointer none].toArray 43 (0, 0)) * H) := h
  refine alloc_sl h fun tb w h => ?_
  have h : sat E w (boxI tb 0 * (pts cb (.cells [Value.pointer none].toArray 43 (0, 0)) * H)) := h
  refine ld_in (b := cb) (v := .pointer none) h rfl ?_
  simp only [↓o_eqPtr, Option.isNone_none, ↓cd_true]
  refine store_sl (b := tb) h rfl (by simp) fun w h => ?_
  exact res_one (b := tb) h (v := .int .i64 1) rfl (k _ h.drop.drop)
/-- What follows the search. -/
theorem prune_end {p m cb D kk : Nat} {s : Ch} {v : Value} (ok : Ok s m) (hk : kk ≤ s.l.length)
    (h : sat E w (pts D (.deferred (some [])) * (boxP cb p * chI p s v R)))
    (k : ∀ v' w', sat E w' (chI p { s with l := s.l.drop kk } v' R) → K (.tuple #[.int .i64 kk, .int .i64 0]) w') :
    dr w fun w =>
    bindS (vN (Instr.loadAt 43 (.pointer (some ⟨cb, 0, none⟩)))) fun m_54 => ldv prog (Instr.loadAt 43 (.pointer (some ⟨cb, 0, none⟩))) w fun t_53 w =>
    bindS (vN (Instr.loadAt 43 (.pointer (some ⟨cb, 0, none⟩)))) fun m_56 => ldv prog (Instr.loadAt 43 (.pointer (some ⟨cb, 0, none⟩))) w fun t_55 w =>
    pv prog (oNil t_55) w fun t_57 w =>
    pvv prog (Instr.fieldAt 98 t_57 4) w fun t_58 w =>
    bindS (vN (Instr.loadAt 65 t_58)) fun m_60 => ldv prog (Instr.loadAt 65 t_58) w fun t_59 w =>
    pvv prog (Instr.sliceAt 65 t_59 (some (.int .i64 (kk : Int))) none none) w fun t_61 w =>
    Calls prog 41 #[t_61] w (Ret fun t_62 w => stay prog none m_60 t_59 w <| stay prog none m_56 t_55 w <| stay prog none m_54 t_53 w <|
    pv prog (oNil t_53) w fun t_63 w =>
    pvv prog (Instr.fieldAt 98 t_63 4) w fun t_64 w =>
    efu prog (Instr.storeAt 65 t_64 t_62) w fun u_65 w =>
    und [D] w fun w => K (.tuple #[.int .i64 (kk : Int), (.int .i64 0)]) w) := by
  have := ok.few
  obtain ⟨a, c, rfl, hc, hv, ha⟩ := (Rds.evs (s := s)).shape h.drop.drop
  refine dr_sl h fun w h _ => ?_
  try simp only [↓o_nil, ↓o_field, ↓o_add, ↓o_sub, ↓o_mul, ↓o_lss, ↓o_leq, ↓o_gtr, ↓o_geq, ↓o_not, ↓o_pick, ↓o_eqInt, ↓o_neInt, ↓o_eqBool, ↓o_neBool, ↓o_eqPtr, ↓o_nePtr, ↓o_eqPtr', ↓o_eqSl, ↓o_neSl, ↓o_eqStr, ↓o_neStr, ↓o_len, ↓o_lenS, ↓o_min, ↓o_max, ↓o_extract, ↓o_convInt, ↓cd_true, ↓cd_false, ↓gate_tt, ↓gate_ff, ↓gate_tf, ↓gate_ft, ↓gate_undef, ↓o_bind, ↓stay_v, ↓pop_cons, ↓fin_nil, Option.isNone_none, Option.isNone_some, Bool.not_true, Bool.not_false, Nat.zero_add, decide_true, decide_false, if_true, if_false, Bool.false_eq_true, ↓reduceIte]
  refine ld_in (b := cb) (v := .pointer (some ⟨p, 0, none⟩)) h rfl ?_
  refine ld_in (b := cb) (v := .pointer (some ⟨p, 0, none⟩)) h rfl ?_
  try simp only [↓o_nil, ↓o_field, ↓o_add, ↓o_sub, ↓o_mul, ↓o_lss, ↓o_leq, ↓o_gtr, ↓o_geq, ↓o_not, ↓o_pick, ↓o_eqInt, ↓o_neInt, ↓o_eqBool, ↓o_neBool, ↓o_eqPtr, ↓o_nePtr, ↓o_eqPtr', ↓o_eqSl, ↓o_neSl, ↓o_eqStr, ↓o_neStr, ↓o_len, ↓o_lenS, ↓o_min, ↓o_max, ↓o_extract, ↓o_convInt, ↓cd_true, ↓cd_false, ↓gate_tt, ↓gate_ff, ↓gate_tf, ↓gate_ft, ↓gate_undef, ↓o_bind, ↓stay_v, ↓pop_cons, ↓fin_nil, Option.isNone_none, Option.isNone_some, Bool.not_true, Bool.not_false, Nat.zero_add, decide_true, decide_false, if_true, if_false, Bool.false_eq_true, ↓reduceIte]
  refine ld_in (b := p) (v := .slice a s.l.length c) h (ic_l ok) ?_
  rw [o_slice_l (by omega) (by omega)]
  simp only [Int.toNat_natCast]
  have hcut : Rds (pts D (.deferred (some [])) * (boxP cb p * chI p s (.slice a s.l.length c) R)) (.slice (cutA a c kk 4) (s.l.length - kk) (c - kk)) (s.l.length - kk) (evs (s.l.drop kk)) := by
    intro E w hs
    obtain ⟨a', c', e', hc', hw'⟩ := hv E w hs.drop.drop
    cases e'
    refine ⟨_, _, rfl, by omega, ?_⟩
    rw [← evs_drop]
    exact win_cut hw' fun hcn => by rw [evs_length]; omega
  refine CloneE_spec h (by rw [evs_length, List.length_drop]) (evs_one _) hcut (by omega) fun v' w h => ?_
  try simp only [↓o_nil, ↓o_field, ↓o_add, ↓o_sub, ↓o_mul, ↓o_lss, ↓o_leq, ↓o_gtr, ↓o_geq, ↓o_not, ↓o_pick, ↓o_eqInt, ↓o_neInt, ↓o_eqBool, ↓o_neBool, ↓o_eqPtr, ↓o_nePtr, ↓o_eqPtr', ↓o_eqSl, ↓o_neSl, ↓o_eqStr, ↓o_neStr, ↓o_len, ↓o_lenS, ↓o_min, ↓o_max, ↓o_extract, ↓o_convInt, ↓cd_true, ↓cd_false, ↓gate_tt, ↓gate_ff, ↓gate_tf, ↓gate_ft, ↓gate_undef, ↓o_bind, ↓stay_v, ↓pop_cons, ↓fin_nil, Option.isNone_none, Option.isNone_some, Bool.not_true, Bool.not_false, Nat.zero_add, decide_true, decide_false, if_true, if_false, Bool.false_eq_true, ↓reduceIte]
  refine st_in (b := p) (v := .slice a s.l.length c) h (ic_l ok) ?_
  refine st_in (b := cb) (v := .pointer (some ⟨p, 0, none⟩)) h rfl ?_
  refine st_in (b := cb) (v := .pointer (some ⟨p, 0, none⟩)) h rfl ?_
  try simp only [↓o_nil, ↓o_field, ↓o_add, ↓o_sub, ↓o_mul, ↓o_lss, ↓o_leq, ↓o_gtr, ↓o_geq, ↓o_not, ↓o_pick, ↓o_eqInt, ↓o_neInt, ↓o_eqBool, ↓o_neBool, ↓o_eqPtr, ↓o_nePtr, ↓o_eqPtr', ↓o_eqSl, ↓o_neSl, ↓o_eqStr, ↓o_neStr, ↓o_len, ↓o_lenS, ↓o_min, ↓o_max, ↓o_extract, ↓o_convInt, ↓cd_true, ↓cd_false, ↓gate_tt, ↓gate_ff, ↓gate_tf, ↓gate_ft, ↓gate_undef, ↓o_bind, ↓stay_v, ↓pop_cons, ↓fin_nil, Option.isNone_none, Option.isNone_some, Bool.not_true, Bool.not_false, Nat.zero_add, decide_true, decide_false, if_true, if_false, Bool.false_eq_true, ↓reduceIte]
  have hone : v'.oneCell' = true := by
    obtain ⟨_, _, rfl, _⟩ := osl_shape h
    rfl
  refine store_sl (b := p) h hone (by rw [ic_length ok]; omega) fun w h => ?_
  rw [ip_l ok (l := s.l.drop kk)] at h
  refine ⟨h.has, ?_⟩
  have h := (h.own D).set (.deferred none)
  refine k v' _ ?_
  have h := (h.lose D).lose cb
  have h := h.perm (show _ = osl 56 4 v' (s.l.length - kk) (evs (s.l.drop kk)) * (pers (immS (.slice a s.l.length c) s.l.length (evs s.l)) * (pts p (.cells (icells { s with l := s.l.drop kk } v').toArray 98 (0, 0)) * R)) by ac_rfl)
  have h := osl_freeze h
  have h := h.perm (show _ = pers (immS (.slice a s.l.length c) s.l.length (evs s.l)) * (pts p (.cells (icells { s with l := s.l.drop kk } v').toArray 98 (0, 0)) * (pers (immS v' (s.l.length - kk) (evs (s.l.drop kk))) * R)) by ac_rfl)
  have h := h.drop
  simpa [chI] using h
end Go.Proofs.YtmnaalpjhkkglaaDoor

/-
  What must be whatever is asked of a chain.
-/
set_option linter.all false
set_option maxRecDepth 10000
namespace Go.Proofs.YtmnaalpjhkkglaaDoor
open Go Hold
variable {E : World0} {w : World} {H R X : HP} {K : Value → World → Prop}
def lg : List UInt8 := [108, 111, 103, 105, 110]
def tu : List UInt8 := [116, 47, 117]
def tk : List UInt8 := [116, 105, 99, 107]
def x1 : Evt := ⟨1, 5, lg, tu⟩
def y1 : Evt := ⟨2, 6, tk, []⟩
def h1 : List UInt8 := nx zeros32 x1
def h2 : List UInt8 := nx h1 y1
theorem numT_small {n : Nat} (h : n < 16) (h0 : n ≠ 0) : numT (n : Int) = [98, dig n] := by
  unfold numT number
  rw [if_neg (by omega)]
  show numText (n : Int).toNat = _
  rw [Int.toNat_natCast]
  unfold numText
  rw [hexs_small h h0]; rfl
theorem row_x1 : rowE x1 = [4, 2, 98, 49, 2, 98, 53, 5, 108, 111, 103, 105, 110, 3, 116, 47, 117] := by
  unfold rowE colsE
  rw [show x1.n = ((1 : Nat) : Int) from rfl, show x1.t = ((5 : Nat) : Int) from rfl, numT_small (by decide) (by decide), numT_small (by decide) (by decide)]
  decide
theorem h1_ne : (h1 == zeros32) = false := by
  have e : sha (zeros32 ++ [4, 2, 98, 49, 2, 98, 53, 5, 108, 111, 103, 105, 110, 3, 116, 47, 117]) ≠ zeros32 := by decide +kernel
  have e2 : h1 = sha (zeros32 ++ [4, 2, 98, 49, 2, 98, 53, 5, 108, 111, 103, 105, 110, 3, 116, 47, 117]) := by unfold h1 nx; rw [row_x1]
  rw [e2]
  simpa using e
def q1 : Ch := ⟨0, zeros32, 0, zeros32, h1, 5, [x1]⟩
def q2 : Ch := ⟨0, zeros32, 1, h1, h1, 5, [x1]⟩
def q3 : Ch := ⟨1, h1, 1, h1, h1, 5, []⟩
def q4 : Ch := ⟨1, h1, 1, h1, h2, 6, [y1]⟩
theorem add1 : addS newS 5 lg tu = (q1, x1, 0) := rfl
theorem anc1 : anchorS q1 = q2 := rfl
theorem pru1 : pruneS q2 1 = (q3, 1, 0) := rfl
theorem add2 : addS q3 6 tk [] = (q4, y1, 0) := rfl
theorem ver1 : verifyS q4 = 0 := by
  unfold verifyS
  rw [if_neg]
  rintro (h | h)
  · exact h.2 rfl
  · exact h rfl
theorem chI_in {p : Nat} {s : Ch} {v : Value} (h : sat E w (X * chI p s v R)) : sat E w (chI p s v (X * R)) := by
  unfold chI at h ⊢
  exact h.perm (by ac_rfl)
theorem hash_in (h : sat E w H) {l : List UInt8} (hl : l.length = 32) {K : Value → World → Prop} (k : ∀ b w', sat E w' (pts b (.cells (l.map bv).toArray 23 (0, 0)) * H) → K (.pointer (some ⟨b, 0, none⟩)) w') :
    efv prog (Instr.alloc 23 true (.tuple #[])) w fun x w => efu prog (Instr.storeAt 23 x (.agg (l.map bv).toArray)) w fun _ w => K x w := hash_var h hl k
theorem evt_in (h : sat E w H) {x : Evt} {K : Value → World → Prop} (k : ∀ b w', sat E w' (pts b (.cells (ecells x).toArray 56 (0, 0)) * H) → K (.pointer (some ⟨b, 0, none⟩)) w') :
    efv prog (Instr.alloc 56 true (.tuple #[])) w fun x' w => efu prog (Instr.storeAt 56 x' (ev x)) w fun _ w => K x' w := by
  refine alloc_sl h fun b w h => ?_
  have h : sat E w (pts b (.cells (ecells zeroE).toArray 56 (0, 0)) * H) := h
  exact store_all (b := b) h (xs := ecells zeroE) (vs := ecells x) rfl rfl (ecells_one x) fun w h => k b w h
end Go.Proofs.YtmnaalpjhkkglaaDoor

/-
  The reference's chain.
-/
set_option linter.all false
set_option maxRecDepth 10000
namespace Go.Proofs.YtmnaalpjhkkglaaDoor
open Go Hold
variable {E : World0} {w : World} {H R X : HP} {K : Value → World → Prop}
def rcells (s : Ch) (v : Value) : List Value := .int .i64 s.bn :: .int .i64 s.an :: .int .i64 s.last :: (s.bh.map bv ++ (s.ah.map bv ++ (s.hd.map bv ++ [v])))
section
variable {s : Ch} {v : Value} {m : Nat}
theorem rc_length (ok : Ok s m) : (rcells s v).length = 100 := by simp [rcells, ok.b, ok.a, ok.h]
theorem rc_l (ok : Ok s m) : (rcells s v)[99]? = some v := part_cell (.int .i64 s.bn :: .int .i64 s.an :: .int .i64 s.last :: (s.bh.map bv ++ (s.ah.map bv ++ s.hd.map bv))) [] (by simp [rcells]) (by simp [ok.b, ok.a, ok.h])
theorem rc_bh (ok : Ok s m) : ((rcells s v).drop 3).take 32 = s.bh.map bv := part_at [.int .i64 s.bn, .int .i64 s.an, .int .i64 s.last] _ (s.ah.map bv ++ (s.hd.map bv ++ [v])) (by simp [rcells]) rfl (by simp [ok.b])
theorem rc_ah (ok : Ok s m) : ((rcells s v).drop 35).take 32 = s.ah.map bv := part_at (.int .i64 s.bn :: .int .i64 s.an :: .int .i64 s.last :: s.bh.map bv) _ (s.hd.map bv ++ [v]) (by simp [rcells]) (by simp [ok.b]) (by simp [ok.a])
theorem rc_hd (ok : Ok s m) : ((rcells s v).drop 67).take 32 = s.hd.map bv := part_at (.int .i64 s.bn :: .int .i64 s.an :: .int .i64 s.last :: (s.bh.map bv ++ s.ah.map bv)) _ [v] (by simp [rcells]) (by simp [ok.b, ok.a]) (by simp [ok.h])
theorem rp_l (ok : Ok s m) {l : List Evt} {u : Value} : (rcells s v).set 99 u = rcells { s with l := l } u := part_set (.int .i64 s.bn :: .int .i64 s.an :: .int .i64 s.last :: (s.bh.map bv ++ (s.ah.map bv ++ s.hd.map bv))) [] (x := v) (by simp [rcells]) (by simp [ok.b, ok.a, ok.h]) (by simp [rcells])
theorem rp_hd (ok : Ok s m) {h : List UInt8} : (rcells s v).take 67 ++ h.map bv ++ (rcells s v).drop (67 + 32) = rcells { s with hd := h } v := part_put (.int .i64 s.bn :: .int .i64 s.an :: .int .i64 s.last :: (s.bh.map bv ++ s.ah.map bv)) (s.hd.map bv) [v] _ (by simp [rcells]) (by simp [ok.b, ok.a]) (by simp [ok.h]) (by simp [rcells])
theorem rp_ah (ok : Ok s m) {h : List UInt8} : (rcells s v).take 35 ++ h.map bv ++ (rcells s v).drop (35 + 32) = rcells { s with ah := h } v := part_put (.int .i64 s.bn :: .int .i64 s.an :: .int .i64 s.last :: s.bh.map bv) (s.ah.map bv) (s.hd.map bv ++ [v]) _ (by simp [rcells]) (by simp [ok.b]) (by simp [ok.a]) (by simp [rcells])
theorem rp_bh (ok : Ok s m) {h : List UInt8} : (rcells s v).take 3 ++ h.map bv ++ (rcells s v).drop (3 + 32) = rcells { s with bh := h } v := part_put [.int .i64 s.bn, .int .i64 s.an, .int .i64 s.last] (s.bh.map bv) (s.ah.map bv ++ (s.hd.map bv ++ [v])) _ (by simp [rcells]) rfl (by simp [ok.b]) (by simp [rcells])
end
end Go.Proofs.YtmnaalpjhkkglaaDoor

/-
  The reference's chain: adding, letting go; a deed on both.
-/
set_option linter.all false
set_option maxRecDepth 10000
namespace Go.Proofs.YtmnaalpjhkkglaaDoor
open Go Hold
variable {E : World0} {w : World} {H R X : HP} {K : Value → World → Prop}
end Go.Proofs.YtmnaalpjhkkglaaDoor

/-
  A deed on both chains; the deeds that are handed in.
-/
set_option linter.all false
set_option maxRecDepth 10000
namespace Go.Proofs.YtmnaalpjhkkglaaDoor
open Go Hold
variable {E : World0} {w : World} {H R X : HP} {K : Value → World → Prop}
structure Deed where
  kind : Int
  t : Int
  n : Int
  what : List UInt8
  who : List UInt8
def dcells (x : Deed) : List Value := [.int .i64 x.kind, .int .i64 x.t, .int .i64 x.n, tv x.what, tv x.who]
def doS (s : Ch) (x : Deed) : Ch :=
  if x.kind = 0 then (addS s x.t x.what x.who).1 else if x.kind = 1 then anchorS s else if x.kind = 2 then (pruneS s x.n).1 else s
theorem ok_do {s : Ch} {m : Nat} {x : Deed} (ok : Ok s m) : Ok (doS s x) (m + 1) := by
  have up : ∀ {s : Ch}, Ok s m → Ok s (m + 1) := fun ok => ⟨ok.b, ok.a, ok.h, ok.b0, ok.a0, ok.le, by have := ok.top; omega, ok.few⟩
  unfold doS
  split
  · exact ok_add ok
  · split
    · exact up (ok_anchor ok)
    · split
      · exact up (ok_prune ok)
      · exact up ok
end Go.Proofs.YtmnaalpjhkkglaaDoor

/-
  What holds of every chain that was made by these calls; two tests in a row.
-/
set_option linter.all false
set_option maxRecDepth 10000
namespace Go.Proofs.YtmnaalpjhkkglaaDoor
open Go Hold
variable {E : World0} {w : World} {H R X : HP} {K : Value → World → Prop}
theorem two_tests {a b c : Int} {k : Value → World → Prop} :
    (pvv prog (binOp .lss 3 (.int .i64 a) (.int .i64 b)) w fun t_7 w => gate (some (t_7, true)) (fun K => K (.int .i64 a) w) w fun t_8 w => gate (some (t_7, true)) (fun K => pvv prog (binOp .lss 3 t_8 (.int .i64 c)) w K) w fun t_9 w => pv prog (oPick t_7 t_9 (.bool false)) w fun t_10 w => k t_10 w) = k (.bool (decide (a < b ∧ a < c))) w := by
  rw [o_lss]
  by_cases h1 : a < b
  · by_cases h2 : a < c
    · simp only [h1, h2, and_self, ↓o_nil, ↓o_field, ↓o_add, ↓o_sub, ↓o_mul, ↓o_lss, ↓o_leq, ↓o_gtr, ↓o_geq, ↓o_not, ↓o_pick, ↓o_eqInt, ↓o_neInt, ↓o_eqBool, ↓o_neBool, ↓o_eqPtr, ↓o_nePtr, ↓o_eqPtr', ↓o_eqSl, ↓o_neSl, ↓o_eqStr, ↓o_neStr, ↓o_len, ↓o_lenS, ↓o_min, ↓o_max, ↓o_extract, ↓o_convInt, ↓cd_true, ↓cd_false, ↓gate_tt, ↓gate_ff, ↓gate_tf, ↓gate_ft, ↓gate_undef, ↓o_bind, ↓stay_v, ↓pop_cons, ↓fin_nil, Option.isNone_none, Option.isNone_some, Bool.not_true, Bool.not_false, Nat.zero_add, decide_true, decide_false, if_true, if_false, Bool.false_eq_true, ↓reduceIte]
    · simp only [h1, h2, and_false, ↓o_nil, ↓o_field, ↓o_add, ↓o_sub, ↓o_mul, ↓o_lss, ↓o_leq, ↓o_gtr, ↓o_geq, ↓o_not, ↓o_pick, ↓o_eqInt, ↓o_neInt, ↓o_eqBool, ↓o_neBool, ↓o_eqPtr, ↓o_nePtr, ↓o_eqPtr', ↓o_eqSl, ↓o_neSl, ↓o_eqStr, ↓o_neStr, ↓o_len, ↓o_lenS, ↓o_min, ↓o_max, ↓o_extract, ↓o_convInt, ↓cd_true, ↓cd_false, ↓gate_tt, ↓gate_ff, ↓gate_tf, ↓gate_ft, ↓gate_undef, ↓o_bind, ↓stay_v, ↓pop_cons, ↓fin_nil, Option.isNone_none, Option.isNone_some, Bool.not_true, Bool.not_false, Nat.zero_add, decide_true, decide_false, if_true, if_false, Bool.false_eq_true, ↓reduceIte]
  · simp only [h1, false_and, ↓o_nil, ↓o_field, ↓o_add, ↓o_sub, ↓o_mul, ↓o_lss, ↓o_leq, ↓o_gtr, ↓o_geq, ↓o_not, ↓o_pick, ↓o_eqInt, ↓o_neInt, ↓o_eqBool, ↓o_neBool, ↓o_eqPtr, ↓o_nePtr, ↓o_eqPtr', ↓o_eqSl, ↓o_neSl, ↓o_eqStr, ↓o_neStr, ↓o_len, ↓o_lenS, ↓o_min, ↓o_max, ↓o_extract, ↓o_convInt, ↓cd_true, ↓cd_false, ↓gate_tt, ↓gate_ff, ↓gate_tf, ↓gate_ft, ↓gate_undef, ↓o_bind, ↓stay_v, ↓pop_cons, ↓fin_nil, Option.isNone_none, Option.isNone_some, Bool.not_true, Bool.not_false, Nat.zero_add, decide_true, decide_false, if_true, if_false, Bool.false_eq_true, ↓reduceIte]
theorem st_no {P : Program} {s : Sem Value} {v : Value} {b want : Bool} {A : Prop} (h : b ≠ want) (k : A) : stv P (some (.bool b, want)) s v w A := ⟨fun hw => by simp [wantedG] at hw; exact absurd hw h, k⟩
theorem deeds_at {l : List Deed} {i : Nat} {x : Deed} (h : l[i]? = some x) : ((l.flatMap dcells).drop (i * 5)).take 5 = dcells x := fm_at (k := 5) (cells := dcells) (fun _ => rfl) h
structure Risen (s : Ch) : Prop where
  num : ∀ (i : Nat) (x : Evt), s.l[i]? = some x → x.n = s.bn + i + 1 ∧ x.t ≤ s.last
  up : ∀ (i : Nat) (x y : Evt), s.l[i]? = some x → s.l[i + 1]? = some y → x.t ≤ y.t
theorem inv_new : Risen newS := ⟨fun i x h => by simp [newS] at h, fun i x y h => by simp [newS] at h⟩
theorem inv_add {s : Ch} {t : Int} {a b : List UInt8} (h : Risen s) : Risen (addS s t a b).1 := by
  unfold addS
  split
  · exact h
  · split
    · exact h
    · split
      · exact h
      · rename_i ht
        split
        · exact h
        · refine ⟨fun i x hx => ?_, fun i x y hx hy => ?_⟩
          · simp only at hx ⊢
            by_cases hi : i < s.l.length
            · rw [List.getElem?_append_left hi] at hx
              obtain ⟨h1, h2⟩ := h.num i x hx
              exact ⟨h1, by omega⟩
            · rw [List.getElem?_append_right (by omega)] at hx
              have hlt := (List.getElem?_eq_some_iff.1 hx).1
              simp at hlt
              have hi2 : i = s.l.length := by omega
              subst hi2
              simp at hx
              subst hx
              exact ⟨rfl, Int.le_refl _⟩
          · simp only at hx hy
            have hlt := (List.getElem?_eq_some_iff.1 hy).1
            simp at hlt
            rw [List.getElem?_append_left (by omega)] at hx
            by_cases hi : i + 1 < s.l.length
            · rw [List.getElem?_append_left hi] at hy
              exact h.up i x y hx hy
            · have hi2 : i + 1 = s.l.length := by omega
              rw [List.getElem?_append_right (by omega), hi2] at hy
              simp at hy
              subst hy
              have := (h.num i x hx).2
              show x.t ≤ t
              omega
theorem inv_do {s : Ch} {x : Deed} (h : Risen s) : Risen (doS s x) := by
  unfold doS
  split
  · exact inv_add h
  · split
    · exact ⟨h.num, h.up⟩
    · split
      · unfold pruneS
        split
        · exact h
        · rename_i hn
          refine ⟨fun i y hy => ?_, fun i y z hy hz => ?_⟩
          · simp only [List.getElem?_drop] at hy
            obtain ⟨h1, h2⟩ := h.num _ y hy
            refine ⟨?_, h2⟩
            simp only
            omega
          · simp only [List.getElem?_drop] at hy hz
            exact h.up _ y z hy (by rw [← hz]; congr 1)
      · exact h
structure Right (s : Ch) : Prop where
  hd : links s.bh s.l = s.hd
  ah : s.bn ≤ s.an → links s.bh (s.l.take (s.an - s.bn).toNat) = s.ah
theorem Right.ok {s : Ch} (h : Right s) : verifyS s = 0 := by
  unfold verifyS
  rw [if_neg]
  rintro (⟨h1, h2⟩ | h2)
  · exact h2 (h.ah h1)
  · exact h2 h.hd
theorem right_new : Right newS := ⟨rfl, fun _ => rfl⟩
theorem links_append (h : List UInt8) (a b : List Evt) : links h (a ++ b) = links (links h a) b := by unfold links; rw [List.foldl_append]
theorem right_anchor {s : Ch} {m : Nat} (ok : Ok s m) (h : Right s) : Right (anchorS s) :=
  ⟨h.hd, fun _ => by
    show links s.bh (s.l.take (s.bn + s.l.length - s.bn).toNat) = s.hd
    rw [show (s.bn + (s.l.length : Int) - s.bn).toNat = s.l.length by omega, List.take_length]
    exact h.hd⟩
theorem right_prune {s : Ch} {m : Nat} {n : Int} (ok : Ok s m) (h : Right s) : Right (pruneS s n).1 := by
  unfold pruneS
  split
  · exact h
  · have := ok.le
    refine ⟨?_, fun hb => ?_⟩
    · show links (links s.bh (s.l.take (n - s.bn).toNat)) (s.l.drop (n - s.bn).toNat) = s.hd
      rw [← links_append, List.take_append_drop]
      exact h.hd
    · show links (links s.bh (s.l.take (n - s.bn).toNat)) ((s.l.drop (n - s.bn).toNat).take (s.an - n).toNat) = s.ah
      have e : s.l.take (n - s.bn).toNat ++ (s.l.drop (n - s.bn).toNat).take (s.an - n).toNat = s.l.take (s.an - s.bn).toNat := by
        rw [← List.take_add]
        congr 1
        omega
      rw [← links_append, e]
      exact h.ah (by omega)
theorem right_do {s : Ch} {m : Nat} {x : Deed} (ok : Ok s m) (h : Right s) : Right (doS s x) := by
  unfold doS
  split
  · unfold addS
    split
    · exact h
    · split
      · exact h
      · split
        · exact h
        · split
          · exact h
          · have := ok.le
            refine ⟨?_, fun hb => ?_⟩
            · show links s.bh (s.l ++ [_]) = nx s.hd _
              rw [links_append, h.hd]; rfl
            · show links s.bh ((s.l ++ [_]).take (s.an - s.bn).toNat) = s.ah
              rw [List.take_append_of_le_length (by omega)]
              exact h.ah hb
  · split
    · exact right_anchor ok h
    · split
      · exact right_prune ok h
      · exact h
theorem evs_cell {l : List Evt} {i f : Nat} {x : Evt} {v : Value} (h : l[i]? = some x) (hf : (ecells x)[f]? = some v) : (evs l)[i * 4 + f]? = some v := take_cell (evs_at h) hf
end Go.Proofs.YtmnaalpjhkkglaaDoor

/-
  strings.HasPrefix.
-/
set_option linter.all false
set_option maxRecDepth 100000
namespace Go.Proofs.YtmnaalpjhkkglaaDoor
open Go Hold
variable {E : World0} {w : World} {H R : HP} {K : Value → World → Prop}
end Go.Proofs.YtmnaalpjhkkglaaDoor

/-
  strconv.ParseUint on hexadecimal digits; codec.ToNumber.
-/
set_option linter.all false
set_option maxRecDepth 100000
namespace Go.Proofs.YtmnaalpjhkkglaaDoor
open Go Hold
variable {E : World0} {w : World} {H R : HP} {K : Value → World → Prop}
def hexSet : List UInt8 := [48, 49, 50, 51, 52, 53, 54, 55, 56, 57, 97, 98, 99, 100, 101, 102]
def hexv (c : UInt8) : Nat := if c.toNat ≤ 57 then c.toNat - 48 else c.toNat - 87
def hexVal (l : List UInt8) : Nat := l.foldl (fun n c => n * 16 + hexv c) 0
theorem hex_byte : ∀ n, n < 256 → UInt8.ofNat n ∈ hexSet → (48 ≤ n ∧ n ≤ 57) ∨ (97 ≤ n ∧ n ≤ 102) := by decide +kernel
theorem hex_mem {c : UInt8} (h : c ∈ hexSet) : (48 ≤ c.toNat ∧ c.toNat ≤ 57) ∨ (97 ≤ c.toNat ∧ c.toNat ≤ 102) := hex_byte c.toNat c.toNat_lt (by simpa using h)
theorem or32 : ∀ n, n < 256 → 97 ≤ n → n ≤ 102 → UInt8.ofNat n ||| 32 = UInt8.ofNat n := by decide +kernel
theorem or32c {c : UInt8} (h : 97 ≤ c.toNat ∧ c.toNat ≤ 102) : c ||| 32 = c := by
  have := or32 c.toNat c.toNat_lt h.1 h.2
  simpa using this
theorem hexv_lt {c : UInt8} (h : c ∈ hexSet) : hexv c < 16 := by
  unfold hexv
  rcases hex_mem h with h | h
  · rw [if_pos h.2]; omega
  · rw [if_neg (by omega)]; omega
theorem hexVal_snoc (l : List UInt8) (c : UInt8) : hexVal (l ++ [c]) = hexVal l * 16 + hexv c := by unfold hexVal; rw [List.foldl_append]; rfl
theorem foldl_lt : ∀ (l : List UInt8) (n : Nat), (∀ c ∈ l, c ∈ hexSet) → l.foldl (fun n c => n * 16 + hexv c) n < (n + 1) * 16 ^ l.length
  | [], n, _ => by simp
  | c :: l, n, h => by
    have ih := foldl_lt l (n * 16 + hexv c) fun d hd => h d (by simp [hd])
    have hc := hexv_lt (h c (by simp))
    refine Nat.lt_of_lt_of_le (by simpa using ih) ?_
    rw [List.length_cons, Nat.pow_succ, Nat.mul_comm (16 ^ l.length) 16, ← Nat.mul_assoc]
    exact Nat.mul_le_mul_right _ (by omega)
theorem hexVal_lt {l : List UInt8} (h : ∀ c ∈ l, c ∈ hexSet) : hexVal l < 16 ^ l.length := by
  have := foldl_lt l 0 h
  unfold hexVal
  simpa using this
theorem neNil {n : Nat} {K : Value → World → Prop} (k : K (.bool false) w) : pvv prog (oEq .neq 73 (.tmp n) (.const .nilIface) .nilIface .nilIface) w K := by
  refine pvv_of (v := .bool false) (fun w => ?_) k
  kernel_rfl
def toNum (l : List UInt8) : Int × Int :=
  if l = [] ∨ ((l.getD 0 0).toNat : Int) ≠ 97 + l.length - 1 ∨ 17 < l.length then (0, 3)
  else if [48] <+: l.drop 1 ∨ ¬ ∀ c ∈ l.drop 1, c ∈ hexSet then (0, 3)
  else if 4611686018427387904 < hexVal (l.drop 1) then (0, 2) else ((hexVal (l.drop 1) : Int), 0)
end Go.Proofs.YtmnaalpjhkkglaaDoor

/-
  Numbers as texts, read again. No program in sight.
-/
set_option linter.all false
set_option maxRecDepth 100000
namespace Go.Proofs.YtmnaalpjhkkglaaDoor
open Go Hold
theorem dig_val : ∀ d, d < 16 → hexv (dig d) = d ∧ dig d ∈ hexSet ∧ (dig d = 48 → d = 0) := by decide +kernel
theorem hexs_val (n : Nat) : hexVal (hexs n) = n := by
  induction n using Nat.strongRecOn with
  | _ n ih =>
    by_cases h : n = 0
    · subst h; rw [hexs_zero]; rfl
    · rw [hexs_pos h, hexVal_snoc, ih (n / 16) (by omega), (dig_val (n % 16) (by omega)).1]
      omega
theorem hexs_mem (n : Nat) : ∀ c ∈ hexs n, c ∈ hexSet := by
  induction n using Nat.strongRecOn with
  | _ n ih =>
    by_cases h : n = 0
    · subst h; rw [hexs_zero]; simp
    · rw [hexs_pos h]
      intro c hc
      rcases List.mem_append.1 hc with hc | hc
      · exact ih (n / 16) (by omega) c hc
      · rw [List.mem_singleton.1 hc]
        exact (dig_val (n % 16) (by omega)).2.1
theorem hexs_ne {n : Nat} (h : n ≠ 0) : hexs n ≠ [] := by rw [hexs_pos h]; simp
theorem hexs_head (n : Nat) : ¬ [48] <+: hexs n := by
  induction n using Nat.strongRecOn with
  | _ n ih =>
    by_cases h : n = 0
    · subst h; rw [hexs_zero]; simp
    · rw [hexs_pos h]
      by_cases h2 : n / 16 = 0
      · rw [h2, hexs_zero, List.nil_append]
        intro hp
        have h3 : (48 : UInt8) = dig (n % 16) := by simpa using hp
        have := (dig_val (n % 16) (by omega)).2.2 h3.symm
        omega
      · intro hp
        refine ih (n / 16) (by omega) ?_
        have hne := hexs_ne h2
        generalize hexs (n / 16) = a at hp hne
        cases a with
        | nil => exact absurd rfl hne
        | cons x a =>
          rw [List.cons_append] at hp
          have : (48 : UInt8) = x := by simpa using hp
          subst this
          simp
theorem toNum_text {n : Nat} (hn : n ≤ 4611686018427387904) : toNum (numText n) = ((n : Int), 0) := by
  have hl : (hexs n).length ≤ 16 := hexs_length 16 n (by show n < 16 ^ 16; omega)
  unfold toNum numText
  have e : (UInt8.ofNat (97 + (hexs n).length)).toNat = 97 + (hexs n).length := by
    rw [UInt8.toNat_ofNat']
    omega
  rw [if_neg, List.drop_succ_cons, List.drop_zero, if_neg, if_neg, hexs_val]
  · rw [hexs_val]; omega
  · rintro (h | h)
    · exact hexs_head n h
    · exact h (hexs_mem n)
  · rintro (h | h | h)
    · cases h
    · rw [List.getD_cons_zero, e, List.length_cons] at h
      omega
    · rw [List.length_cons] at h
      omega
end Go.Proofs.YtmnaalpjhkkglaaDoor
