/-
  Arguments, opened: numbers of other kinds, truths, slices of them.
-/
import Derived.Test.YtbcimkjgpplcpaaGreatDoorElems
import Derived.Test.YtbcimkjgpplcpaaGreatDoorSortK
set_option linter.all false
namespace Hold
open Go Go.ChangeShapes Go.WideShapes Go.RowKit Go.Deep
variable {P : Program} {W : World} {H : Type} {enc : TypeId × Value → H} {r : Reach} {b0 : Nat} {v : Value} {d : DataW H} {p : List MemPlace}
theorem fm_one {α : Type} (f : α → Value) : ∀ l : List α, (l.flatMap fun x => [f x]) = l.map f
  | [] => rfl
  | x :: l => by rw [List.flatMap_cons, fm_one f l]; rfl
theorem u16_wf {n : Int} (h : (Lit.int .u16 n).wf = true) : ∃ b : Fin 65536, n = (b.val : Int) := by
  have hw : 0 ≤ n ∧ n ≤ 65535 := by
    have := h
    simp only [Lit.wf, Bool.and_eq_true, decide_eq_true_eq] at this
    exact this
  exact ⟨⟨n.toNat, by omega⟩, by simp; omega⟩
theorem open_u16 {t : TypeId} (ht : P.underlying t = some (.int .u16)) (hv : Value.okWide P W r b0 t v) (h : DataW.Trod enc P W 0 (fun _ => true) true t v d p) : ∃ b : Fin 65536, v = .int .u16 (b.val : Int) := by
  obtain ⟨n, rfl, _, _, hw⟩ := open_int ht hv h
  obtain ⟨b, rfl⟩ := u16_wf hw
  exact ⟨b, rfl⟩
theorem open_u16s {t e : TypeId} (ht : P.underlying t = some (.slice e)) (he : P.underlying e = some (.int .u16)) (hc : P.cellsOf e = 1)
    (hv : Value.okWide P W r b0 t v) (h : DataW.Trod enc P W 0 (fun _ => true) true t v d p) : ∃ l : List (Fin 65536), Rds (old W) v l.length (l.map fun b => .int .u16 (b.val : Int)) ∧ l.length ≤ 9223372036854775807 := by
  obtain ⟨l, h1, h2⟩ := open_elems (cells := fun b : Fin 65536 => [Value.int .u16 (b.val : Int)]) (k := 1) ht hc (by omega) (fun _ => rfl) (fun {n cs D} hd => by
    obtain ⟨z, hz, _, hwf⟩ := DataW.trod_int he hd
    obtain ⟨b, rfl⟩ := u16_wf hwf
    exact ⟨b, hz⟩) hv h
  exact ⟨l, by rw [fm_one (fun b : Fin 65536 => Value.int .u16 (b.val : Int))] at h1; exact h1, h2⟩
theorem open_boolsG {t e : TypeId} (ht : P.underlying t = some (.slice e)) (he : P.underlying e = some .bool) (hc : P.cellsOf e = 1)
    (hv : Value.okWide P W r b0 t v) (h : DataW.Trod enc P W 0 (fun _ => true) true t v d p) : ∃ l : List Bool, Rds (old W) v l.length (l.map Value.bool) ∧ l.length ≤ 9223372036854775807 := by
  obtain ⟨l, h1, h2⟩ := open_elems (cells := fun b : Bool => [Value.bool b]) (k := 1) ht hc (by omega) (fun _ => rfl) (fun {n cs D} hd => by
    obtain ⟨z, hz, _⟩ := DataW.trod_bool he hd
    exact ⟨z, hz⟩) hv h
  exact ⟨l, by rw [fm_one Value.bool] at h1; exact h1, h2⟩
theorem open_intsG {t e : TypeId} (ht : P.underlying t = some (.slice e)) (he : P.underlying e = some (.int .i64)) (hc : P.cellsOf e = 1)
    (hv : Value.okWide P W r b0 t v) (h : DataW.Trod enc P W 0 (fun _ => true) true t v d p) : ∃ l : List Int, Rds (old W) v l.length (l.map fun n => .int .i64 n) ∧ l.length ≤ 9223372036854775807 ∧ ∀ n ∈ l, -9223372036854775808 ≤ n ∧ n ≤ 9223372036854775807 := by
  obtain ⟨l, h1, h2⟩ := open_elems (cells := fun b : {n : Int // -9223372036854775808 ≤ n ∧ n ≤ 9223372036854775807} => [Value.int .i64 b.1]) (k := 1) ht hc (by omega) (fun _ => rfl) (fun {n cs D} hd => by
    obtain ⟨z, hz, _, hwf⟩ := DataW.trod_int he hd
    exact ⟨⟨z, by simpa [Lit.wf, IntKind.min, IntKind.max, IntKind.signed, IntKind.bits] using hwf⟩, hz⟩) hv h
  refine ⟨l.map (·.1), by rw [fm_one (fun b : {n : Int // -9223372036854775808 ≤ n ∧ n ≤ 9223372036854775807} => Value.int .i64 b.1)] at h1; rw [List.length_map, List.map_map]; exact h1, by simpa using h2, ?_⟩
  intro n hn
  obtain ⟨x, _, rfl⟩ := List.mem_map.1 hn
  exact x.2
/-- A slice within a struct. -/
theorem elems_of {α : Type} {cells : α → List Value} {k n : Nat} {t e : TypeId} {cs : List Value} {D : DataW H × List MemPlace} (ht : P.underlying t = some (.slice e)) (hce : P.cellsOf e = k) (hk : 0 < k) (hc : ∀ x, (cells x).length = k)
    (hel : ∀ {n : Nat} {cs : List Value} {D : DataW H × List MemPlace}, DataW.trod enc P W 0 (fun _ => true) true n e cs = some D → ∃ x, cs = cells x)
    (hf : DataW.trod enc P W 0 (fun _ => true) true n t cs = some D) : ∃ (v : Value) (l : List α), cs = [v] ∧ Rds (old W) v l.length (l.flatMap cells) ∧ l.length ≤ 9223372036854775807 := by
  rcases open_slice ht hf with ⟨e, _⟩ | ⟨a, len, cap, m, n, D, Pl, e, _, hlc, hcm, hm, _, hall⟩
  · exact ⟨_, [], e, rds_old ⟨none, 0, rfl, Nat.le_refl _, .inl rfl⟩, by simp⟩
  · simp only [if_true] at hm
    subst hm
    have key : ∀ q, q ≤ len → ∃ l : List α, l.length = q ∧ ∀ i x, l[i]? = some x → W.cells? 0 (a.add (i * k)) k = some (cells x) := by
      intro q
      induction q with
      | zero => exact fun _ => ⟨[], rfl, fun i x h => by simp at h⟩
      | succ q ih =>
        intro hq
        obtain ⟨l, hl, hx⟩ := ih (by omega)
        obtain ⟨cs', h1, h2⟩ := hall q (by omega)
        rw [hce] at h1
        obtain ⟨x, rfl⟩ := hel h2
        refine ⟨l ++ [x], by simp [hl], fun i y hi => ?_⟩
        by_cases hiq : i < q
        · rw [List.getElem?_append_left (by omega)] at hi
          exact hx i y hi
        · have hi2 := (List.getElem?_eq_some_iff.1 hi).1
          simp at hi2
          have hiq2 : i = q := by omega
          subst hiq2
          rw [List.getElem?_append_right (by omega), hl] at hi
          simp at hi
          subst hi
          exact h1
    obtain ⟨l, hl, hx⟩ := key len (Nat.le_refl _)
    refine ⟨_, l, e, ?_, by rw [hl]; simp only [maxLen] at hcm; omega⟩
    rw [hl]
    refine rds_old ⟨some a, _, rfl, hlc, win_of_cells fun j u hj => ?_⟩
    obtain ⟨x, h1, h2⟩ := fm_get hk hc hj
    obtain ⟨_, _, h3⟩ := World.cells?_some (hx _ x h1)
    have h4 := h3 (j % k) (Nat.mod_lt _ hk)
    rw [h2, Go.Deep.add_add, show j / k * k + j % k = j by rw [Nat.mul_comm]; exact Nat.div_add_mod j k] at h4
    exact h4
theorem ints_of {n : Nat} {t e : TypeId} {cs : List Value} {D : DataW H × List MemPlace} (ht : P.underlying t = some (.slice e)) (he : P.underlying e = some (.int .i64)) (hc : P.cellsOf e = 1)
    (hf : DataW.trod enc P W 0 (fun _ => true) true n t cs = some D) : ∃ (v : Value) (l : List Int), cs = [v] ∧ Rds (old W) v l.length (l.map fun n => .int .i64 n) ∧ l.length ≤ 9223372036854775807 := by
  obtain ⟨v, l, e1, h1, h2⟩ := elems_of (cells := fun b : Int => [Value.int .i64 b]) (k := 1) ht hc (by omega) (fun _ => rfl) (fun {n cs D} hd => by
    obtain ⟨z, hz, _⟩ := DataW.trod_int he hd
    exact ⟨z, hz⟩) hf
  exact ⟨v, l, e1, by rw [fm_one (fun b : Int => Value.int .i64 b)] at h1; exact h1, h2⟩
end Hold

/-
  Two tests, one behind the other; a read whose guard is shut.
-/
set_option linter.all false
namespace Hold
open Go
section
variable {P : Program} {E : World0} {w : World} {K : Value → World → Prop}
theorem two_lss {t : TypeId} {kk : IntKind} {a b c : Int} {k : Value → World → Prop} :
    (pvv P (binOp .lss t (.int kk a) (.int kk b)) w fun t_7 w => gate (some (t_7, true)) (fun K => K (.int kk a) w) w fun t_8 w => gate (some (t_7, true)) (fun K => pvv P (binOp .lss t t_8 (.int kk c)) w K) w fun t_9 w => pv P (oPick t_7 t_9 (.bool false)) w fun t_10 w => k t_10 w) = k (.bool (decide (a < b ∧ a < c))) w := by
  rw [o_lss]
  by_cases h1 : a < b
  · by_cases h2 : a < c
    · simp only [h1, h2, and_self, ↓o_nil, ↓o_field, ↓o_add, ↓o_sub, ↓o_mul, ↓o_lss, ↓o_leq, ↓o_gtr, ↓o_geq, ↓o_not, ↓o_pick, ↓o_eqInt, ↓o_neInt, ↓o_eqBool, ↓o_neBool, ↓o_eqPtr, ↓o_nePtr, ↓o_eqPtr', ↓o_eqSl, ↓o_neSl, ↓o_eqStr, ↓o_neStr, ↓o_len, ↓o_lenS, ↓o_min, ↓o_max, ↓o_extract, ↓o_convInt, ↓cd_true, ↓cd_false, ↓gate_tt, ↓gate_ff, ↓gate_tf, ↓gate_ft, ↓gate_undef, ↓o_bind, ↓stay_v, ↓pop_cons, ↓fin_nil, Option.isNone_none, Option.isNone_some, Bool.not_true, Bool.not_false, Nat.zero_add, decide_true, decide_false, if_true, if_false, Bool.false_eq_true, ↓reduceIte]
    · simp only [h1, h2, and_false, ↓o_nil, ↓o_field, ↓o_add, ↓o_sub, ↓o_mul, ↓o_lss, ↓o_leq, ↓o_gtr, ↓o_geq, ↓o_not, ↓o_pick, ↓o_eqInt, ↓o_neInt, ↓o_eqBool, ↓o_neBool, ↓o_eqPtr, ↓o_nePtr, ↓o_eqPtr', ↓o_eqSl, ↓o_neSl, ↓o_eqStr, ↓o_neStr, ↓o_len, ↓o_lenS, ↓o_min, ↓o_max, ↓o_extract, ↓o_convInt, ↓cd_true, ↓cd_false, ↓gate_tt, ↓gate_ff, ↓gate_tf, ↓gate_ft, ↓gate_undef, ↓o_bind, ↓stay_v, ↓pop_cons, ↓fin_nil, Option.isNone_none, Option.isNone_some, Bool.not_true, Bool.not_false, Nat.zero_add, decide_true, decide_false, if_true, if_false, Bool.false_eq_true, ↓reduceIte]
  · simp only [h1, false_and, ↓o_nil, ↓o_field, ↓o_add, ↓o_sub, ↓o_mul, ↓o_lss, ↓o_leq, ↓o_gtr, ↓o_geq, ↓o_not, ↓o_pick, ↓o_eqInt, ↓o_neInt, ↓o_eqBool, ↓o_neBool, ↓o_eqPtr, ↓o_nePtr, ↓o_eqPtr', ↓o_eqSl, ↓o_neSl, ↓o_eqStr, ↓o_neStr, ↓o_len, ↓o_lenS, ↓o_min, ↓o_max, ↓o_extract, ↓o_convInt, ↓cd_true, ↓cd_false, ↓gate_tt, ↓gate_ff, ↓gate_tf, ↓gate_ft, ↓gate_undef, ↓o_bind, ↓stay_v, ↓pop_cons, ↓fin_nil, Option.isNone_none, Option.isNone_some, Bool.not_true, Bool.not_false, Nat.zero_add, decide_true, decide_false, if_true, if_false, Bool.false_eq_true, ↓reduceIte]
theorem st_shut {s : Sem Value} {v : Value} {b want : Bool} {A : Prop} (h : b ≠ want) (k : A) : stv P (some (.bool b, want)) s v w A := ⟨fun hw => by simp [wantedG] at hw; exact absurd hw h, k⟩
end
end Hold
