/-
  A chain's points, one behind the other; whether the events are those of the chain.
-/
import Derived.Test.YtmnaalpjhkkglaaGreatDoorAudD
set_option linter.all false
set_option maxRecDepth 10000
namespace Go.Proofs.YtmnaalpjhkkglaaGreatDoor
open Go Hold
variable {E : World0} {w : World} {H R : HP} {K : Value → World → Prop}
def links (h : List UInt8) (l : List Evt) : List UInt8 := l.foldl nx h
theorem links_length : ∀ (l : List Evt) {h : List UInt8}, h.length = 32 → (links h l).length = 32
  | [], h, hh => hh
  | x :: l, h, hh => links_length l (nx_length h x)
theorem links_snoc {h : List UInt8} {l : List Evt} {i : Nat} (hi : i < l.length) : links h (l.take (i + 1)) = nx (links h (l.take i)) (l[i]'hi) := by
  unfold links
  rw [List.take_succ_eq_append_getElem hi, List.foldl_append]
  rfl
theorem ldw_part {t n b o e : Nat} {xs : List Value} {fr : Nat × Nat} [i : AggC prog t n] (hb : w.heap[b]? = some (.cells xs.toArray e fr)) (ys : List Value) (hn : ys.length = n) (hy : (xs.drop o).take n = ys) (k : K (.agg ys.toArray) w) :
    ldv prog (Instr.loadAt t (.pointer (some ⟨b, o, none⟩))) w K := ldv_of (run_loadN hn fun j v hj => cell_of hb (by simpa using take_cell hy hj)) k
theorem ldw_cell {t b o e : Nat} {xs : List Value} {fr : Nat × Nat} {v : Value} [i : OneC prog t] (hb : w.heap[b]? = some (.cells xs.toArray e fr)) (hv : xs[o]? = some v) (k : K v w) :
    ldv prog (Instr.loadAt t (.pointer (some ⟨b, o, none⟩))) w K := ld_cell (cell_of hb (by simpa using hv)) k
def pc (s : Ch) (i : Nat) : List Value := .int .i64 (s.bn + i) :: (links s.bh (s.l.take i)).map bv
section
variable {s : Ch} {m : Nat}
theorem pc_length (ok : Ok s m) (i : Nat) : (pc s i).length = 33 := by simp [pc, links_length _ ok.b]
theorem pc_one (s : Ch) (i : Nat) : ∀ x ∈ pc s i, x.oneCell' = true := by
  intro x hx
  rcases List.mem_cons.1 hx with rfl | hx
  · rfl
  · exact bv_one _ x hx
theorem pc_zero (s : Ch) : pc s 0 = .int .i64 s.bn :: s.bh.map bv := by simp [pc, links]
theorem pc_hash (ok : Ok s m) (i : Nat) : ((pc s i).drop 1).take 32 = (links s.bh (s.l.take i)).map bv := by
  unfold pc
  rw [List.drop_succ_cons, List.drop_zero, List.take_of_length_le (by simp [links_length _ ok.b])]
end
def z57 : List Value := .int .i64 0 :: zeros32.map bv
theorem Links_spec {p c0 m : Nat} {s : Ch} {v y : Value} (ok : Ok s m) (hm : m ≤ 1000000000000000) (G : Nat → HP) (Z : HP) (h : sat E w (G 0))
    (hG0 : ∀ i {w : World}, sat E w (G i) → w.heap[c0]? = some (.cells [Value.pointer (some ⟨p, 0, none⟩)].toArray 23 (0, 0)))
    (hG1 : ∀ i {w : World}, sat E w (G i) → w.heap[p]? = some (.cells (icells s v).toArray 69 (0, 0)))
    (hGv : ∀ i, Rds (G i) v s.l.length (evs s.l)) (hGd : ∀ i, Dbt (G i))
    (hy : ∀ (F : HP) (i : Nat), i ≤ s.l.length → ∀ (w : World) (K' : Value → World → Prop), sat E w (F * G i) → (∀ w', sat E w' (F * G (i + 1)) → K' (.bool true) w') → (∀ w', sat E w' (F * Z) → K' (.bool false) w') → ef prog (oCall y #[.agg (pc s i).toArray]) w K')
    (k1 : ∀ w', sat E w' (G (s.l.length + 1)) → K (.tuple #[]) w') (k2 : ∀ w', sat E w' Z → K (.tuple #[]) w') : Calls prog 60 #[y, .pointer (some ⟨c0, 0, none⟩)] w (Ret K) := by
  have := ok.few; have := ok.top; have := ok.b0
  obtain ⟨a, c, rfl, hc, _, _⟩ := (hGv 0).shape h
  refine c60 ?_
  unfold B60
  refine ldw_cell (hG0 0 h) (v := .pointer (some ⟨p, 0, none⟩)) rfl ?_
  try simp only [↓o_nil, ↓o_field, ↓o_add, ↓o_sub, ↓o_mul, ↓o_lss, ↓o_leq, ↓o_gtr, ↓o_geq, ↓o_not, ↓o_pick, ↓o_eqInt, ↓o_neInt, ↓o_eqBool, ↓o_neBool, ↓o_eqPtr, ↓o_nePtr, ↓o_eqPtr', ↓o_eqSl, ↓o_neSl, ↓o_eqStr, ↓o_neStr, ↓o_len, ↓o_lenS, ↓o_min, ↓o_max, ↓o_extract, ↓o_convInt, ↓cd_true, ↓cd_false, ↓gate_tt, ↓gate_ff, ↓gate_tf, ↓gate_ft, ↓gate_undef, ↓o_bind, ↓stay_v, ↓pop_cons, ↓fin_nil, Option.isNone_none, Option.isNone_some, Bool.not_true, Bool.not_false, Nat.zero_add, decide_true, decide_false, if_true, if_false, Bool.false_eq_true, ↓reduceIte]
  refine ldw_part (hG1 0 h) (pc s 0) (pc_length ok 0) (by rw [pc_zero]; exact ic_base ok) ?_
  refine alloc_sl h fun q w h => ?_
  have h : sat E w (pts q (.cells z57.toArray 66 (0, 0)) * G 0) := h
  refine store_all (b := q) h (xs := z57) (vs := pc s 0) rfl (pc_length ok 0) (pc_one s 0) fun w h => ?_
  refine ld_agg (b := q) h (pc_length ok 0) ?_
  refine hy _ 0 (by omega) w _ h (fun w h => ?_) (fun w h => ?_)
  · simp only [↓o_nil, ↓o_field, ↓o_add, ↓o_sub, ↓o_mul, ↓o_lss, ↓o_leq, ↓o_gtr, ↓o_geq, ↓o_not, ↓o_pick, ↓o_eqInt, ↓o_neInt, ↓o_eqBool, ↓o_neBool, ↓o_eqPtr, ↓o_nePtr, ↓o_eqPtr', ↓o_eqSl, ↓o_neSl, ↓o_eqStr, ↓o_neStr, ↓o_len, ↓o_lenS, ↓o_min, ↓o_max, ↓o_extract, ↓o_convInt, ↓cd_true, ↓cd_false, ↓gate_tt, ↓gate_ff, ↓gate_tf, ↓gate_ft, ↓gate_undef, ↓o_bind, ↓stay_v, ↓pop_cons, ↓fin_nil, Option.isNone_none, Option.isNone_some, Bool.not_true, Bool.not_false, Nat.zero_add, decide_true, decide_false, if_true, if_false, Bool.false_eq_true, ↓reduceIte]
    refine ldw_cell (hG0 1 h.drop) (v := .pointer (some ⟨p, 0, none⟩)) rfl ?_
    try simp only [↓o_nil, ↓o_field, ↓o_add, ↓o_sub, ↓o_mul, ↓o_lss, ↓o_leq, ↓o_gtr, ↓o_geq, ↓o_not, ↓o_pick, ↓o_eqInt, ↓o_neInt, ↓o_eqBool, ↓o_neBool, ↓o_eqPtr, ↓o_nePtr, ↓o_eqPtr', ↓o_eqSl, ↓o_neSl, ↓o_eqStr, ↓o_neStr, ↓o_len, ↓o_lenS, ↓o_min, ↓o_max, ↓o_extract, ↓o_convInt, ↓cd_true, ↓cd_false, ↓gate_tt, ↓gate_ff, ↓gate_tf, ↓gate_ft, ↓gate_undef, ↓o_bind, ↓stay_v, ↓pop_cons, ↓fin_nil, Option.isNone_none, Option.isNone_some, Bool.not_true, Bool.not_false, Nat.zero_add, decide_true, decide_false, if_true, if_false, Bool.false_eq_true, ↓reduceIte]
    refine ldw_cell (hG1 1 h.drop) (v := .slice a s.l.length c) (ic_l ok) ?_
    rw [o_len]
    refine lp_nat (fun q' σ w => ∃ j : Nat, σ = [.int .i64 (j : Int)] ∧ q' = s.l.length - j ∧ j ≤ s.l.length ∧ sat E w (pts q (.cells (pc s j).toArray 66 (0, 0)) * G (j + 1))) s.l.length ⟨0, rfl, by omega, by omega, h⟩ ?_
    clear h
    rintro q' σ w again ⟨j, rfl, rfl, hj, h⟩ hag
    rw [pop_cons, fin_nil, o_lss]
    refine cd_dec (fun hlt => ?_) (fun hge => ?_)
    · have hj2 : j < s.l.length := by omega
      obtain ⟨b, o, c', e, hc', hrd⟩ := (hGv (j + 1)).opened h.drop (by rw [evs_length]; omega)
      cases e
      rw [o_index (by omega) (by omega)]
      refine ld_el h (hrd.right) (j * 4) (by simp) (ecells s.l[j]) rfl (evs_at (by simp [hj2])) ?_
      refine alloc_sl h fun x w h => ?_
      have h : sat E w (pts x (.cells (ecells zeroE).toArray 31 (0, 0)) * (pts q (.cells (pc s j).toArray 66 (0, 0)) * G (j + 1))) := h
      refine store_all (b := x) h (xs := ecells zeroE) (vs := ecells s.l[j]) rfl rfl (ecells_one _) fun w h => ?_
      refine dr_sl h fun w h _ => ?_
      try simp only [↓o_nil, ↓o_field, ↓o_add, ↓o_sub, ↓o_mul, ↓o_lss, ↓o_leq, ↓o_gtr, ↓o_geq, ↓o_not, ↓o_pick, ↓o_eqInt, ↓o_neInt, ↓o_eqBool, ↓o_neBool, ↓o_eqPtr, ↓o_nePtr, ↓o_eqPtr', ↓o_eqSl, ↓o_neSl, ↓o_eqStr, ↓o_neStr, ↓o_len, ↓o_lenS, ↓o_min, ↓o_max, ↓o_extract, ↓o_convInt, ↓cd_true, ↓cd_false, ↓gate_tt, ↓gate_ff, ↓gate_tf, ↓gate_ft, ↓gate_undef, ↓o_bind, ↓stay_v, ↓pop_cons, ↓fin_nil, Option.isNone_none, Option.isNone_some, Bool.not_true, Bool.not_false, Nat.zero_add, decide_true, decide_false, if_true, if_false, Bool.false_eq_true, ↓reduceIte]
      refine ld_in (b := q) (v := .int .i64 (s.bn + j)) h rfl ?_
      rw [o_add, i64_of (by omega) (by omega)]
      refine ld_part (b := q) h ((links s.bh (s.l.take j)).map bv) (by simp [links_length _ ok.b]) (pc_hash ok j) ?_
      refine ld_agg (b := x) (xs := ecells s.l[j]) h rfl ?_
      refine next_spec h (hGd (j + 1)).right.right (links_length _ ok.b) fun w h => ?_
      refine st_in (b := q) (v := .int .i64 (s.bn + j)) h rfl ?_
      rw [← links_snoc hj2]
      refine build57 (links_length _ ok.b) ?_
      have e2 : (.int .i64 (s.bn + (j : Int) + 1) :: (links s.bh (s.l.take (j + 1))).map bv : List Value) = pc s (j + 1) := by
        unfold pc; congr 2; omega
      rw [e2]
      refine store_all (b := q) h (xs := pc s j) (vs := pc s (j + 1)) (pc_length ok _) (pc_length ok _) (pc_one s _) fun w h => ?_
      have h := h.lose x
      refine ld_agg (b := q) h (pc_length ok _) ?_
      refine hy _ (j + 1) (by omega) w _ h (fun w h => ?_) (fun w h => ?_)
      · simp only [↓o_nil, ↓o_field, ↓o_add, ↓o_sub, ↓o_mul, ↓o_lss, ↓o_leq, ↓o_gtr, ↓o_geq, ↓o_not, ↓o_pick, ↓o_eqInt, ↓o_neInt, ↓o_eqBool, ↓o_neBool, ↓o_eqPtr, ↓o_nePtr, ↓o_eqPtr', ↓o_eqSl, ↓o_neSl, ↓o_eqStr, ↓o_neStr, ↓o_len, ↓o_lenS, ↓o_min, ↓o_max, ↓o_extract, ↓o_convInt, ↓cd_true, ↓cd_false, ↓gate_tt, ↓gate_ff, ↓gate_tf, ↓gate_ft, ↓gate_undef, ↓o_bind, ↓stay_v, ↓pop_cons, ↓fin_nil, Option.isNone_none, Option.isNone_some, Bool.not_true, Bool.not_false, Nat.zero_add, decide_true, decide_false, if_true, if_false, Bool.false_eq_true, ↓reduceIte]
        rw [i64_of (by omega) (by omega)]
        exact hag (s.l.length - (j + 1)) _ _ (by omega) ⟨j + 1, rfl, rfl, by omega, h⟩
      · simp only [↓o_nil, ↓o_field, ↓o_add, ↓o_sub, ↓o_mul, ↓o_lss, ↓o_leq, ↓o_gtr, ↓o_geq, ↓o_not, ↓o_pick, ↓o_eqInt, ↓o_neInt, ↓o_eqBool, ↓o_neBool, ↓o_eqPtr, ↓o_nePtr, ↓o_eqPtr', ↓o_eqSl, ↓o_neSl, ↓o_eqStr, ↓o_neStr, ↓o_len, ↓o_lenS, ↓o_min, ↓o_max, ↓o_extract, ↓o_convInt, ↓cd_true, ↓cd_false, ↓gate_tt, ↓gate_ff, ↓gate_tf, ↓gate_ft, ↓gate_undef, ↓o_bind, ↓stay_v, ↓pop_cons, ↓fin_nil, Option.isNone_none, Option.isNone_some, Bool.not_true, Bool.not_false, Nat.zero_add, decide_true, decide_false, if_true, if_false, Bool.false_eq_true, ↓reduceIte]
        exact k2 _ h.drop
    · have hj2 : j = s.l.length := by omega
      subst hj2
      exact k1 _ h.drop
  · simp only [↓o_nil, ↓o_field, ↓o_add, ↓o_sub, ↓o_mul, ↓o_lss, ↓o_leq, ↓o_gtr, ↓o_geq, ↓o_not, ↓o_pick, ↓o_eqInt, ↓o_neInt, ↓o_eqBool, ↓o_neBool, ↓o_eqPtr, ↓o_nePtr, ↓o_eqPtr', ↓o_eqSl, ↓o_neSl, ↓o_eqStr, ↓o_neStr, ↓o_len, ↓o_lenS, ↓o_min, ↓o_max, ↓o_extract, ↓o_convInt, ↓cd_true, ↓cd_false, ↓gate_tt, ↓gate_ff, ↓gate_tf, ↓gate_ft, ↓gate_undef, ↓o_bind, ↓stay_v, ↓pop_cons, ↓fin_nil, Option.isNone_none, Option.isNone_some, Bool.not_true, Bool.not_false, Nat.zero_add, decide_true, decide_false, if_true, if_false, Bool.false_eq_true, ↓reduceIte]
    exact k2 _ h.drop
end Go.Proofs.YtmnaalpjhkkglaaGreatDoor

/-
  Whether the events are those of the chain; letting events go.
-/
set_option linter.all false
set_option maxRecDepth 10000
namespace Go.Proofs.YtmnaalpjhkkglaaGreatDoor
open Go Hold
variable {E : World0} {w : World} {H R : HP} {K : Value → World → Prop}
def bad (s : Ch) : Prop := s.bn ≤ s.an ∧ links s.bh (s.l.take (s.an - s.bn).toNat) ≠ s.ah
instance (s : Ch) : Decidable (bad s) := by unfold bad; exact inferInstance
def verifyS (s : Ch) : Int := if bad s ∨ links s.bh s.l ≠ s.hd then 15 else 0
theorem flds57 : ∃ f g : Field, (prog.fieldsOf 66).toList = [f, g] ∧ (f.name == "_") = false ∧ (g.name == "_") = false ∧ f.type = 3 ∧ f.offset = 0 ∧ g.type = 28 ∧ g.offset = 1 :=
  ⟨(prog.fieldsOf 66).toList.getD 0 default, (prog.fieldsOf 66).toList.getD 1 default, by kernel_rfl, by kernel_rfl, by kernel_rfl, by kernel_rfl, by kernel_rfl, by kernel_rfl, by kernel_rfl⟩
theorem run_eq57 {n n' : Int} {a b : List UInt8} (ha : a.length = 32) (hb : b.length = 32) (w : World) :
    (Op.eqFields 9999 (.int .i64 n :: a.map bv).toArray (.int .i64 n' :: b.map bv).toArray (prog.fieldsOf 66).toList).run prog w = .ok (decide (n = n') && (a == b)) w := by
  obtain ⟨f, g, e, h1, h2, h3, h4, h5, h6⟩ := flds57
  rw [e]
  have x1 : ∀ l : List UInt8, l.length = 32 → ∀ n : Int, (Value.int .i64 n :: l.map bv).toArray.extract 1 (1 + 32) = (l.map bv).toArray := fun l hl n => by
    apply Array.ext'
    simp [hl]
    exact List.take_of_length_le (by simp [hl])
  refine run_eqField h1 (a := .int .i64 n) (b := .int .i64 n') (by rw [h3, h4]; exact run_part1 rfl) (by rw [h3, h4]; exact run_part1 rfl) (by rw [h3]; exact run_equalIn_int w 9998 3 .i64 .i64 n n' ul_3.ul) ?_
  have h9 := run_eqField (P := prog) (w := w) (d := 9999) (xs := (.int .i64 n :: a.map bv).toArray) (ys := (.int .i64 n' :: b.map bv).toArray) (fs := []) h2 (a := .agg (a.map bv).toArray) (b := .agg (b.map bv).toArray) (p := a == b) (q := true)
    (by rw [h5, h6, run_partN (n := 32), x1 a ha]) (by rw [h5, h6, run_partN (n := 32), x1 b hb]) (by rw [h5]; exact run_equalIn_bytes w 9997 28 5 32 ul_28.ul ul_5.ul (fun w => run_sizeOf' (oneC_5).size) a b ha hb) run_eqNone
  simpa using h9
theorem neq_pc {n n' : Int} {a b : List UInt8} (ha : a.length = 32) (hb : b.length = 32) {xo yo : Operand} :
    pvv prog (oEq .neq 66 xo yo (.agg (.int .i64 n :: a.map bv).toArray) (.agg (.int .i64 n' :: b.map bv).toArray)) w K = K (.bool !(decide (n = n') && (a == b))) w :=
  o_neStruct (by kernel_rfl) (by kernel_rfl) (by kernel_rfl) (run_eq57 ha hb)
theorem flds34 : ∃ f g h i : Field, (prog.fieldsOf 31).toList = [f, g, h, i] ∧ (f.name == "_") = false ∧ (g.name == "_") = false ∧ (h.name == "_") = false ∧ (i.name == "_") = false ∧ f.type = 3 ∧ f.offset = 0 ∧ g.type = 3 ∧ g.offset = 1 ∧ h.type = 9 ∧ h.offset = 2 ∧ i.type = 9 ∧ i.offset = 3 :=
  ⟨(prog.fieldsOf 31).toList.getD 0 default, (prog.fieldsOf 31).toList.getD 1 default, (prog.fieldsOf 31).toList.getD 2 default, (prog.fieldsOf 31).toList.getD 3 default, by kernel_rfl, by kernel_rfl, by kernel_rfl, by kernel_rfl, by kernel_rfl, by kernel_rfl, by kernel_rfl, by kernel_rfl, by kernel_rfl, by kernel_rfl, by kernel_rfl, by kernel_rfl, by kernel_rfl⟩
theorem run_eq34 (x y : Evt) (w : World) : (Op.eqFields 9999 (ecells x).toArray (ecells y).toArray (prog.fieldsOf 31).toList).run prog w = .ok (decide (x = y)) w := by
  obtain ⟨f, g, h, i, e, h1, h2, h3, h4, t1, o1, t2, o2, t3, o3, t4, o4⟩ := flds34
  rw [e]
  have s1 : ∀ a b : List UInt8, (Op.equalIn 9999 9 (tv a) (tv b)).run prog w = .ok (decide (a = b)) w := fun a b => by
    have := run_equalIn_string (P := prog) w 9998 9 ⟨a.toArray⟩ ⟨b.toArray⟩ ul_9.ul
    rw [beq_lists] at this
    exact this
  have h9 := run_eqField (P := prog) (w := w) (d := 9999) (xs := (ecells x).toArray) (ys := (ecells y).toArray) (fs := [g, h, i]) h1 (a := .int .i64 x.n) (b := .int .i64 y.n) (by rw [t1, o1]; exact run_part1 rfl) (by rw [t1, o1]; exact run_part1 rfl) (by rw [t1]; exact run_equalIn_int w 9998 3 .i64 .i64 x.n y.n ul_3.ul)
    (run_eqField h2 (a := .int .i64 x.t) (b := .int .i64 y.t) (by rw [t2, o2]; exact run_part1 rfl) (by rw [t2, o2]; exact run_part1 rfl) (by rw [t2]; exact run_equalIn_int w 9998 3 .i64 .i64 x.t y.t ul_3.ul)
      (run_eqField h3 (a := tv x.what) (b := tv y.what) (by rw [t3, o3]; exact run_part1 rfl) (by rw [t3, o3]; exact run_part1 rfl) (by rw [t3]; exact s1 _ _)
        (run_eqField h4 (a := tv x.who) (b := tv y.who) (by rw [t4, o4]; exact run_part1 rfl) (by rw [t4, o4]; exact run_part1 rfl) (by rw [t4]; exact s1 _ _) run_eqNone)))
  rw [h9]
  congr 1
  rw [Bool.eq_iff_iff]
  obtain ⟨a, b, c, d⟩ := x
  obtain ⟨a', b', c', d'⟩ := y
  simp
theorem eq_ev {x y : Evt} {xo yo : Operand} : pvv prog (oEq .eql 31 xo yo (ev x) (ev y)) w K = K (.bool (decide (x = y))) w := o_eqStruct (by kernel_rfl) (by kernel_rfl) (by kernel_rfl) (run_eq34 x y)
theorem neq_ev {x y : Evt} {xo yo : Operand} : pvv prog (oEq .neq 31 xo yo (ev x) (ev y)) w K = K (.bool !(decide (x = y))) w := o_neStruct (by kernel_rfl) (by kernel_rfl) (by kernel_rfl) (run_eq34 x y)
theorem eq36 {a b : List UInt8} (ha : a.length = 32) (hb : b.length = 32) {xo yo : Operand} : pvv prog (oEq .eql 28 xo yo (.agg (a.map bv).toArray) (.agg (b.map bv).toArray)) w K = K (.bool (a == b)) w := o_eqArr (n := 32) (by kernel_rfl) ha hb
theorem neq36 {a b : List UInt8} (ha : a.length = 32) (hb : b.length = 32) {xo yo : Operand} : pvv prog (oEq .neq 28 xo yo (.agg (a.map bv).toArray) (.agg (b.map bv).toArray)) w K = K (.bool !(a == b)) w := o_neArr (n := 32) (by kernel_rfl) ha hb
end Go.Proofs.YtmnaalpjhkkglaaGreatDoor

/-
  Whether the events are those of the chain.
-/
set_option linter.all false
set_option maxRecDepth 10000
namespace Go.Proofs.YtmnaalpjhkkglaaGreatDoor
open Go Hold
variable {E : World0} {w : World} {H R : HP} {K : Value → World → Prop}
def lastP (s : Ch) : Nat → List Value
  | 0 => z57
  | i + 1 => pc s i
theorem lastP_length {s : Ch} {m : Nat} (ok : Ok s m) : ∀ i, (lastP s i).length = 33
  | 0 => rfl
  | i + 1 => pc_length ok i
def seen (s : Ch) (i : Nat) : Prop := ∀ j : Nat, j < i → ¬ (s.bn + (j : Int) = s.an ∧ links s.bh (s.l.take j) ≠ s.ah)
theorem seen_all {s : Ch} {m : Nat} (ok : Ok s m) (h : seen s (s.l.length + 1)) : ¬ bad s := by
  rintro ⟨h1, h2⟩
  have := ok.le
  exact h (s.an - s.bn).toNat (by omega) ⟨by omega, h2⟩
abbrev boxP (b p : Nat) : HP := pts b (.cells [Value.pointer (some ⟨p, 0, none⟩)].toArray 23 (0, 0))
abbrev boxI (b : Nat) (n : Int) : HP := pts b (.cells [Value.int .i64 n].toArray 32 (0, 0))
theorem Verify_spec {p m : Nat} {s : Ch} {v : Value} (ok : Ok s m) (hm : m ≤ 1000000000000) (hd : Dbt R) (h : sat E w (chI p s v R))
    (k : ∀ w', sat E w' (chI p s v R) → K (.int .i64 (verifyS s)) w') : Calls prog 14 #[.pointer (some ⟨p, 0, none⟩)] w (Ret K) := by
  have := ok.few; have := ok.top; have := ok.b0
  refine c14 ?_
  unfold B14
  refine box_sl h fun cb w h => ?_
  have h : sat E w (boxP cb p * chI p s v R) := h
  refine alloc_sl h fun tb w h => ?_
  have h : sat E w (boxI tb 0 * (boxP cb p * chI p s v R)) := h
  refine ld_in (b := cb) (v := .pointer (some ⟨p, 0, none⟩)) h rfl ?_
  simp only [↓o_eqPtr, Option.isNone_some, ↓cd_false]
  refine alloc_sl h fun lb w h => ?_
  have h : sat E w (pts lb (.cells z57.toArray 66 (0, 0)) * (boxI tb 0 * (boxP cb p * chI p s v R))) := h
  refine ld_in (b := cb) (v := .pointer (some ⟨p, 0, none⟩)) h rfl ?_
  refine c37 ?_
  unfold B37
  refine box_sl h fun xb w h => ?_
  have h : sat E w (boxP xb p * (pts lb (.cells z57.toArray 66 (0, 0)) * (boxI tb 0 * (boxP cb p * chI p s v R)))) := h
  refine pvv_of (v := .func (.func 60) #[] #[.pointer (some ⟨xb, 0, none⟩)]) (fun _ => rfl) ?_
  refine rng_body h Tryz.func60 (by kernel_rfl) (by kernel_rfl) fun rec D D1 w h hround => ?_
  refine Links_spec (E := E) (p := p) (v := v) (c0 := xb) ok (by omega)
    (fun i => pur (seen s i) * (pts D1 (rec .ready none) * (pts lb (.cells (lastP s i).toArray 66 (0, 0)) * (boxI tb 0 * (pts D (.deferred (some [])) * (boxP xb p * (boxP cb p * chI p s v R)))))))
    (pur (bad s) * (pts D1 (rec .done (some .ret)) * (boxI tb 15 * (pts D (.deferred (some [])) * (boxP xb p * (boxP cb p * chI p s v R))))))
    (sat_pur_star.2 ⟨fun j hj => by omega, h.perm (by ac_rfl)⟩) ?_ ?_ ?_ ?_ ?_ ?_ ?_
  · intro i w h
    exact ((sat_pur_star.1 h).2).has
  · intro i w h
    exact ((sat_pur_star.1 h).2).has
  · intro i
    exact Rds.under (H1 := pers (immS v s.l.length (evs s.l))) Rds.pers
  · intro i
    exact hd.up
  · clear h
    intro F i hi w K' h ht hf
    rw [star_left_comm] at h
    obtain ⟨hφ, h⟩ := sat_pur_star.1 h
    refine hround [.agg (pc s i).toArray] w K' rfl h.has ?_
    simp only [↓o_nil, ↓o_field, ↓o_add, ↓o_sub, ↓o_mul, ↓o_lss, ↓o_leq, ↓o_gtr, ↓o_geq, ↓o_not, ↓o_pick, ↓o_eqInt, ↓o_neInt, ↓o_eqBool, ↓o_neBool, ↓o_eqPtr, ↓o_nePtr, ↓o_eqPtr', ↓o_eqSl, ↓o_neSl, ↓o_eqStr, ↓o_neStr, ↓o_len, ↓o_lenS, ↓o_min, ↓o_max, ↓o_extract, ↓o_convInt, ↓cd_true, ↓cd_false, ↓gate_tt, ↓gate_ff, ↓gate_tf, ↓gate_ft, ↓gate_undef, ↓o_bind, ↓stay_v, ↓pop_cons, ↓fin_nil, Option.isNone_none, Option.isNone_some, Bool.not_true, Bool.not_false, Nat.zero_add, decide_true, decide_false, if_true, if_false, Bool.false_eq_true, ↓reduceIte]
    refine alloc_sl h fun pb w h => ?_
    have h : sat E w (pts pb (.cells z57.toArray 66 (0, 0)) * (F * (pts D1 (rec .ready none) * (pts lb (.cells (lastP s i).toArray 66 (0, 0)) * (boxI tb 0 * (pts D (.deferred (some [])) * (boxP xb p * (boxP cb p * chI p s v R)))))))) := h
    refine store_all (b := pb) h (xs := z57) (vs := pc s i) rfl (pc_length ok i) (pc_one s i) fun w h => ?_
    refine ⟨h.has, ?_⟩
    have h := (h.own D1).set (rec .busy none)
    refine dr_sl h fun w h _ => ?_
    try simp only [↓o_nil, ↓o_field, ↓o_add, ↓o_sub, ↓o_mul, ↓o_lss, ↓o_leq, ↓o_gtr, ↓o_geq, ↓o_not, ↓o_pick, ↓o_eqInt, ↓o_neInt, ↓o_eqBool, ↓o_neBool, ↓o_eqPtr, ↓o_nePtr, ↓o_eqPtr', ↓o_eqSl, ↓o_neSl, ↓o_eqStr, ↓o_neStr, ↓o_len, ↓o_lenS, ↓o_min, ↓o_max, ↓o_extract, ↓o_convInt, ↓cd_true, ↓cd_false, ↓gate_tt, ↓gate_ff, ↓gate_tf, ↓gate_ft, ↓gate_undef, ↓o_bind, ↓stay_v, ↓pop_cons, ↓fin_nil, Option.isNone_none, Option.isNone_some, Bool.not_true, Bool.not_false, Nat.zero_add, decide_true, decide_false, if_true, if_false, Bool.false_eq_true, ↓reduceIte]
    refine ld_in (b := pb) (v := .int .i64 (s.bn + i)) h rfl ?_
    refine ld_in (b := cb) (v := .pointer (some ⟨p, 0, none⟩)) h rfl ?_
    try simp only [↓o_nil, ↓o_field, ↓o_add, ↓o_sub, ↓o_mul, ↓o_lss, ↓o_leq, ↓o_gtr, ↓o_geq, ↓o_not, ↓o_pick, ↓o_eqInt, ↓o_neInt, ↓o_eqBool, ↓o_neBool, ↓o_eqPtr, ↓o_nePtr, ↓o_eqPtr', ↓o_eqSl, ↓o_neSl, ↓o_eqStr, ↓o_neStr, ↓o_len, ↓o_lenS, ↓o_min, ↓o_max, ↓o_extract, ↓o_convInt, ↓cd_true, ↓cd_false, ↓gate_tt, ↓gate_ff, ↓gate_tf, ↓gate_ft, ↓gate_undef, ↓o_bind, ↓stay_v, ↓pop_cons, ↓fin_nil, Option.isNone_none, Option.isNone_some, Bool.not_true, Bool.not_false, Nat.zero_add, decide_true, decide_false, if_true, if_false, Bool.false_eq_true, ↓reduceIte]
    refine ld_in (b := p) (v := .int .i64 s.an) h (ic_an ok) ?_
    rw [o_eqInt]
    have norm : ∀ w : World, sat E w (pts D1 (rec .busy none) * (pts pb (.cells (pc s i).toArray 66 (0, 0)) * (F * (pts lb (.cells (lastP s i).toArray 66 (0, 0)) * (boxI tb 0 * (pts D (.deferred (some [])) * (boxP xb p * (boxP cb p * chI p s v R)))))))) → seen s (i + 1) →
        ldv prog (Instr.loadAt 66 (.pointer (some ⟨pb, 0, none⟩))) w fun t_36 w => efu prog (Instr.storeAt 66 (.pointer (some ⟨lb, 0, none⟩)) t_36) w fun u_37 w => w.heap[D1]? = some (rec .busy none) ∧ K' (.bool true) (w.putObj D1 (rec .ready none)) := by
      intro w h hs
      refine ld_agg (b := pb) h (pc_length ok i) ?_
      refine store_all (b := lb) h (xs := lastP s i) (vs := pc s i) (lastP_length ok i) (pc_length ok i) (pc_one s i) fun w h => ?_
      refine ⟨h.has, ht _ ?_⟩
      have h := (h.own D1).set (rec .ready none)
      have h := h.lose pb
      rw [star_left_comm]
      exact sat_pur_star.2 ⟨hs, h.perm (by simp only [lastP]; ac_rfl)⟩
    by_cases hq : s.bn + (i : Int) = s.an
    · rw [decide_eq_true hq]
      simp only [↓o_nil, ↓o_field, ↓o_add, ↓o_sub, ↓o_mul, ↓o_lss, ↓o_leq, ↓o_gtr, ↓o_geq, ↓o_not, ↓o_pick, ↓o_eqInt, ↓o_neInt, ↓o_eqBool, ↓o_neBool, ↓o_eqPtr, ↓o_nePtr, ↓o_eqPtr', ↓o_eqSl, ↓o_neSl, ↓o_eqStr, ↓o_neStr, ↓o_len, ↓o_lenS, ↓o_min, ↓o_max, ↓o_extract, ↓o_convInt, ↓cd_true, ↓cd_false, ↓gate_tt, ↓gate_ff, ↓gate_tf, ↓gate_ft, ↓gate_undef, ↓o_bind, ↓stay_v, ↓pop_cons, ↓fin_nil, Option.isNone_none, Option.isNone_some, Bool.not_true, Bool.not_false, Nat.zero_add, decide_true, decide_false, if_true, if_false, Bool.false_eq_true, ↓reduceIte]
      refine ld_agg (b := pb) h (pc_length ok i) ?_
      refine ld_in (b := cb) (v := .pointer (some ⟨p, 0, none⟩)) h rfl ?_
      try simp only [↓o_nil, ↓o_field, ↓o_add, ↓o_sub, ↓o_mul, ↓o_lss, ↓o_leq, ↓o_gtr, ↓o_geq, ↓o_not, ↓o_pick, ↓o_eqInt, ↓o_neInt, ↓o_eqBool, ↓o_neBool, ↓o_eqPtr, ↓o_nePtr, ↓o_eqPtr', ↓o_eqSl, ↓o_neSl, ↓o_eqStr, ↓o_neStr, ↓o_len, ↓o_lenS, ↓o_min, ↓o_max, ↓o_extract, ↓o_convInt, ↓cd_true, ↓cd_false, ↓gate_tt, ↓gate_ff, ↓gate_tf, ↓gate_ft, ↓gate_undef, ↓o_bind, ↓stay_v, ↓pop_cons, ↓fin_nil, Option.isNone_none, Option.isNone_some, Bool.not_true, Bool.not_false, Nat.zero_add, decide_true, decide_false, if_true, if_false, Bool.false_eq_true, ↓reduceIte]
      refine ld_part (b := p) h (.int .i64 s.an :: s.ah.map bv) (by simp [ok.a]) (ic_anchor ok) ?_
      have e1 : ∀ (xo yo : Operand) (K : Value → World → Prop), pvv prog (oEq .neq 66 xo yo (.agg (pc s i).toArray) (.agg (.int .i64 s.an :: s.ah.map bv).toArray)) w K = K (.bool !(decide (s.bn + (i : Int) = s.an) && (links s.bh (s.l.take i) == s.ah))) w := fun xo yo K => neq_pc (links_length _ ok.b) ok.a
      rw [e1]
      by_cases hr : links s.bh (s.l.take i) = s.ah
      · rw [show (!(decide (s.bn + (i : Int) = s.an) && (links s.bh (s.l.take i) == s.ah))) = false by simp [hq, hr]]
        simp only [↓o_nil, ↓o_field, ↓o_add, ↓o_sub, ↓o_mul, ↓o_lss, ↓o_leq, ↓o_gtr, ↓o_geq, ↓o_not, ↓o_pick, ↓o_eqInt, ↓o_neInt, ↓o_eqBool, ↓o_neBool, ↓o_eqPtr, ↓o_nePtr, ↓o_eqPtr', ↓o_eqSl, ↓o_neSl, ↓o_eqStr, ↓o_neStr, ↓o_len, ↓o_lenS, ↓o_min, ↓o_max, ↓o_extract, ↓o_convInt, ↓cd_true, ↓cd_false, ↓gate_tt, ↓gate_ff, ↓gate_tf, ↓gate_ft, ↓gate_undef, ↓o_bind, ↓stay_v, ↓pop_cons, ↓fin_nil, Option.isNone_none, Option.isNone_some, Bool.not_true, Bool.not_false, Nat.zero_add, decide_true, decide_false, if_true, if_false, Bool.false_eq_true, ↓reduceIte]
        exact norm w (h.perm (by ac_rfl)) fun j hj => by
          rintro ⟨h1, h2⟩
          by_cases hji : j = i
          · subst hji; exact h2 hr
          · exact hφ j (by omega) ⟨h1, h2⟩
      · rw [show (!(decide (s.bn + (i : Int) = s.an) && (links s.bh (s.l.take i) == s.ah))) = true by simp [hr]]
        simp only [↓o_nil, ↓o_field, ↓o_add, ↓o_sub, ↓o_mul, ↓o_lss, ↓o_leq, ↓o_gtr, ↓o_geq, ↓o_not, ↓o_pick, ↓o_eqInt, ↓o_neInt, ↓o_eqBool, ↓o_neBool, ↓o_eqPtr, ↓o_nePtr, ↓o_eqPtr', ↓o_eqSl, ↓o_neSl, ↓o_eqStr, ↓o_neStr, ↓o_len, ↓o_lenS, ↓o_min, ↓o_max, ↓o_extract, ↓o_convInt, ↓cd_true, ↓cd_false, ↓gate_tt, ↓gate_ff, ↓gate_tf, ↓gate_ft, ↓gate_undef, ↓o_bind, ↓stay_v, ↓pop_cons, ↓fin_nil, Option.isNone_none, Option.isNone_some, Bool.not_true, Bool.not_false, Nat.zero_add, decide_true, decide_false, if_true, if_false, Bool.false_eq_true, ↓reduceIte]
        refine store_sl (b := tb) h rfl (by simp) fun w h => ?_
        have h : sat E w (boxI tb 15 * _) := h
        refine ⟨h.has, hf _ ?_⟩
        have h := (h.own D1).set (rec .done (some .ret))
        have h := (h.lose pb).lose lb
        rw [star_left_comm]
        refine sat_pur_star.2 ⟨⟨by omega, by rw [show (s.an - s.bn).toNat = i by omega]; exact hr⟩, ?_⟩
        have h : sat E _ (pts D1 (rec .done (some .ret)) * _) := h
        exact h.perm (by ac_rfl)
    · rw [decide_eq_false hq]
      simp only [↓o_nil, ↓o_field, ↓o_add, ↓o_sub, ↓o_mul, ↓o_lss, ↓o_leq, ↓o_gtr, ↓o_geq, ↓o_not, ↓o_pick, ↓o_eqInt, ↓o_neInt, ↓o_eqBool, ↓o_neBool, ↓o_eqPtr, ↓o_nePtr, ↓o_eqPtr', ↓o_eqSl, ↓o_neSl, ↓o_eqStr, ↓o_neStr, ↓o_len, ↓o_lenS, ↓o_min, ↓o_max, ↓o_extract, ↓o_convInt, ↓cd_true, ↓cd_false, ↓gate_tt, ↓gate_ff, ↓gate_tf, ↓gate_ft, ↓gate_undef, ↓o_bind, ↓stay_v, ↓pop_cons, ↓fin_nil, Option.isNone_none, Option.isNone_some, Bool.not_true, Bool.not_false, Nat.zero_add, decide_true, decide_false, if_true, if_false, Bool.false_eq_true, ↓reduceIte]
      exact norm w (h.perm (by ac_rfl)) fun j hj => by
        rintro ⟨h1, h2⟩
        by_cases hji : j = i
        · subst hji; exact hq h1
        · exact hφ j (by omega) ⟨h1, h2⟩
  · intro w h
    obtain ⟨hφ, h⟩ := sat_pur_star.1 h
    have hnb := seen_all ok hφ
    refine ⟨.ready, none, h.has, by simp, ?_⟩
    have h := (h.own D1).set (rec .exhausted none)
    simp only [jump]
    refine dr_sl h fun w h _ => ?_
    try simp only [↓o_nil, ↓o_field, ↓o_add, ↓o_sub, ↓o_mul, ↓o_lss, ↓o_leq, ↓o_gtr, ↓o_geq, ↓o_not, ↓o_pick, ↓o_eqInt, ↓o_neInt, ↓o_eqBool, ↓o_neBool, ↓o_eqPtr, ↓o_nePtr, ↓o_eqPtr', ↓o_eqSl, ↓o_neSl, ↓o_eqStr, ↓o_neStr, ↓o_len, ↓o_lenS, ↓o_min, ↓o_max, ↓o_extract, ↓o_convInt, ↓cd_true, ↓cd_false, ↓gate_tt, ↓gate_ff, ↓gate_tf, ↓gate_ft, ↓gate_undef, ↓o_bind, ↓stay_v, ↓pop_cons, ↓fin_nil, Option.isNone_none, Option.isNone_some, Bool.not_true, Bool.not_false, Nat.zero_add, decide_true, decide_false, if_true, if_false, Bool.false_eq_true, ↓reduceIte]
    refine ld_part (b := lb) h ((links s.bh (s.l.take s.l.length)).map bv) (by simp [links_length _ ok.b]) (pc_hash ok s.l.length) ?_
    refine ld_in (b := cb) (v := .pointer (some ⟨p, 0, none⟩)) h rfl ?_
    try simp only [↓o_nil, ↓o_field, ↓o_add, ↓o_sub, ↓o_mul, ↓o_lss, ↓o_leq, ↓o_gtr, ↓o_geq, ↓o_not, ↓o_pick, ↓o_eqInt, ↓o_neInt, ↓o_eqBool, ↓o_neBool, ↓o_eqPtr, ↓o_nePtr, ↓o_eqPtr', ↓o_eqSl, ↓o_neSl, ↓o_eqStr, ↓o_neStr, ↓o_len, ↓o_lenS, ↓o_min, ↓o_max, ↓o_extract, ↓o_convInt, ↓cd_true, ↓cd_false, ↓gate_tt, ↓gate_ff, ↓gate_tf, ↓gate_ft, ↓gate_undef, ↓o_bind, ↓stay_v, ↓pop_cons, ↓fin_nil, Option.isNone_none, Option.isNone_some, Bool.not_true, Bool.not_false, Nat.zero_add, decide_true, decide_false, if_true, if_false, Bool.false_eq_true, ↓reduceIte]
    refine ld_part (b := p) h (s.hd.map bv) (by simp [ok.h]) (ic_hd ok) ?_
    rw [neq36 (links_length _ ok.b) ok.h, List.take_length]
    by_cases hr : links s.bh s.l = s.hd
    · have e : verifyS s = 0 := by unfold verifyS; rw [if_neg (by rintro (h | h); exact hnb h; exact h hr)]
      rw [e] at k
      rw [show (!(links s.bh s.l == s.hd)) = false by simp [hr]]
      simp only [↓o_nil, ↓o_field, ↓o_add, ↓o_sub, ↓o_mul, ↓o_lss, ↓o_leq, ↓o_gtr, ↓o_geq, ↓o_not, ↓o_pick, ↓o_eqInt, ↓o_neInt, ↓o_eqBool, ↓o_neBool, ↓o_eqPtr, ↓o_nePtr, ↓o_eqPtr', ↓o_eqSl, ↓o_neSl, ↓o_eqStr, ↓o_neStr, ↓o_len, ↓o_lenS, ↓o_min, ↓o_max, ↓o_extract, ↓o_convInt, ↓cd_true, ↓cd_false, ↓gate_tt, ↓gate_ff, ↓gate_tf, ↓gate_ft, ↓gate_undef, ↓o_bind, ↓stay_v, ↓pop_cons, ↓fin_nil, Option.isNone_none, Option.isNone_some, Bool.not_true, Bool.not_false, Nat.zero_add, decide_true, decide_false, if_true, if_false, Bool.false_eq_true, ↓reduceIte]
      refine store_sl (b := tb) h rfl (by simp) fun w h => ?_
      refine ⟨h.has, ?_⟩
      have h := (h.own D).set (.deferred none)
      refine res_one (b := tb) h (v := .int .i64 0) rfl (k _ ?_)
      have h := (((((h.lose D).lose tb).lose D1).lose lb).lose xb).lose cb
      exact h.perm (by ac_rfl)
    · have e : verifyS s = 15 := by unfold verifyS; rw [if_pos (.inr hr)]
      rw [e] at k
      rw [show (!(links s.bh s.l == s.hd)) = true by simp [hr]]
      simp only [↓o_nil, ↓o_field, ↓o_add, ↓o_sub, ↓o_mul, ↓o_lss, ↓o_leq, ↓o_gtr, ↓o_geq, ↓o_not, ↓o_pick, ↓o_eqInt, ↓o_neInt, ↓o_eqBool, ↓o_neBool, ↓o_eqPtr, ↓o_nePtr, ↓o_eqPtr', ↓o_eqSl, ↓o_neSl, ↓o_eqStr, ↓o_neStr, ↓o_len, ↓o_lenS, ↓o_min, ↓o_max, ↓o_extract, ↓o_convInt, ↓cd_true, ↓cd_false, ↓gate_tt, ↓gate_ff, ↓gate_tf, ↓gate_ft, ↓gate_undef, ↓o_bind, ↓stay_v, ↓pop_cons, ↓fin_nil, Option.isNone_none, Option.isNone_some, Bool.not_true, Bool.not_false, Nat.zero_add, decide_true, decide_false, if_true, if_false, Bool.false_eq_true, ↓reduceIte]
      refine store_sl (b := tb) h rfl (by simp) fun w h => ?_
      refine ⟨h.has, ?_⟩
      have h := (h.own D).set (.deferred none)
      refine res_one (b := tb) h (v := .int .i64 15) rfl (k _ ?_)
      have h := (((((h.lose D).lose tb).lose D1).lose lb).lose xb).lose cb
      exact h.perm (by ac_rfl)
  · intro w h
    obtain ⟨hb, h⟩ := sat_pur_star.1 h
    have e : verifyS s = 15 := by unfold verifyS; rw [if_pos (.inl hb)]
    rw [e] at k
    refine ⟨.done, some .ret, h.has, by simp, ?_⟩
    have h := (h.own D1).set (rec .exhausted (some .ret))
    simp only [jump]
    refine ⟨h.has, ?_⟩
    have h := (h.own D).set (.deferred none)
    refine res_one (b := tb) h (v := .int .i64 15) rfl (k _ ?_)
    have h := ((((h.lose D).lose tb).lose D1).lose xb).lose cb
    exact h.perm (by ac_rfl)
end Go.Proofs.YtmnaalpjhkkglaaGreatDoor

/-
  Letting events go.
-/
set_option linter.all false
set_option maxRecDepth 10000
namespace Go.Proofs.YtmnaalpjhkkglaaGreatDoor
open Go Hold
variable {E : World0} {w : World} {H R : HP} {K : Value → World → Prop}
def pruneS (s : Ch) (n : Int) : Ch × Int × Int :=
  if s.an < n ∨ n < s.bn then (s, 0, 2)
  else ({ s with bn := n, bh := links s.bh (s.l.take (n - s.bn).toNat), l := s.l.drop (n - s.bn).toNat }, n - s.bn, 0)
theorem ok_prune {s : Ch} {m : Nat} {n : Int} (ok : Ok s m) : Ok (pruneS s n).1 m := by
  unfold pruneS
  split
  · exact ok
  · have := ok.le; have := ok.top; have := ok.b0; have := ok.few
    exact ⟨links_length _ ok.b, ok.a, ok.h, by simp only; omega, ok.a0, by simp only [List.length_drop]; omega, by simp only [List.length_drop]; omega, by simp only [List.length_drop]; omega⟩
abbrev boxN (b : Nat) (n : Int) : HP := pts b (.cells [Value.int .i64 n].toArray 3 (0, 0))
theorem Verify_nil (h : sat E w H) (k : ∀ w', sat E w' H → K (.int .i64 1) w') : Calls prog 14 #[.pointer none] w (Ret K) := by
  refine c14 ?_
  unfold B14
  refine box_sl h fun cb w h => ?_
  have h : sat E w (pts cb (.cells [Value.pointer none].toArray 23 (0, 0)) * H) := h
  refine alloc_sl h fun tb w h => ?_
  have h : sat E w (boxI tb 0 * (pts cb (.cells [Value.pointer none].toArray 23 (0, 0)) * H)) := h
  refine ld_in (b := cb) (v := .pointer none) h rfl ?_
  simp only [↓o_eqPtr, Option.isNone_none, ↓cd_true]
  refine store_sl (b := tb) h rfl (by simp) fun w h => ?_
  exact res_one (b := tb) h (v := .int .i64 1) rfl (k _ h.drop.drop)
theorem Anchor_nil (h : sat E w H) (k : ∀ w', sat E w' H → K (.tuple #[.int .i64 0, .agg (zeros32.map bv).toArray]) w') : Calls prog 9 #[.pointer none] w (Ret K) := by
  refine c9 ?_
  unfold B9
  refine alloc_sl h fun b w h => ?_
  have h : sat E w (pts b (.cells (zeros32.map bv).toArray 28 (0, 0)) * H) := h
  simp only [↓o_eqPtr, Option.isNone_none, ↓cd_true]
  refine zeroH_build ?_
  exact hash_ret3 (b := b) h (l := zeros32) rfl (ol := zeros32) rfl fun w h => k _ h.drop
end Go.Proofs.YtmnaalpjhkkglaaGreatDoor

/-
  What must be whatever is asked of a chain.
-/
set_option linter.all false
set_option maxRecDepth 10000
namespace Go.Proofs.YtmnaalpjhkkglaaGreatDoor
open Go Hold
variable {E : World0} {w : World} {H R X : HP} {K : Value → World → Prop}
def lg : List UInt8 := [108, 111, 103, 105, 110]
def tu : List UInt8 := [116, 47, 117]
def tk : List UInt8 := [116, 105, 99, 107]
def x1 : Evt := ⟨1, 5, lg, tu⟩
def y1 : Evt := ⟨2, 6, tk, []⟩
def h1 : List UInt8 := nx zeros32 x1
def h2 : List UInt8 := nx h1 y1
theorem numT_small {n : Nat} (h : n < 16) (h0 : n ≠ 0) : numT (n : Int) = [98, dig n] := by
  unfold numT number
  rw [if_neg (by omega)]
  show numText (n : Int).toNat = _
  rw [Int.toNat_natCast]
  unfold numText
  rw [hexs_small h h0]; rfl
theorem row_x1 : rowE x1 = [4, 2, 98, 49, 2, 98, 53, 5, 108, 111, 103, 105, 110, 3, 116, 47, 117] := by
  unfold rowE colsE
  rw [show x1.n = ((1 : Nat) : Int) from rfl, show x1.t = ((5 : Nat) : Int) from rfl, numT_small (by decide) (by decide), numT_small (by decide) (by decide)]
  decide
theorem h1_ne : (h1 == zeros32) = false := by
  have e : sha (zeros32 ++ [4, 2, 98, 49, 2, 98, 53, 5, 108, 111, 103, 105, 110, 3, 116, 47, 117]) ≠ zeros32 := by decide +kernel
  have e2 : h1 = sha (zeros32 ++ [4, 2, 98, 49, 2, 98, 53, 5, 108, 111, 103, 105, 110, 3, 116, 47, 117]) := by unfold h1 nx; rw [row_x1]
  rw [e2]
  simpa using e
def q1 : Ch := ⟨0, zeros32, 0, zeros32, h1, 5, [x1]⟩
def q2 : Ch := ⟨0, zeros32, 1, h1, h1, 5, [x1]⟩
def q3 : Ch := ⟨1, h1, 1, h1, h1, 5, []⟩
def q4 : Ch := ⟨1, h1, 1, h1, h2, 6, [y1]⟩
theorem add1 : addS newS 5 lg tu = (q1, x1, 0) := rfl
theorem anc1 : anchorS q1 = q2 := rfl
theorem pru1 : pruneS q2 1 = (q3, 1, 0) := rfl
theorem add2 : addS q3 6 tk [] = (q4, y1, 0) := rfl
theorem ver1 : verifyS q4 = 0 := by
  unfold verifyS
  rw [if_neg]
  rintro (h | h)
  · exact h.2 rfl
  · exact h rfl
theorem chI_in {p : Nat} {s : Ch} {v : Value} (h : sat E w (X * chI p s v R)) : sat E w (chI p s v (X * R)) := by
  unfold chI at h ⊢
  exact h.perm (by ac_rfl)
theorem hash_in (h : sat E w H) {l : List UInt8} (hl : l.length = 32) {K : Value → World → Prop} (k : ∀ b w', sat E w' (pts b (.cells (l.map bv).toArray 28 (0, 0)) * H) → K (.pointer (some ⟨b, 0, none⟩)) w') :
    efv prog (Instr.alloc 28 true (.tuple #[])) w fun x w => efu prog (Instr.storeAt 28 x (.agg (l.map bv).toArray)) w fun _ w => K x w := hash_var h hl k
theorem evt_in (h : sat E w H) {x : Evt} {K : Value → World → Prop} (k : ∀ b w', sat E w' (pts b (.cells (ecells x).toArray 31 (0, 0)) * H) → K (.pointer (some ⟨b, 0, none⟩)) w') :
    efv prog (Instr.alloc 31 true (.tuple #[])) w fun x' w => efu prog (Instr.storeAt 31 x' (ev x)) w fun _ w => K x' w := by
  refine alloc_sl h fun b w h => ?_
  have h : sat E w (pts b (.cells (ecells zeroE).toArray 31 (0, 0)) * H) := h
  exact store_all (b := b) h (xs := ecells zeroE) (vs := ecells x) rfl rfl (ecells_one x) fun w h => k b w h
end Go.Proofs.YtmnaalpjhkkglaaGreatDoor

/-
  The reference's chain.
-/
set_option linter.all false
set_option maxRecDepth 10000
namespace Go.Proofs.YtmnaalpjhkkglaaGreatDoor
open Go Hold
variable {E : World0} {w : World} {H R X : HP} {K : Value → World → Prop}
def rcells (s : Ch) (v : Value) : List Value := .int .i64 s.bn :: .int .i64 s.an :: .int .i64 s.last :: (s.bh.map bv ++ (s.ah.map bv ++ (s.hd.map bv ++ [v])))
section
variable {s : Ch} {v : Value} {m : Nat}
theorem rc_length (ok : Ok s m) : (rcells s v).length = 100 := by simp [rcells, ok.b, ok.a, ok.h]
theorem rc_l (ok : Ok s m) : (rcells s v)[99]? = some v := part_cell (.int .i64 s.bn :: .int .i64 s.an :: .int .i64 s.last :: (s.bh.map bv ++ (s.ah.map bv ++ s.hd.map bv))) [] (by simp [rcells]) (by simp [ok.b, ok.a, ok.h])
theorem rc_bh (ok : Ok s m) : ((rcells s v).drop 3).take 32 = s.bh.map bv := part_at [.int .i64 s.bn, .int .i64 s.an, .int .i64 s.last] _ (s.ah.map bv ++ (s.hd.map bv ++ [v])) (by simp [rcells]) rfl (by simp [ok.b])
theorem rc_ah (ok : Ok s m) : ((rcells s v).drop 35).take 32 = s.ah.map bv := part_at (.int .i64 s.bn :: .int .i64 s.an :: .int .i64 s.last :: s.bh.map bv) _ (s.hd.map bv ++ [v]) (by simp [rcells]) (by simp [ok.b]) (by simp [ok.a])
theorem rc_hd (ok : Ok s m) : ((rcells s v).drop 67).take 32 = s.hd.map bv := part_at (.int .i64 s.bn :: .int .i64 s.an :: .int .i64 s.last :: (s.bh.map bv ++ s.ah.map bv)) _ [v] (by simp [rcells]) (by simp [ok.b, ok.a]) (by simp [ok.h])
theorem rp_l (ok : Ok s m) {l : List Evt} {u : Value} : (rcells s v).set 99 u = rcells { s with l := l } u := part_set (.int .i64 s.bn :: .int .i64 s.an :: .int .i64 s.last :: (s.bh.map bv ++ (s.ah.map bv ++ s.hd.map bv))) [] (x := v) (by simp [rcells]) (by simp [ok.b, ok.a, ok.h]) (by simp [rcells])
theorem rp_hd (ok : Ok s m) {h : List UInt8} : (rcells s v).take 67 ++ h.map bv ++ (rcells s v).drop (67 + 32) = rcells { s with hd := h } v := part_put (.int .i64 s.bn :: .int .i64 s.an :: .int .i64 s.last :: (s.bh.map bv ++ s.ah.map bv)) (s.hd.map bv) [v] _ (by simp [rcells]) (by simp [ok.b, ok.a]) (by simp [ok.h]) (by simp [rcells])
theorem rp_ah (ok : Ok s m) {h : List UInt8} : (rcells s v).take 35 ++ h.map bv ++ (rcells s v).drop (35 + 32) = rcells { s with ah := h } v := part_put (.int .i64 s.bn :: .int .i64 s.an :: .int .i64 s.last :: s.bh.map bv) (s.ah.map bv) (s.hd.map bv ++ [v]) _ (by simp [rcells]) (by simp [ok.b]) (by simp [ok.a]) (by simp [rcells])
theorem rp_bh (ok : Ok s m) {h : List UInt8} : (rcells s v).take 3 ++ h.map bv ++ (rcells s v).drop (3 + 32) = rcells { s with bh := h } v := part_put [.int .i64 s.bn, .int .i64 s.an, .int .i64 s.last] (s.bh.map bv) (s.ah.map bv ++ (s.hd.map bv ++ [v])) _ (by simp [rcells]) rfl (by simp [ok.b]) (by simp [rcells])
end
end Go.Proofs.YtmnaalpjhkkglaaGreatDoor

/-
  The reference's chain: adding, letting go; a deed on both.
-/
set_option linter.all false
set_option maxRecDepth 10000
namespace Go.Proofs.YtmnaalpjhkkglaaGreatDoor
open Go Hold
variable {E : World0} {w : World} {H R X : HP} {K : Value → World → Prop}
end Go.Proofs.YtmnaalpjhkkglaaGreatDoor
