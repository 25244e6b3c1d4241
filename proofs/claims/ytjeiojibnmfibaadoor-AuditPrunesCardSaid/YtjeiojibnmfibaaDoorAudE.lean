/-
  A chain's points, one behind the other; whether the events are those of the chain.
-/
import Derived.Test.YtjeiojibnmfibaaDoorAudD
set_option linter.all false
set_option maxRecDepth 10000
namespace Go.Proofs.YtjeiojibnmfibaaDoor
open Go Hold
variable {E : World0} {w : World} {H R : HP} {K : Value → World → Prop}
def links (h : List UInt8) (l : List Evt) : List UInt8 := l.foldl nx h
theorem links_length : ∀ (l : List Evt) {h : List UInt8}, h.length = 32 → (links h l).length = 32
  | [], h, hh => hh
  | x :: l, h, hh => links_length l (nx_length h x)
theorem links_snoc {h : List UInt8} {l : List Evt} {i : Nat} (hi : i < l.length) : links h (l.take (i + 1)) = nx (links h (l.take i)) (l[i]'hi) := by
  unfold links
  rw [List.take_succ_eq_append_getElem hi, List.foldl_append]
  rfl
theorem ldw_part {t n b o e : Nat} {xs : List Value} {fr : Nat × Nat} [i : AggC prog t n] (hb : w.heap[b]? = some (.cells xs.toArray e fr)) (ys : List Value) (hn : ys.length = n) (hy : (xs.drop o).take n = ys) (k : K (.agg ys.toArray) w) :
    ldv prog (Instr.loadAt t (.pointer (some ⟨b, o, none⟩))) w K := ldv_of (run_loadN hn fun j v hj => cell_of hb (by simpa using take_cell hy hj)) k
theorem ldw_cell {t b o e : Nat} {xs : List Value} {fr : Nat × Nat} {v : Value} [i : OneC prog t] (hb : w.heap[b]? = some (.cells xs.toArray e fr)) (hv : xs[o]? = some v) (k : K v w) :
    ldv prog (Instr.loadAt t (.pointer (some ⟨b, o, none⟩))) w K := ld_cell (cell_of hb (by simpa using hv)) k
theorem res_one {P : Program} (h : sat E w H) {t b e : Nat} {xs : List Value} {v : Value} [i : OneC P t] [hb : Has H b (.cells xs.toArray e (0, 0))] (hv : xs[0]? = some v) (k : K v w) :
    ∃ r, (do loadVar t (← asAddr (.pointer (some ⟨b, 0, none⟩)))).run P w = .ok r w ∧ K r w := by
  refine ⟨_, ?_, k⟩
  have := run_load1 (P := P) (w := w) (t := t) (a := ⟨b, 0, none⟩) (v := v) (cell_of (hb.get h) (by simpa using hv))
  simpa [Instr.loadAt, Instr.sureAddr, asAddr] using this
def pc (s : Ch) (i : Nat) : List Value := .int .i64 (s.bn + i) :: (links s.bh (s.l.take i)).map bv
section
variable {s : Ch} {m : Nat}
theorem pc_length (ok : Ok s m) (i : Nat) : (pc s i).length = 33 := by simp [pc, links_length _ ok.b]
theorem pc_one (s : Ch) (i : Nat) : ∀ x ∈ pc s i, x.oneCell' = true := by
  intro x hx
  rcases List.mem_cons.1 hx with rfl | hx
  · rfl
  · exact bv_one _ x hx
theorem pc_zero (s : Ch) : pc s 0 = .int .i64 s.bn :: s.bh.map bv := by simp [pc, links]
theorem pc_hash (ok : Ok s m) (i : Nat) : ((pc s i).drop 1).take 32 = (links s.bh (s.l.take i)).map bv := by
  unfold pc
  rw [List.drop_succ_cons, List.drop_zero, List.take_of_length_le (by simp [links_length _ ok.b])]
end
def z57 : List Value := .int .i64 0 :: zeros32.map bv
theorem Links_spec {p c0 m : Nat} {s : Ch} {v y : Value} (ok : Ok s m) (hm : m ≤ 1000000000000000) (G : Nat → HP) (Z : HP) (h : sat E w (G 0))
    (hG0 : ∀ i {w : World}, sat E w (G i) → w.heap[c0]? = some (.cells [Value.pointer (some ⟨p, 0, none⟩)].toArray 23 (0, 0)))
    (hG1 : ∀ i {w : World}, sat E w (G i) → w.heap[p]? = some (.cells (icells s v).toArray 59 (0, 0)))
    (hGv : ∀ i, Rds (G i) v s.l.length (evs s.l)) (hGd : ∀ i, Dbt (G i))
    (hy : ∀ (F : HP) (i : Nat), i ≤ s.l.length → ∀ (w : World) (K' : Value → World → Prop), sat E w (F * G i) → (∀ w', sat E w' (F * G (i + 1)) → K' (.bool true) w') → (∀ w', sat E w' (F * Z) → K' (.bool false) w') → ef prog (oCall y #[.agg (pc s i).toArray]) w K')
    (k1 : ∀ w', sat E w' (G (s.l.length + 1)) → K (.tuple #[]) w') (k2 : ∀ w', sat E w' Z → K (.tuple #[]) w') : Calls prog 47 #[y, .pointer (some ⟨c0, 0, none⟩)] w (Ret K) := by
  have := ok.few; have := ok.top; have := ok.b0
  obtain ⟨a, c, rfl, hc, _, _⟩ := (hGv 0).shape h
  refine c47 ?_
  unfold B47
  refine ldw_cell (hG0 0 h) (v := .pointer (some ⟨p, 0, none⟩)) rfl ?_
  try simp only [↓o_nil, ↓o_field, ↓o_add, ↓o_sub, ↓o_mul, ↓o_lss, ↓o_leq, ↓o_gtr, ↓o_geq, ↓o_not, ↓o_pick, ↓o_eqInt, ↓o_neInt, ↓o_eqBool, ↓o_neBool, ↓o_eqPtr, ↓o_nePtr, ↓o_eqPtr', ↓o_eqSl, ↓o_neSl, ↓o_eqStr, ↓o_neStr, ↓o_len, ↓o_lenS, ↓o_min, ↓o_max, ↓o_extract, ↓o_convInt, ↓cd_true, ↓cd_false, ↓gate_tt, ↓gate_ff, ↓gate_tf, ↓gate_ft, ↓gate_undef, ↓o_bind, ↓stay_v, ↓pop_cons, ↓fin_nil, Option.isNone_none, Option.isNone_some, Bool.not_true, Bool.not_false, Nat.zero_add, decide_true, decide_false, if_true, if_false, Bool.false_eq_true, ↓reduceIte]
  refine ldw_part (hG1 0 h) (pc s 0) (pc_length ok 0) (by rw [pc_zero]; exact ic_base ok) ?_
  refine alloc_sl h fun q w h => ?_
  have h : sat E w (pts q (.cells z57.toArray 57 (0, 0)) * G 0) := h
  refine store_all (b := q) h (xs := z57) (vs := pc s 0) rfl (pc_length ok 0) (pc_one s 0) fun w h => ?_
  refine ld_agg (b := q) h (pc_length ok 0) ?_
  refine hy _ 0 (by omega) w _ h (fun w h => ?_) (fun w h => ?_)
  · simp only [↓o_nil, ↓o_field, ↓o_add, ↓o_sub, ↓o_mul, ↓o_lss, ↓o_leq, ↓o_gtr, ↓o_geq, ↓o_not, ↓o_pick, ↓o_eqInt, ↓o_neInt, ↓o_eqBool, ↓o_neBool, ↓o_eqPtr, ↓o_nePtr, ↓o_eqPtr', ↓o_eqSl, ↓o_neSl, ↓o_eqStr, ↓o_neStr, ↓o_len, ↓o_lenS, ↓o_min, ↓o_max, ↓o_extract, ↓o_convInt, ↓cd_true, ↓cd_false, ↓gate_tt, ↓gate_ff, ↓gate_tf, ↓gate_ft, ↓gate_undef, ↓o_bind, ↓stay_v, ↓pop_cons, ↓fin_nil, Option.isNone_none, Option.isNone_some, Bool.not_true, Bool.not_false, Nat.zero_add, decide_true, decide_false, if_true, if_false, Bool.false_eq_true, ↓reduceIte]
    refine ldw_cell (hG0 1 h.drop) (v := .pointer (some ⟨p, 0, none⟩)) rfl ?_
    try simp only [↓o_nil, ↓o_field, ↓o_add, ↓o_sub, ↓o_mul, ↓o_lss, ↓o_leq, ↓o_gtr, ↓o_geq, ↓o_not, ↓o_pick, ↓o_eqInt, ↓o_neInt, ↓o_eqBool, ↓o_neBool, ↓o_eqPtr, ↓o_nePtr, ↓o_eqPtr', ↓o_eqSl, ↓o_neSl, ↓o_eqStr, ↓o_neStr, ↓o_len, ↓o_lenS, ↓o_min, ↓o_max, ↓o_extract, ↓o_convInt, ↓cd_true, ↓cd_false, ↓gate_tt, ↓gate_ff, ↓gate_tf, ↓gate_ft, ↓gate_undef, ↓o_bind, ↓stay_v, ↓pop_cons, ↓fin_nil, Option.isNone_none, Option.isNone_some, Bool.not_true, Bool.not_false, Nat.zero_add, decide_true, decide_false, if_true, if_false, Bool.false_eq_true, ↓reduceIte]
    refine ldw_cell (hG1 1 h.drop) (v := .slice a s.l.length c) (ic_l ok) ?_
    rw [o_len]
    refine lp_nat (fun q' σ w => ∃ j : Nat, σ = [.int .i64 (j : Int)] ∧ q' = s.l.length - j ∧ j ≤ s.l.length ∧ sat E w (pts q (.cells (pc s j).toArray 57 (0, 0)) * G (j + 1))) s.l.length ⟨0, rfl, by omega, by omega, h⟩ ?_
    clear h
    rintro q' σ w again ⟨j, rfl, rfl, hj, h⟩ hag
    rw [pop_cons, fin_nil, o_lss]
    refine cd_dec (fun hlt => ?_) (fun hge => ?_)
    · have hj2 : j < s.l.length := by omega
      obtain ⟨b, o, c', e, hc', hrd⟩ := (hGv (j + 1)).opened h.drop (by rw [evs_length]; omega)
      cases e
      rw [o_index (by omega) (by omega)]
      refine ld_el h (hrd.right) (j * 4) (by simp) (ecells s.l[j]) rfl (evs_at (by simp [hj2])) ?_
      refine alloc_sl h fun x w h => ?_
      have h : sat E w (pts x (.cells (ecells zeroE).toArray 34 (0, 0)) * (pts q (.cells (pc s j).toArray 57 (0, 0)) * G (j + 1))) := h
      refine store_all (b := x) h (xs := ecells zeroE) (vs := ecells s.l[j]) rfl rfl (ecells_one _) fun w h => ?_
      refine dr_sl h fun w h _ => ?_
      try simp only [↓o_nil, ↓o_field, ↓o_add, ↓o_sub, ↓o_mul, ↓o_lss, ↓o_leq, ↓o_gtr, ↓o_geq, ↓o_not, ↓o_pick, ↓o_eqInt, ↓o_neInt, ↓o_eqBool, ↓o_neBool, ↓o_eqPtr, ↓o_nePtr, ↓o_eqPtr', ↓o_eqSl, ↓o_neSl, ↓o_eqStr, ↓o_neStr, ↓o_len, ↓o_lenS, ↓o_min, ↓o_max, ↓o_extract, ↓o_convInt, ↓cd_true, ↓cd_false, ↓gate_tt, ↓gate_ff, ↓gate_tf, ↓gate_ft, ↓gate_undef, ↓o_bind, ↓stay_v, ↓pop_cons, ↓fin_nil, Option.isNone_none, Option.isNone_some, Bool.not_true, Bool.not_false, Nat.zero_add, decide_true, decide_false, if_true, if_false, Bool.false_eq_true, ↓reduceIte]
      refine ld_in (b := q) (v := .int .i64 (s.bn + j)) h rfl ?_
      rw [o_add, i64_of (by omega) (by omega)]
      refine ld_part (b := q) h ((links s.bh (s.l.take j)).map bv) (by simp [links_length _ ok.b]) (pc_hash ok j) ?_
      refine ld_agg (b := x) (xs := ecells s.l[j]) h rfl ?_
      refine next_spec h (hGd (j + 1)).right.right (links_length _ ok.b) fun w h => ?_
      refine st_in (b := q) (v := .int .i64 (s.bn + j)) h rfl ?_
      rw [← links_snoc hj2]
      refine build57 (links_length _ ok.b) ?_
      have e2 : (.int .i64 (s.bn + (j : Int) + 1) :: (links s.bh (s.l.take (j + 1))).map bv : List Value) = pc s (j + 1) := by
        unfold pc; congr 2; omega
      rw [e2]
      refine store_all (b := q) h (xs := pc s j) (vs := pc s (j + 1)) (pc_length ok _) (pc_length ok _) (pc_one s _) fun w h => ?_
      have h := h.lose x
      refine ld_agg (b := q) h (pc_length ok _) ?_
      refine hy _ (j + 1) (by omega) w _ h (fun w h => ?_) (fun w h => ?_)
      · simp only [↓o_nil, ↓o_field, ↓o_add, ↓o_sub, ↓o_mul, ↓o_lss, ↓o_leq, ↓o_gtr, ↓o_geq, ↓o_not, ↓o_pick, ↓o_eqInt, ↓o_neInt, ↓o_eqBool, ↓o_neBool, ↓o_eqPtr, ↓o_nePtr, ↓o_eqPtr', ↓o_eqSl, ↓o_neSl, ↓o_eqStr, ↓o_neStr, ↓o_len, ↓o_lenS, ↓o_min, ↓o_max, ↓o_extract, ↓o_convInt, ↓cd_true, ↓cd_false, ↓gate_tt, ↓gate_ff, ↓gate_tf, ↓gate_ft, ↓gate_undef, ↓o_bind, ↓stay_v, ↓pop_cons, ↓fin_nil, Option.isNone_none, Option.isNone_some, Bool.not_true, Bool.not_false, Nat.zero_add, decide_true, decide_false, if_true, if_false, Bool.false_eq_true, ↓reduceIte]
        rw [i64_of (by omega) (by omega)]
        exact hag (s.l.length - (j + 1)) _ _ (by omega) ⟨j + 1, rfl, rfl, by omega, h⟩
      · simp only [↓o_nil, ↓o_field, ↓o_add, ↓o_sub, ↓o_mul, ↓o_lss, ↓o_leq, ↓o_gtr, ↓o_geq, ↓o_not, ↓o_pick, ↓o_eqInt, ↓o_neInt, ↓o_eqBool, ↓o_neBool, ↓o_eqPtr, ↓o_nePtr, ↓o_eqPtr', ↓o_eqSl, ↓o_neSl, ↓o_eqStr, ↓o_neStr, ↓o_len, ↓o_lenS, ↓o_min, ↓o_max, ↓o_extract, ↓o_convInt, ↓cd_true, ↓cd_false, ↓gate_tt, ↓gate_ff, ↓gate_tf, ↓gate_ft, ↓gate_undef, ↓o_bind, ↓stay_v, ↓pop_cons, ↓fin_nil, Option.isNone_none, Option.isNone_some, Bool.not_true, Bool.not_false, Nat.zero_add, decide_true, decide_false, if_true, if_false, Bool.false_eq_true, ↓reduceIte]
        exact k2 _ h.drop
    · have hj2 : j = s.l.length := by omega
      subst hj2
      exact k1 _ h.drop
  · simp only [↓o_nil, ↓o_field, ↓o_add, ↓o_sub, ↓o_mul, ↓o_lss, ↓o_leq, ↓o_gtr, ↓o_geq, ↓o_not, ↓o_pick, ↓o_eqInt, ↓o_neInt, ↓o_eqBool, ↓o_neBool, ↓o_eqPtr, ↓o_nePtr, ↓o_eqPtr', ↓o_eqSl, ↓o_neSl, ↓o_eqStr, ↓o_neStr, ↓o_len, ↓o_lenS, ↓o_min, ↓o_max, ↓o_extract, ↓o_convInt, ↓cd_true, ↓cd_false, ↓gate_tt, ↓gate_ff, ↓gate_tf, ↓gate_ft, ↓gate_undef, ↓o_bind, ↓stay_v, ↓pop_cons, ↓fin_nil, Option.isNone_none, Option.isNone_some, Bool.not_true, Bool.not_false, Nat.zero_add, decide_true, decide_false, if_true, if_false, Bool.false_eq_true, ↓reduceIte]
    exact k2 _ h.drop
end Go.Proofs.YtjeiojibnmfibaaDoor
