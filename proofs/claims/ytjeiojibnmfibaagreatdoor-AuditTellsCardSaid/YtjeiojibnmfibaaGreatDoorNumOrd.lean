/-
  A chain's rows.
-/
import Derived.Test.YtjeiojibnmfibaaGreatDoorAudU
import Derived.Test.YtjeiojibnmfibaaGreatDoorPar
import Derived.Test.YtjeiojibnmfibaaGreatDoorPB
import Derived.Test.YtjeiojibnmfibaaGreatDoorStructs
import Derived.Test.YtjeiojibnmfibaaGreatDoorHshL
set_option linter.all false
set_option maxRecDepth 10000
namespace Go.Proofs.YtjeiojibnmfibaaGreatDoor
open Go Hold
variable {E : World0} {w : World} {H R : HP} {K : Value → World → Prop}
/-- A row: its key, its columns, and the slice that they lie in. -/
structure RV where
  key : List UInt8
  v : Value
  cols : List (List UInt8)
def rvc (x : RV) : List Value := [tv x.key, x.v]
def RV.said (x : RV) : List UInt8 × List (List UInt8) := (x.key, x.cols)
def rvs (l : List RV) : List Value := l.flatMap rvc
/-- All columns stay. -/
def colsP (l : List RV) : PP := ⟨fun I => ∀ x ∈ l, RdS I x.v x.cols.length (x.cols.map tv), fun hI h x hx => (h x hx).mono hI⟩
theorem rvs_length (l : List RV) : (rvs l).length = l.length * 2 := fm_length (k := 2) (fun _ => rfl) l
theorem rvs_at {l : List RV} {i : Nat} {x : RV} (h : l[i]? = some x) : ((rvs l).drop (i * 2)).take 2 = rvc x := fm_at (k := 2) (fun _ => rfl) h
theorem rvs_append (a b : List RV) : rvs (a ++ b) = rvs a ++ rvs b := by simp [rvs]
theorem rds_one {v : Value} {n : Nat} {xs : List Value} {J : Hp} (h : RdS J v n xs) : v.oneCell' = true := by obtain ⟨_, _, rfl, _⟩ := h; rfl
theorem rvs_one {l : List RV} {J : Hp} (h : (colsP l).p J) : ∀ x ∈ rvs l, x.oneCell' = true := by
  intro x hx
  obtain ⟨y, hy, hm⟩ := List.mem_flatMap.1 hx
  simp [rvc] at hm
  rcases hm with rfl | rfl
  · rfl
  · exact rds_one (h y hy)
theorem colsP_append {a b : List RV} {I : Hp} (h1 : (colsP a).p I) (h2 : (colsP b).p I) : (colsP (a ++ b)).p I := fun x hx => by
  rcases List.mem_append.1 hx with hx | hx
  · exact h1 x hx
  · exact h2 x hx
def evRow (x : Evt) : List UInt8 × List (List UInt8) := (110 :: numT x.n, [numT x.t, x.what, x.who])
def heads (s : Ch) : List (List UInt8 × List (List UInt8)) := [([35], [numT s.bn, numT s.an, numT s.last]), ([97], [s.ah]), ([98], [s.bh]), ([104], [s.hd])]
def rowsOf (s : Ch) : List (List UInt8 × List (List UInt8)) := heads s ++ s.l.map evRow
theorem win_part {b e o n : Nat} {xs ys : List Value} {fr : Nat × Nat} (h : w.heap[b]? = some (.cells xs.toArray e fr)) (hy : (xs.drop o).take n = ys) (c : Nat) (hn : ys.length = n) (hc : n ≤ c) : RdS (hp w) (.slice (some ⟨b, o, none⟩) n c) n ys :=
  ⟨_, c, rfl, hc, .inr ⟨b, o, _, e, fr, rfl, h, fun j v hj => by simpa using take_cell hy hj⟩⟩
/-- What is known of the slots of the rows' heads. -/
def φI (s : Ch) : Nat → Value → PP
  | 0, v => ppOf (v = tv (numT s.bn))
  | 4, v => ppOf (v = tv (numT s.an))
  | 5, v => ppOf (v = tv (numT s.last))
  | 1, v => ppOf (v = tv s.ah)
  | 2, v => ppOf (v = tv s.bh)
  | 3, v => ppOf (v = tv s.hd)
  | 6, v => immS v 3 ([numT s.bn, numT s.an, numT s.last].map tv)
  | 8, v => immS v 1 ([s.ah].map tv)
  | 10, v => immS v 1 ([s.bh].map tv)
  | 12, v => immS v 1 ([s.hd].map tv)
  | 7, v => ⟨fun I => ∃ u, v = .agg (rvc ⟨[35], u, [numT s.bn, numT s.an, numT s.last]⟩).toArray ∧ RdS I u 3 ([numT s.bn, numT s.an, numT s.last].map tv), fun hI ⟨u, h1, h2⟩ => ⟨u, h1, h2.mono hI⟩⟩
  | 9, v => ⟨fun I => ∃ u, v = .agg (rvc ⟨[97], u, [s.ah]⟩).toArray ∧ RdS I u 1 ([s.ah].map tv), fun hI ⟨u, h1, h2⟩ => ⟨u, h1, h2.mono hI⟩⟩
  | 11, v => ⟨fun I => ∃ u, v = .agg (rvc ⟨[98], u, [s.bh]⟩).toArray ∧ RdS I u 1 ([s.bh].map tv), fun hI ⟨u, h1, h2⟩ => ⟨u, h1, h2.mono hI⟩⟩
  | 13, v => ⟨fun I => ∃ u, v = .agg (rvc ⟨[104], u, [s.hd]⟩).toArray ∧ RdS I u 1 ([s.hd].map tv), fun hI ⟨u, h1, h2⟩ => ⟨u, h1, h2.mono hI⟩⟩
  | _, _ => ppOf True
theorem ic_bh {s : Ch} {v : Value} {m : Nat} (ok : Ok s m) : ((icells s v).drop 1).take 32 = s.bh.map bv := part_at [.int .i64 s.bn] _ (.int .i64 s.an :: (s.ah.map bv ++ (s.hd.map bv ++ [.int .i64 s.last, v]))) (by simp [icells]) rfl (by simp [ok.b])
theorem numT_length (n : Int) : (numT n).length ≤ 17 := by
  unfold numT number
  split
  · simp
  · have := hexs_length 16 n.toNat (by show n.toNat < 16 ^ 16; omega)
    simp only [numText, List.length_cons]
    omega
theorem said_take {l : List Evt} {j : Nat} {hs : List (List UInt8 × List (List UInt8))} {r : List RV} {x : RV} (h : r.map RV.said = hs ++ (l.take j).map evRow) (hj : j < l.length) (hx : x.said = evRow l[j]) : (r ++ [x]).map RV.said = hs ++ (l.take (j + 1)).map evRow := by
  rw [List.map_append, h, List.take_succ_eq_append_getElem hj, List.map_append, List.map_singleton, List.map_singleton, hx, List.append_assoc]
end Go.Proofs.YtjeiojibnmfibaaGreatDoor

/-
  copy, of a text's bytes into a row of cells.
-/
set_option linter.all false
set_option maxRecDepth 100000
namespace Hold
open Go
variable {P : Program} {E : World0} {w : World} {H R : HP} {K : Value → World → Prop}
theorem bv_list (l : List UInt8) : ((l.toArray.map fun b : UInt8 => Value.int .u8 b.toNat)).toList = l.map bv := by simp [bv]
theorem copy_text (h : sat E w H) {t u ty e e' m : TypeId} {z : Value} [i : SliceT P t e 1 m z] {cs : Array Bool} {b o c : Nat} {xs : List Value} {l : List UInt8} [s : Own H b (.cells xs.toArray e' (0, 0)) R]
    (hle : o + l.length ≤ xs.length) (k : ∀ w', sat E w' (pts b (.cells (xs.take o ++ l.map bv ++ xs.drop (o + l.length)).toArray e' (0, 0)) * R) → K (.int .i64 l.length) w') :
    ef P (oBi .copy #[t, u] ty cs #[.slice (some ⟨b, o, none⟩) l.length c, tv l]) w K := by
  have hs' := h.own b
  have hbl := hs'.pts_get
  have hst := run_storeCells_at P b o e' (l.map bv) 0 xs.toArray w hbl (by simpa using hle) (by intro v hv; obtain ⟨_, _, rfl⟩ := List.mem_map.1 hv; rfl)
  have hsz : (⟨l.toArray⟩ : ByteArray).size = l.length := by simp [ByteArray.size]
  have hex : ((⟨l.toArray⟩ : ByteArray).extract 0 l.length) = ⟨l.toArray⟩ := by
    have := ByteArray.extract_zero_size (b := ⟨l.toArray⟩)
    rwa [hsz] at this
  have hr : (Builtin.copy_ #[t, u] ty #[.slice (some ⟨b, o, none⟩) l.length c, tv l]).run P w = .ok (goInt l.length) (w.setRow b (xs.toArray.toList.take o ++ l.map bv ++ xs.toArray.toList.drop (o + l.length)).toArray) := by
    simp only [Nat.add_zero, List.length_map] at hst
    have hbl2 := bv_list l
    simp [Builtin.copy_, run_underlying i.ul, Builtin.lenOf, Builtin.firstCells, run_sizeOf' i.size, tv, hsz, hex, hst]
    have e1 : List.take l.length (List.map (fun b : UInt8 => Value.int IntKind.u8 (b.toNat : Int)) l) = l.map bv := by
      rw [List.take_of_length_le (by simp)]
      rfl
    rw [e1]
    simp [hst]
  rw [setRow_putObj hbl] at hr
  have ef_bi : ∀ {v' w'}, (Builtin.copy_ #[t, u] ty #[.slice (some ⟨b, o, none⟩) l.length c, tv l]).run P w = .ok v' w' → K v' w' → ef P (oBi .copy #[t, u] ty cs #[.slice (some ⟨b, o, none⟩) l.length c, tv l]) w K := fun hr hk =>
    ef_of (by simp [oBi, builtin, hr]) hk
  exact ef_bi hr (k _ (hs'.set _))
end Hold

/-
  Numbers read out of a row; a hash taken out of one.
-/
set_option linter.all false
set_option maxRecDepth 100000
namespace Go.Proofs.YtjeiojibnmfibaaGreatDoor
open Go Hold
variable {E : World0} {w : World} {H R : HP} {K : Value → World → Prop}
theorem read_spec (G : Nat → HP) {v u : Value} {ns : List Nat} {ps : List Addr} (hl : ns.length ≤ 1000) (hn : ∀ n ∈ ns, n ≤ 4611686018427387904) (hps : ps.length = ns.length) (h : sat E w (G 0 * R))
    (hv : Rds R v ns.length (ns.map fun n => tv (numText n))) (hu : Rds R u ns.length (ps.map fun a => Value.pointer (some a)))
    (hst : ∀ (i n : Nat) (a : Addr) (w : World) (K' : Value → World → Prop), ns[i]? = some n → ps[i]? = some a → sat E w (G i * R) → (∀ w', sat E w' (G (i + 1) * R) → K' undef w') → efu prog (Instr.storeAt 3 (.pointer (some a)) (.int .i64 (n : Int))) w K')
    (k : ∀ w', sat E w' (G ns.length * R) → K (.bool true) w') : Calls prog 26 #[v, u] w (Ret K) := by
  obtain ⟨va, vc, rfl, hvc, hv, _⟩ := hv.shape h.drop
  obtain ⟨ua, uc, rfl, huc, hu, _⟩ := hu.shape h.drop
  refine c26 ?_
  unfold B26
  rw [o_len, o_len, o_neInt, show (!decide ((ns.length : Int) = ns.length)) = false by simp, cd_false, o_len]
  refine lp_nat (fun r σ w => ∃ i : Nat, σ = [.int .i64 (i : Int)] ∧ r = ns.length - i ∧ i ≤ ns.length ∧ sat E w (G i * R)) ns.length ⟨0, rfl, rfl, by omega, h⟩ ?_
  clear h
  rintro r σ w again ⟨i, rfl, rfl, hi, h⟩ hag
  rw [pop_cons, fin_nil, o_lss]
  refine cd_dec (fun hlt => ?_) (fun hge => ?_)
  · have hi1 : i < ns.length := by omega
    have hx : ns[i]? = some ns[i] := List.getElem?_eq_getElem hi1
    have hm : ns[i] ∈ ns := List.getElem_mem hi1
    generalize ns[i] = n at hx hm
    have hi2 : i < ps.length := by omega
    have hy : ps[i]? = some ps[i] := List.getElem?_eq_getElem hi2
    generalize ps[i] = a at hy
    obtain ⟨b1, o1, _, e1, _, hv1⟩ := hv.opened h.drop (by simp; omega)
    cases e1
    obtain ⟨b2, o2, _, e2, _, hu1⟩ := hu.opened h.drop (by simp; omega)
    cases e2
    rw [o_index (by omega) (by omega)]
    refine ld_rd h hv1.right i (by simp) (v := tv (numText n)) (by rw [List.getElem?_map, hx]; rfl) ?_
    have hnl : (numText n).length ≤ 17 := by
      have := hexs_length 16 n (by have := hn n hm; show n < 16 ^ 16; omega)
      simp only [numText, List.length_cons]
      omega
    refine ToNumber_spec h (by omega) fun w h => ?_
    rw [toNum_text (hn n hm), o_extract, o_extract, o_neInt, show (!decide ((0 : Int) = 0)) = false from rfl, cd_false, o_index (by omega) (by omega)]
    refine ld_rd h hu1.right i (by simp) (v := .pointer (some a)) (by rw [List.getElem?_map, hy]; rfl) ?_
    rw [o_nil]
    refine hst i n a w _ hx hy h fun w h => ?_
    try rw [o_add]
    rw [i64_of (by omega) (by omega)]
    exact hag (ns.length - (i + 1)) _ _ (by omega) ⟨i + 1, rfl, rfl, by omega, h⟩
  · have hi2 : i = ns.length := by omega
    subst hi2
    exact k w h
theorem take_spec {b o e' : Nat} {xs : List Value} {key l : List UInt8} {v : Value} [s : Own H b (.cells xs.toArray e' (0, 0)) R] (hl : l.length = 32) (h : sat E w H) (hv : Rds R v 1 [tv l]) (hle : o + 32 ≤ xs.length)
    (k : ∀ w', sat E w' (pts b (.cells (xs.take o ++ l.map bv ++ xs.drop (o + 32)).toArray e' (0, 0)) * R) → K (.bool true) w') : Calls prog 27 #[.agg (rvc ⟨key, v, [l]⟩).toArray, tv key, .pointer (some ⟨b, o, none⟩)] w (Ret K) := by
  have h := h.own b
  obtain ⟨va, vc, rfl, hvc, hv, _⟩ := (show Rds (pts b (.cells xs.toArray e' (0, 0)) * R) v 1 [tv l] from hv.right).shape h
  rename_i hv0
  obtain ⟨b1, o1, c1, e1, _, hv⟩ := hv.opened h (by simp)
  cases e1
  refine c27 ?_
  unfold B27
  refine box_sl h fun rb w h => ?_
  have h : sat E w (pts rb (.cells (rvc ⟨key, .slice (some ⟨b1, o1, none⟩) 1 vc, [l]⟩).toArray 35 (0, 0)) * (pts b (.cells xs.toArray e' (0, 0)) * R)) := h
  simp only [↓o_nil, ↓o_field, ↓o_add, ↓o_sub, ↓o_mul, ↓o_lss, ↓o_leq, ↓o_gtr, ↓o_geq, ↓o_not, ↓o_pick, ↓o_eqInt, ↓o_neInt, ↓o_eqBool, ↓o_neBool, ↓o_eqPtr, ↓o_nePtr, ↓o_eqPtr', ↓o_eqSl, ↓o_neSl, ↓o_eqStr, ↓o_neStr, ↓o_len, ↓o_lenS, ↓o_min, ↓o_max, ↓o_extract, ↓o_convInt, ↓cd_true, ↓cd_false, ↓gate_tt, ↓gate_ff, ↓gate_tf, ↓gate_ft, ↓gate_undef, ↓o_bind, ↓stay_v, ↓pop_cons, ↓fin_nil, Option.isNone_none, Option.isNone_some, Bool.not_true, Bool.not_false, Nat.zero_add, decide_true, decide_false, if_true, if_false, Bool.false_eq_true, ↓reduceIte]
  refine ld_in (b := rb) (v := tv key) h rfl ?_
  rw [o_neT, show (!decide (key = key)) = false by simp]
  try simp only [↓o_nil, ↓o_field, ↓o_add, ↓o_sub, ↓o_mul, ↓o_lss, ↓o_leq, ↓o_gtr, ↓o_geq, ↓o_not, ↓o_pick, ↓o_eqInt, ↓o_neInt, ↓o_eqBool, ↓o_neBool, ↓o_eqPtr, ↓o_nePtr, ↓o_eqPtr', ↓o_eqSl, ↓o_neSl, ↓o_eqStr, ↓o_neStr, ↓o_len, ↓o_lenS, ↓o_min, ↓o_max, ↓o_extract, ↓o_convInt, ↓cd_true, ↓cd_false, ↓gate_tt, ↓gate_ff, ↓gate_tf, ↓gate_ft, ↓gate_undef, ↓o_bind, ↓stay_v, ↓pop_cons, ↓fin_nil, Option.isNone_none, Option.isNone_some, Bool.not_true, Bool.not_false, Nat.zero_add, decide_true, decide_false, if_true, if_false, Bool.false_eq_true, ↓reduceIte]
  refine ld_in (b := rb) (v := .slice (some ⟨b1, o1, none⟩) 1 vc) h rfl ?_
  simp only [show decide (((1 : Nat) : Int) = 1) = true from rfl, ↓o_nil, ↓o_field, ↓o_add, ↓o_sub, ↓o_mul, ↓o_lss, ↓o_leq, ↓o_gtr, ↓o_geq, ↓o_not, ↓o_pick, ↓o_eqInt, ↓o_neInt, ↓o_eqBool, ↓o_neBool, ↓o_eqPtr, ↓o_nePtr, ↓o_eqPtr', ↓o_eqSl, ↓o_neSl, ↓o_eqStr, ↓o_neStr, ↓o_len, ↓o_lenS, ↓o_min, ↓o_max, ↓o_extract, ↓o_convInt, ↓cd_true, ↓cd_false, ↓gate_tt, ↓gate_ff, ↓gate_tf, ↓gate_ft, ↓gate_undef, ↓o_bind, ↓stay_v, ↓pop_cons, ↓fin_nil, Option.isNone_none, Option.isNone_some, Bool.not_true, Bool.not_false, Nat.zero_add, decide_true, decide_false, if_true, if_false, Bool.false_eq_true, ↓reduceIte]
  refine ld_in (b := rb) (v := .slice (some ⟨b1, o1, none⟩) 1 vc) h rfl ?_
  try simp only [↓o_nil, ↓o_field, ↓o_add, ↓o_sub, ↓o_mul, ↓o_lss, ↓o_leq, ↓o_gtr, ↓o_geq, ↓o_not, ↓o_pick, ↓o_eqInt, ↓o_neInt, ↓o_eqBool, ↓o_neBool, ↓o_eqPtr, ↓o_nePtr, ↓o_eqPtr', ↓o_eqSl, ↓o_neSl, ↓o_eqStr, ↓o_neStr, ↓o_len, ↓o_lenS, ↓o_min, ↓o_max, ↓o_extract, ↓o_convInt, ↓cd_true, ↓cd_false, ↓gate_tt, ↓gate_ff, ↓gate_tf, ↓gate_ft, ↓gate_undef, ↓o_bind, ↓stay_v, ↓pop_cons, ↓fin_nil, Option.isNone_none, Option.isNone_some, Bool.not_true, Bool.not_false, Nat.zero_add, decide_true, decide_false, if_true, if_false, Bool.false_eq_true, ↓reduceIte]
  rw [o_index (by decide) (by decide)]
  try simp only [↓o_nil, ↓o_field, ↓o_add, ↓o_sub, ↓o_mul, ↓o_lss, ↓o_leq, ↓o_gtr, ↓o_geq, ↓o_not, ↓o_pick, ↓o_eqInt, ↓o_neInt, ↓o_eqBool, ↓o_neBool, ↓o_eqPtr, ↓o_nePtr, ↓o_eqPtr', ↓o_eqSl, ↓o_neSl, ↓o_eqStr, ↓o_neStr, ↓o_len, ↓o_lenS, ↓o_min, ↓o_max, ↓o_extract, ↓o_convInt, ↓cd_true, ↓cd_false, ↓gate_tt, ↓gate_ff, ↓gate_tf, ↓gate_ft, ↓gate_undef, ↓o_bind, ↓stay_v, ↓pop_cons, ↓fin_nil, Option.isNone_none, Option.isNone_some, Bool.not_true, Bool.not_false, Nat.zero_add, decide_true, decide_false, if_true, if_false, Bool.false_eq_true, ↓reduceIte]
  refine ld_rd h hv.right 0 rfl (v := tv l) rfl ?_
  try simp only [↓o_lenT, ↓o_nil, ↓o_field, ↓o_add, ↓o_sub, ↓o_mul, ↓o_lss, ↓o_leq, ↓o_gtr, ↓o_geq, ↓o_not, ↓o_pick, ↓o_eqInt, ↓o_neInt, ↓o_eqBool, ↓o_neBool, ↓o_eqPtr, ↓o_nePtr, ↓o_eqPtr', ↓o_eqSl, ↓o_neSl, ↓o_eqStr, ↓o_neStr, ↓o_len, ↓o_lenS, ↓o_min, ↓o_max, ↓o_extract, ↓o_convInt, ↓cd_true, ↓cd_false, ↓gate_tt, ↓gate_ff, ↓gate_tf, ↓gate_ft, ↓gate_undef, ↓o_bind, ↓stay_v, ↓pop_cons, ↓fin_nil, Option.isNone_none, Option.isNone_some, Bool.not_true, Bool.not_false, Nat.zero_add, decide_true, decide_false, if_true, if_false, Bool.false_eq_true, ↓reduceIte]
  rw [show (!decide ((l.length : Int) = 32)) = false by simp [hl], cd_false]
  refine dr_sl h fun w h _ => ?_
  rw [o_sliceA]
  try simp only [↓o_nil, ↓o_field, ↓o_add, ↓o_sub, ↓o_mul, ↓o_lss, ↓o_leq, ↓o_gtr, ↓o_geq, ↓o_not, ↓o_pick, ↓o_eqInt, ↓o_neInt, ↓o_eqBool, ↓o_neBool, ↓o_eqPtr, ↓o_nePtr, ↓o_eqPtr', ↓o_eqSl, ↓o_neSl, ↓o_eqStr, ↓o_neStr, ↓o_len, ↓o_lenS, ↓o_min, ↓o_max, ↓o_extract, ↓o_convInt, ↓cd_true, ↓cd_false, ↓gate_tt, ↓gate_ff, ↓gate_tf, ↓gate_ft, ↓gate_undef, ↓o_bind, ↓stay_v, ↓pop_cons, ↓fin_nil, Option.isNone_none, Option.isNone_some, Bool.not_true, Bool.not_false, Nat.zero_add, decide_true, decide_false, if_true, if_false, Bool.false_eq_true, ↓reduceIte]
  refine ld_in (b := rb) (v := .slice (some ⟨b1, o1, none⟩) 1 vc) h rfl ?_
  rw [o_index (by decide) (by decide)]
  refine ld_rd h hv.right 0 rfl (v := tv l) rfl ?_
  have e32 : (Value.slice (some ⟨b, o, none⟩) 32 32) = .slice (some ⟨b, o, none⟩) l.length 32 := by rw [hl]
  rw [e32]
  refine copy_text (b := b) h (by omega) fun w h => ?_
  rw [hl] at h
  refine st_in (b := rb) (v := .slice (some ⟨b1, o1, none⟩) 1 vc) h rfl ?_
  exact k w (h.perm (show _ = pts rb (.cells (rvc ⟨key, .slice (some ⟨b1, o1, none⟩) 1 vc, [l]⟩).toArray 35 (0, 0)) * (pts b (.cells (xs.take o ++ l.map bv ++ xs.drop (o + 32)).toArray e' (0, 0)) * R) by ac_rfl)).drop
end Go.Proofs.YtjeiojibnmfibaaGreatDoor

/-
  A chain loaded from its own rows.
-/
set_option linter.all false
set_option maxRecDepth 100000
namespace Go.Proofs.YtjeiojibnmfibaaGreatDoor
open Go Hold
variable {E : World0} {w : World} {H R : HP} {K : Value → World → Prop}
structure Small (s : Ch) : Prop where
  l0 : 0 ≤ s.last
  l1 : s.last ≤ 1099511627776
  ev : ∀ x ∈ s.l, 0 ≤ x.t ∧ x.what.length ≤ 12 ∧ x.who.length ≤ 30
theorem small_new : Small newS := ⟨by simp [newS], by simp [newS], by simp [newS]⟩
theorem small_do {s : Ch} {x : Deed} (h : Small s) : Small (doS s x) := by
  unfold doS
  split
  · unfold addS
    split
    · exact h
    · split
      · exact h
      · split
        · exact h
        · split
          · exact h
          · refine ⟨by simp only; omega, by simp only; omega, fun y hy => ?_⟩
            rcases List.mem_append.1 hy with hy | hy
            · exact h.ev y hy
            · rw [List.mem_singleton.1 hy]
              exact ⟨by simp only [newE]; omega, by simp only [newE]; omega, by simp only [newE]; omega⟩
  · split
    · exact ⟨h.l0, h.l1, h.ev⟩
    · split
      · unfold pruneS
        split
        · exact h
        · exact ⟨h.l0, h.l1, fun y hy => h.ev y (List.mem_of_mem_drop hy)⟩
      · exact h
theorem numT_nat {n : Int} (h0 : 0 ≤ n) (h1 : n ≤ 4611686018427387904) : numT n = numText n.toNat := by
  unfold numT number
  rw [if_neg (by omega)]
theorem ip_bn {s : Ch} {v : Value} {n : Int} : (icells s v).set 0 (.int .i64 n) = icells { s with bn := n } v := rfl
theorem ip_an {s : Ch} {m : Nat} {v : Value} (ok : Ok s m) {n : Int} : (icells s v).set 33 (.int .i64 n) = icells { s with an := n } v := part_set (.int .i64 s.bn :: s.bh.map bv) (s.ah.map bv ++ (s.hd.map bv ++ [.int .i64 s.last, v])) (x := .int .i64 s.an) (by simp [icells]) (by simp [ok.b]) (by simp [icells])
structure Len3 (s : Ch) : Prop where
  b : s.bh.length = 32
  a : s.ah.length = 32
  h : s.hd.length = 32
theorem ip_an3 {s : Ch} {v : Value} (ok : Len3 s) {n : Int} : (icells s v).set 33 (.int .i64 n) = icells { s with an := n } v := part_set (.int .i64 s.bn :: s.bh.map bv) (s.ah.map bv ++ (s.hd.map bv ++ [.int .i64 s.last, v])) (x := .int .i64 s.an) (by simp [icells]) (by simp [ok.b]) (by simp [icells])
theorem ip_last3 {s : Ch} {v : Value} (ok : Len3 s) {t : Int} : (icells s v).set 98 (.int .i64 t) = icells { s with last := t } v := part_set (.int .i64 s.bn :: (s.bh.map bv ++ (.int .i64 s.an :: (s.ah.map bv ++ s.hd.map bv)))) [v] (x := .int .i64 s.last) (by simp [icells]) (by simp [ok.b, ok.a, ok.h]) (by simp [icells])
theorem ip_ah3 {s : Ch} {v : Value} (ok : Len3 s) {h : List UInt8} (_ : h.length = 32) : (icells s v).take 34 ++ h.map bv ++ (icells s v).drop (34 + 32) = icells { s with ah := h } v := part_put (.int .i64 s.bn :: (s.bh.map bv ++ [.int .i64 s.an])) (s.ah.map bv) (s.hd.map bv ++ [.int .i64 s.last, v]) _ (by simp [icells]) (by simp [ok.b]) (by simp [ok.a]) (by simp [icells])
theorem ip_bh3 {s : Ch} {v : Value} (ok : Len3 s) {h : List UInt8} (_ : h.length = 32) : (icells s v).take 1 ++ h.map bv ++ (icells s v).drop (1 + 32) = icells { s with bh := h } v := part_put [.int .i64 s.bn] (s.bh.map bv) (.int .i64 s.an :: (s.ah.map bv ++ (s.hd.map bv ++ [.int .i64 s.last, v]))) _ (by simp [icells]) rfl (by simp [ok.b]) (by simp [icells])
theorem ip_hd3 {s : Ch} {v : Value} (ok : Len3 s) {h : List UInt8} (_ : h.length = 32) : (icells s v).take 66 ++ h.map bv ++ (icells s v).drop (66 + 32) = icells { s with hd := h } v := part_put (.int .i64 s.bn :: (s.bh.map bv ++ (.int .i64 s.an :: s.ah.map bv))) (s.hd.map bv) [.int .i64 s.last, v] _ (by simp [icells]) (by simp [ok.b, ok.a]) (by simp [ok.h]) (by simp [icells])
theorem ic_an3 {s : Ch} {v : Value} (ok : Len3 s) : (icells s v)[33]? = some (.int .i64 s.an) := part_cell (.int .i64 s.bn :: s.bh.map bv) (s.ah.map bv ++ (s.hd.map bv ++ [.int .i64 s.last, v])) (by simp [icells]) (by simp [ok.b])
theorem ic_last3 {s : Ch} {v : Value} (ok : Len3 s) : (icells s v)[98]? = some (.int .i64 s.last) := part_cell (.int .i64 s.bn :: (s.bh.map bv ++ (.int .i64 s.an :: (s.ah.map bv ++ s.hd.map bv)))) [v] (by simp [icells]) (by simp [ok.b, ok.a, ok.h])
theorem ic_len3 {s : Ch} {v : Value} (ok : Len3 s) : (icells s v).length = 100 := by simp [icells, ok.b, ok.a, ok.h]
def chA (s : Ch) (bh ah hd : List UInt8) (l : List Evt) : Ch := ⟨s.bn, bh, s.an, ah, hd, s.last, l⟩
/-- The chain while it is loaded: with fresh numbers, hashes, events. -/
abbrev cI (p : Nat) (s : Ch) (v : Value) : HP := pts p (.cells (icells s v).toArray 52 (0, 0))
theorem said_row {l : List RV} {s : Ch} (hs : l.map RV.said = rowsOf s) {i : Nat} {y : List UInt8 × List (List UInt8)} (hy : (rowsOf s)[i]? = some y) : ∃ x, l[i]? = some x ∧ x.said = y := by
  rw [← hs, List.getElem?_map, Option.map_eq_some_iff] at hy
  obtain ⟨x, h1, h2⟩ := hy
  exact ⟨x, h1, h2⟩
theorem Load_spec {u : Value} {l : List RV} {s : Ch} {m : Nat} (ok : Ok s m) (hm : m ≤ 1000000) (sm : Small s) (rn : Risen s) (hd : Dbt R) (hs : l.map RV.said = rowsOf s) (h : sat E w (osl 35 2 u l.length (rvs l) * (pers (colsP l) * R)))
    (k : ∀ p v w', sat E w' (chI p s v (osl 35 2 u l.length (rvs l) * (pers (colsP l) * R))) → K (.tuple #[.pointer (some ⟨p, 0, none⟩), .int .i64 0]) w') : Calls prog 9 #[u] w (Ret K) := by
  have hlen : l.length = 4 + s.l.length := by
    have := congrArg List.length hs
    simp [rowsOf, heads] at this
    omega
  have hfew := ok.few
  obtain ⟨x0, hx0, s0⟩ := said_row hs (i := 0) rfl
  obtain ⟨x1, hx1, s1⟩ := said_row hs (i := 1) rfl
  obtain ⟨x2, hx2, s2⟩ := said_row hs (i := 2) rfl
  obtain ⟨x3, hx3, s3⟩ := said_row hs (i := 3) rfl
  obtain ⟨k0, v0, c0⟩ := x0
  obtain ⟨k1, v1, c1⟩ := x1
  obtain ⟨k2, v2, c2⟩ := x2
  obtain ⟨k3, v3, c3⟩ := x3
  simp only [RV.said, Prod.mk.injEq] at s0 s1 s2 s3
  obtain ⟨rfl, rfl⟩ := s0
  obtain ⟨rfl, rfl⟩ := s1
  obtain ⟨rfl, rfl⟩ := s2
  obtain ⟨rfl, rfl⟩ := s3
  obtain ⟨ua, uc, rfl, huc, _, hpos⟩ := osl_shape h
  obtain ⟨ub, hub⟩ := hpos (by omega)
  subst hub
  have hcols := (h.perm (star_left_comm _ _ _)).pers_get
  refine c9 ?_
  unfold B9
  refine New_spec h fun p w h => ?_
  refine dr_sl h fun w h _ => ?_
  have e35 : (.string ⟨#[35]⟩ : Value) = tv [35] := rfl
  rw [e35]
  rw [o_len]
  simp only [decide_eq_false (show ¬ (l.length : Int) < 4 by omega), decide_eq_false (show ¬ (68 : Int) < (l.length : Int) by omega), ↓o_nil, ↓o_field, ↓o_add, ↓o_sub, ↓o_mul, ↓o_lss, ↓o_leq, ↓o_gtr, ↓o_geq, ↓o_not, ↓o_pick, ↓o_eqInt, ↓o_neInt, ↓o_eqBool, ↓o_neBool, ↓o_eqPtr, ↓o_nePtr, ↓o_eqPtr', ↓o_eqSl, ↓o_neSl, ↓o_eqStr, ↓o_neStr, ↓o_len, ↓o_lenS, ↓o_min, ↓o_max, ↓o_extract, ↓o_convInt, ↓cd_true, ↓cd_false, ↓gate_tt, ↓gate_ff, ↓gate_tf, ↓gate_ft, ↓gate_undef, ↓o_bind, ↓stay_v, ↓pop_cons, ↓fin_nil, Option.isNone_none, Option.isNone_some, Bool.not_true, Bool.not_false, Nat.zero_add, decide_true, decide_false, if_true, if_false, Bool.false_eq_true, ↓reduceIte]
  have hrl : ∀ {X : HP}, Rds (X * (osl 35 2 (.slice (some ⟨ub, 0, none⟩) l.length uc) l.length (rvs l) * (pers (colsP l) * R))) (.slice (some ⟨ub, 0, none⟩) l.length uc) l.length (rvs l) := fun {X} => Rds.osl.left.right
  have ix : ∀ (i : Nat) {w : World} {K : Value → World → Prop}, i < l.length → pvv prog (Instr.indexAt 31 (.slice (some ⟨ub, 0, none⟩) l.length uc) (.int .i64 (i : Int))) w K = K (.pointer (some ⟨ub, 0 + i * 2, none⟩)) w := fun i {w K} hi => by
    rw [o_index (by omega) (by omega), Int.toNat_natCast]
  have ix0 : ∀ {w : World} {K : Value → World → Prop}, pvv prog (Instr.indexAt 31 (.slice (some ⟨ub, 0, none⟩) l.length uc) (.int .i64 0)) w K = K (.pointer (some ⟨ub, 0, none⟩)) w := fun {w K} => ix 0 (by omega)
  simp only [ix0, ↓o_nil, ↓o_field, ↓o_add, ↓o_sub, ↓o_mul, ↓o_lss, ↓o_leq, ↓o_gtr, ↓o_geq, ↓o_not, ↓o_pick, ↓o_eqInt, ↓o_neInt, ↓o_eqBool, ↓o_neBool, ↓o_eqPtr, ↓o_nePtr, ↓o_eqPtr', ↓o_eqSl, ↓o_neSl, ↓o_eqStr, ↓o_neStr, ↓o_len, ↓o_lenS, ↓o_min, ↓o_max, ↓o_extract, ↓o_convInt, ↓cd_true, ↓cd_false, ↓gate_tt, ↓gate_ff, ↓gate_tf, ↓gate_ft, ↓gate_undef, ↓o_bind, ↓stay_v, ↓pop_cons, ↓fin_nil, Option.isNone_none, Option.isNone_some, Bool.not_true, Bool.not_false, Nat.zero_add, decide_true, decide_false, if_true, if_false, Bool.false_eq_true, ↓reduceIte]
  have hcell : ∀ {i f : Nat} {x : RV} {val : Value}, l[i]? = some x → (rvc x)[f]? = some val → (rvs l)[i * 2 + f]? = some val := fun hx hf => take_cell (rvs_at hx) hf
  have hcol : ∀ {i : Nat} {x : RV}, l[i]? = some x → Rds (pers (colsP l)) x.v x.cols.length (x.cols.map tv) := fun hx E w hs => (hs.whole).pers_get _ (List.mem_of_getElem? hx)
  refine ld_rd h Rds.osl.left.right.right (0 * 2 + 0) rfl (hcell hx0 rfl) ?_
  rw [o_neT, show (!decide (([35] : List UInt8) = [35])) = false from rfl]
  simp only [ix0, ↓o_nil, ↓o_field, ↓o_add, ↓o_sub, ↓o_mul, ↓o_lss, ↓o_leq, ↓o_gtr, ↓o_geq, ↓o_not, ↓o_pick, ↓o_eqInt, ↓o_neInt, ↓o_eqBool, ↓o_neBool, ↓o_eqPtr, ↓o_nePtr, ↓o_eqPtr', ↓o_eqSl, ↓o_neSl, ↓o_eqStr, ↓o_neStr, ↓o_len, ↓o_lenS, ↓o_min, ↓o_max, ↓o_extract, ↓o_convInt, ↓cd_true, ↓cd_false, ↓gate_tt, ↓gate_ff, ↓gate_tf, ↓gate_ft, ↓gate_undef, ↓o_bind, ↓stay_v, ↓pop_cons, ↓fin_nil, Option.isNone_none, Option.isNone_some, Bool.not_true, Bool.not_false, Nat.zero_add, decide_true, decide_false, if_true, if_false, Bool.false_eq_true, ↓reduceIte]
  refine ld_rd h Rds.osl.left.right.right (0 * 2 + 1) rfl (hcell hx0 rfl) ?_
  simp only [↓o_nil, ↓o_field, ↓o_add, ↓o_sub, ↓o_mul, ↓o_lss, ↓o_leq, ↓o_gtr, ↓o_geq, ↓o_not, ↓o_pick, ↓o_eqInt, ↓o_neInt, ↓o_eqBool, ↓o_neBool, ↓o_eqPtr, ↓o_nePtr, ↓o_eqPtr', ↓o_eqSl, ↓o_neSl, ↓o_eqStr, ↓o_neStr, ↓o_len, ↓o_lenS, ↓o_min, ↓o_max, ↓o_extract, ↓o_convInt, ↓cd_true, ↓cd_false, ↓gate_tt, ↓gate_ff, ↓gate_tf, ↓gate_ft, ↓gate_undef, ↓o_bind, ↓stay_v, ↓pop_cons, ↓fin_nil, Option.isNone_none, Option.isNone_some, Bool.not_true, Bool.not_false, Nat.zero_add, decide_true, decide_false, if_true, if_false, Bool.false_eq_true, ↓reduceIte]
  refine buildSlice_sl (e := 67) (cs := #[.pointer (some ⟨p, 0, none⟩), .pointer (some ⟨p, 33, none⟩), .pointer (some ⟨p, 98, none⟩)]) h (fun w => by kernel_rfl) fun b5 w h => ?_
  try simp only [↓o_nil, ↓o_field, ↓o_add, ↓o_sub, ↓o_mul, ↓o_lss, ↓o_leq, ↓o_gtr, ↓o_geq, ↓o_not, ↓o_pick, ↓o_eqInt, ↓o_neInt, ↓o_eqBool, ↓o_neBool, ↓o_eqPtr, ↓o_nePtr, ↓o_eqPtr', ↓o_eqSl, ↓o_neSl, ↓o_eqStr, ↓o_neStr, ↓o_len, ↓o_lenS, ↓o_min, ↓o_max, ↓o_extract, ↓o_convInt, ↓cd_true, ↓cd_false, ↓gate_tt, ↓gate_ff, ↓gate_tf, ↓gate_ft, ↓gate_undef, ↓o_bind, ↓stay_v, ↓pop_cons, ↓fin_nil, Option.isNone_none, Option.isNone_some, Bool.not_true, Bool.not_false, Nat.zero_add, decide_true, decide_false, if_true, if_false, Bool.false_eq_true, ↓reduceIte]
  have hb0 := ok.b0
  have ha0 := ok.a0
  have hle := ok.le
  have htop := ok.top
  have hl0 := sm.l0
  have hl1 := sm.l1
  have stk : ∀ {w : World} {X : HP} {g : Gd} {A : Prop}, sat E w (X * (osl 35 2 (.slice (some ⟨ub, 0, none⟩) l.length uc) l.length (rvs l) * (pers (colsP l) * R))) → A → stv prog g (Instr.loadAt 9 (.pointer (some ⟨ub, 0, none⟩))) (tv [35]) w A := fun h a => st_rd h Rds.osl.left.right (0 * 2 + 0) rfl (hcell hx0 rfl) a
  have h : sat E w ((pts b5 (.cells #[.pointer (some ⟨p, 0, none⟩), .pointer (some ⟨p, 33, none⟩), .pointer (some ⟨p, 98, none⟩)] 67 (0, 0)) * (cI p newS (.slice none 0 0) * pers (immS (.slice none 0 0) newS.l.length (evs newS.l)))) * (osl 35 2 (.slice (some ⟨ub, 0, none⟩) l.length uc) l.length (rvs l) * (pers (colsP l) * R))) := h.perm (by unfold chI cI; ac_rfl)
  refine st_rd h Rds.osl.left.right (0 * 2 + 1) rfl (hcell hx0 rfl) (stk h ?_)
  have hN : [numT s.bn, numT s.an, numT s.last].map tv = [s.bn.toNat, s.an.toNat, s.last.toNat].map fun n => tv (numText n) := by
    simp only [List.map_cons, List.map_nil]
    rw [numT_nat (n := s.bn) (by omega) (by omega), numT_nat (n := s.an) (by omega) (by omega), numT_nat (n := s.last) (by omega) (by omega)]
  have hr0 := hcol hx0
  rw [hN] at hr0
  have ok1 : Ok { newS with bn := s.bn } 0 ∨ True := .inr trivial
  let Gs : Nat → Ch := fun i => match i with
    | 0 => newS
    | 1 => { newS with bn := s.bn }
    | 2 => { newS with bn := s.bn, an := s.an }
    | _ => { newS with bn := s.bn, an := s.an, last := s.last }
  have h : sat E w (cI p (Gs 0) (.slice none 0 0) * (pts b5 (.cells #[.pointer (some ⟨p, 0, none⟩), .pointer (some ⟨p, 33, none⟩), .pointer (some ⟨p, 98, none⟩)] 67 (0, 0)) * (pers (immS (.slice none 0 0) newS.l.length (evs newS.l)) * (osl 35 2 (.slice (some ⟨ub, 0, none⟩) l.length uc) l.length (rvs l) * (pers (colsP l) * R))))) := h.perm (by unfold cI; ac_rfl)
  refine read_spec (fun i => cI p (Gs i) (.slice none 0 0)) (ns := [s.bn.toNat, s.an.toNat, s.last.toNat]) (ps := [⟨p, 0, none⟩, ⟨p, 33, none⟩, ⟨p, 98, none⟩]) (by simp) ?_ rfl h (hr0.left.right.right.right) ?_ ?_ fun w h => ?_
  · intro n hn
    simp at hn
    omega
  · exact rds_row (b := b5) (e := 67) (xs := [Value.pointer (some ⟨p, 0, none⟩), .pointer (some ⟨p, 33, none⟩), .pointer (some ⟨p, 98, none⟩)]) (sp := []) (fr := (0, 0)) (Nat.le_refl _)
  · intro i n a w K' hn ha h hk
    have nat : ∀ {z : Int}, 0 ≤ z → ((z.toNat : Nat) : Int) = z := fun h => Int.toNat_of_nonneg h
    match i, hn, ha with
    | 0, hn, ha =>
      simp only [List.getElem?_cons_zero, Option.some.injEq] at hn ha
      subst hn ha
      rw [nat hb0]
      exact store_sl (b := p) h rfl (by simp [icells]) fun w h => hk w h
    | 1, hn, ha =>
      simp only [List.getElem?_cons_succ, List.getElem?_cons_zero, Option.some.injEq] at hn ha
      subst hn ha
      rw [nat ha0]
      refine store_sl (b := p) h rfl (by simp [Gs, icells, newS, zeros32]) fun w h => hk w ?_
      rw [ip_an3 (s := Gs 1) ⟨rfl, rfl, rfl⟩] at h
      exact h
    | 2, hn, ha =>
      simp only [List.getElem?_cons_succ, List.getElem?_cons_zero, Option.some.injEq] at hn ha
      subst hn ha
      rw [nat hl0]
      refine store_sl (b := p) h rfl (by simp [Gs, icells, newS, zeros32]) fun w h => hk w ?_
      rw [ip_last3 (s := Gs 2) ⟨rfl, rfl, rfl⟩] at h
      exact h
    | i + 3, hn, ha => simp at hn
  refine stk ((h.perm (show _ = (cI p (Gs 3) (.slice none 0 0) * (pts b5 (.cells #[.pointer (some ⟨p, 0, none⟩), .pointer (some ⟨p, 33, none⟩), .pointer (some ⟨p, 98, none⟩)] 67 (0, 0)) * pers (immS (.slice none 0 0) newS.l.length (evs newS.l)))) * (osl 35 2 (.slice (some ⟨ub, 0, none⟩) l.length uc) l.length (rvs l) * (pers (colsP l) * R)) by ac_rfl))) ?_
  rw [o_not, Bool.not_true, cd_false]
  have h : sat E w (cI p (chA s zeros32 zeros32 zeros32 []) (.slice none 0 0) * (pts b5 (.cells #[.pointer (some ⟨p, 0, none⟩), .pointer (some ⟨p, 33, none⟩), .pointer (some ⟨p, 98, none⟩)] 67 (0, 0)) * (pers (immS (.slice none 0 0) newS.l.length (evs newS.l)) * (osl 35 2 (.slice (some ⟨ub, 0, none⟩) l.length uc) l.length (rvs l) * (pers (colsP l) * R))))) := h
  have h := h.lose b5
  clear hr0 hN ok1
  have L3 : Len3 (chA s zeros32 zeros32 zeros32 []) := ⟨rfl, rfl, rfl⟩
  have max3 : ∀ {a b c : Int} {w : World} {K : Value → World → Prop}, K (.int .i64 (max (max a b) c)) w → pv prog (oBi .max #[3, 3, 3] 3 #[false, false, false] #[.int .i64 a, .int .i64 b, .int .i64 c]) w K := by
    intro a b c w K hk
    rw [pv_eq (v := .int .i64 (max (max a b) c)) (fun w => ?_)]
    · exact hk
    · have : (Builtin.max_ #[3, 3, 3] 3 #[.int .i64 a, .int .i64 b, .int .i64 c]).run prog w = .ok (.int .i64 (if c > (if b > a then b else a) then c else (if b > a then b else a))) w := by
        simp [Builtin.max_, Builtin.max2]
      simp only [oBi, builtin, Sem.run_bind, this, Result.andThen_ok, Sem.run_pure]
      congr 3
      omega
  refine dr_sl h fun w h _ => ?_
  refine ld_in (b := p) (v := .int .i64 s.bn) h rfl ?_
  refine ld_in (b := p) (v := .int .i64 s.an) h (ic_an3 (s := chA s zeros32 zeros32 zeros32 []) L3) ?_
  refine ld_in (b := p) (v := .int .i64 s.last) h (ic_last3 (s := chA s zeros32 zeros32 zeros32 []) L3) ?_
  refine max3 ?_
  simp only [decide_eq_true (show max (max s.bn s.an) s.last ≤ 1099511627776 by omega), ↓o_nil, ↓o_field, ↓o_add, ↓o_sub, ↓o_mul, ↓o_lss, ↓o_leq, ↓o_gtr, ↓o_geq, ↓o_not, ↓o_pick, ↓o_eqInt, ↓o_neInt, ↓o_eqBool, ↓o_neBool, ↓o_eqPtr, ↓o_nePtr, ↓o_eqPtr', ↓o_eqSl, ↓o_neSl, ↓o_eqStr, ↓o_neStr, ↓o_len, ↓o_lenS, ↓o_min, ↓o_max, ↓o_extract, ↓o_convInt, ↓cd_true, ↓cd_false, ↓gate_tt, ↓gate_ff, ↓gate_tf, ↓gate_ft, ↓gate_undef, ↓o_bind, ↓stay_v, ↓pop_cons, ↓fin_nil, Option.isNone_none, Option.isNone_some, Bool.not_true, Bool.not_false, Nat.zero_add, decide_true, decide_false, if_true, if_false, Bool.false_eq_true, ↓reduceIte]
  refine ld_in (b := p) (v := .int .i64 s.an) h (ic_an3 (s := chA s zeros32 zeros32 zeros32 []) L3) ?_
  try simp only [↓o_nil, ↓o_field, ↓o_add, ↓o_sub, ↓o_mul, ↓o_lss, ↓o_leq, ↓o_gtr, ↓o_geq, ↓o_not, ↓o_pick, ↓o_eqInt, ↓o_neInt, ↓o_eqBool, ↓o_neBool, ↓o_eqPtr, ↓o_nePtr, ↓o_eqPtr', ↓o_eqSl, ↓o_neSl, ↓o_eqStr, ↓o_neStr, ↓o_len, ↓o_lenS, ↓o_min, ↓o_max, ↓o_extract, ↓o_convInt, ↓cd_true, ↓cd_false, ↓gate_tt, ↓gate_ff, ↓gate_tf, ↓gate_ft, ↓gate_undef, ↓o_bind, ↓stay_v, ↓pop_cons, ↓fin_nil, Option.isNone_none, Option.isNone_some, Bool.not_true, Bool.not_false, Nat.zero_add, decide_true, decide_false, if_true, if_false, Bool.false_eq_true, ↓reduceIte]
  refine ld_in (b := p) (v := .int .i64 s.bn) h rfl ?_
  rw [o_add, i64_of (by omega) (by omega), o_sub, i64_of (by omega) (by omega), o_leq, decide_eq_true (show s.an ≤ s.bn + (l.length : Int) - 4 by omega)]
  refine dr_sl h fun w h _ => ?_
  have e97 : (.string ⟨#[97]⟩ : Value) = tv [97] := rfl
  have e98 : (.string ⟨#[98]⟩ : Value) = tv [98] := rfl
  have e104 : (.string ⟨#[104]⟩ : Value) = tv [104] := rfl
  rw [e97, e98, e104]
  have ix1 : ∀ {w : World} {K : Value → World → Prop}, pvv prog (Instr.indexAt 31 (.slice (some ⟨ub, 0, none⟩) l.length uc) (.int .i64 1)) w K = K (.pointer (some ⟨ub, 2, none⟩)) w := fun {w K} => ix 1 (by omega)
  have ix2 : ∀ {w : World} {K : Value → World → Prop}, pvv prog (Instr.indexAt 31 (.slice (some ⟨ub, 0, none⟩) l.length uc) (.int .i64 2)) w K = K (.pointer (some ⟨ub, 4, none⟩)) w := fun {w K} => ix 2 (by omega)
  have ix3 : ∀ {w : World} {K : Value → World → Prop}, pvv prog (Instr.indexAt 31 (.slice (some ⟨ub, 0, none⟩) l.length uc) (.int .i64 3)) w K = K (.pointer (some ⟨ub, 6, none⟩)) w := fun {w K} => ix 3 (by omega)
  simp only [ix1, ↓o_nil, ↓o_field, ↓o_add, ↓o_sub, ↓o_mul, ↓o_lss, ↓o_leq, ↓o_gtr, ↓o_geq, ↓o_not, ↓o_pick, ↓o_eqInt, ↓o_neInt, ↓o_eqBool, ↓o_neBool, ↓o_eqPtr, ↓o_nePtr, ↓o_eqPtr', ↓o_eqSl, ↓o_neSl, ↓o_eqStr, ↓o_neStr, ↓o_len, ↓o_lenS, ↓o_min, ↓o_max, ↓o_extract, ↓o_convInt, ↓cd_true, ↓cd_false, ↓gate_tt, ↓gate_ff, ↓gate_tf, ↓gate_ft, ↓gate_undef, ↓o_bind, ↓stay_v, ↓pop_cons, ↓fin_nil, Option.isNone_none, Option.isNone_some, Bool.not_true, Bool.not_false, Nat.zero_add, decide_true, decide_false, if_true, if_false, Bool.false_eq_true, ↓reduceIte]
  refine ld_el h Rds.osl.left.right.right (1 * 2) rfl (rvc ⟨[97], v1, [s.ah]⟩) rfl (rvs_at hx1) ?_
  refine take_spec (b := p) ok.a h ((hcol hx1).left.right.right) (by rw [ic_len3 L3]; decide) fun w h => ?_
  rw [ip_ah3 (s := chA s zeros32 zeros32 zeros32 []) L3 ok.a] at h
  have h : sat E w (cI p (chA s zeros32 s.ah zeros32 []) (.slice none 0 0) * (pers (immS (.slice none 0 0) newS.l.length (evs newS.l)) * (osl 35 2 (.slice (some ⟨ub, 0, none⟩) l.length uc) l.length (rvs l) * (pers (colsP l) * R)))) := h
  have L3 : Len3 (chA s zeros32 s.ah zeros32 []) := ⟨rfl, ok.a, rfl⟩
  simp only [ix2, ↓o_nil, ↓o_field, ↓o_add, ↓o_sub, ↓o_mul, ↓o_lss, ↓o_leq, ↓o_gtr, ↓o_geq, ↓o_not, ↓o_pick, ↓o_eqInt, ↓o_neInt, ↓o_eqBool, ↓o_neBool, ↓o_eqPtr, ↓o_nePtr, ↓o_eqPtr', ↓o_eqSl, ↓o_neSl, ↓o_eqStr, ↓o_neStr, ↓o_len, ↓o_lenS, ↓o_min, ↓o_max, ↓o_extract, ↓o_convInt, ↓cd_true, ↓cd_false, ↓gate_tt, ↓gate_ff, ↓gate_tf, ↓gate_ft, ↓gate_undef, ↓o_bind, ↓stay_v, ↓pop_cons, ↓fin_nil, Option.isNone_none, Option.isNone_some, Bool.not_true, Bool.not_false, Nat.zero_add, decide_true, decide_false, if_true, if_false, Bool.false_eq_true, ↓reduceIte]
  refine ld_el h Rds.osl.left.right.right (2 * 2) rfl (rvc ⟨[98], v2, [s.bh]⟩) rfl (rvs_at hx2) ?_
  refine take_spec (b := p) ok.b h ((hcol hx2).left.right.right) (by rw [ic_len3 L3]; decide) fun w h => ?_
  rw [ip_bh3 (s := chA s zeros32 s.ah zeros32 []) L3 ok.b] at h
  have h : sat E w (cI p (chA s s.bh s.ah zeros32 []) (.slice none 0 0) * (pers (immS (.slice none 0 0) newS.l.length (evs newS.l)) * (osl 35 2 (.slice (some ⟨ub, 0, none⟩) l.length uc) l.length (rvs l) * (pers (colsP l) * R)))) := h
  have L3 : Len3 (chA s s.bh s.ah zeros32 []) := ⟨ok.b, ok.a, rfl⟩
  refine st_el h Rds.osl.left.right.right (1 * 2) rfl (rvc ⟨[97], v1, [s.ah]⟩) rfl (rvs_at hx1) ?_
  simp only [ix3, ↓o_nil, ↓o_field, ↓o_add, ↓o_sub, ↓o_mul, ↓o_lss, ↓o_leq, ↓o_gtr, ↓o_geq, ↓o_not, ↓o_pick, ↓o_eqInt, ↓o_neInt, ↓o_eqBool, ↓o_neBool, ↓o_eqPtr, ↓o_nePtr, ↓o_eqPtr', ↓o_eqSl, ↓o_neSl, ↓o_eqStr, ↓o_neStr, ↓o_len, ↓o_lenS, ↓o_min, ↓o_max, ↓o_extract, ↓o_convInt, ↓cd_true, ↓cd_false, ↓gate_tt, ↓gate_ff, ↓gate_tf, ↓gate_ft, ↓gate_undef, ↓o_bind, ↓stay_v, ↓pop_cons, ↓fin_nil, Option.isNone_none, Option.isNone_some, Bool.not_true, Bool.not_false, Nat.zero_add, decide_true, decide_false, if_true, if_false, Bool.false_eq_true, ↓reduceIte]
  refine ld_el h Rds.osl.left.right.right (3 * 2) rfl (rvc ⟨[104], v3, [s.hd]⟩) rfl (rvs_at hx3) ?_
  refine take_spec (b := p) ok.h h ((hcol hx3).left.right.right) (by rw [ic_len3 L3]; decide) fun w h => ?_
  rw [ip_hd3 (s := chA s s.bh s.ah zeros32 []) L3 ok.h] at h
  have h : sat E w (cI p (chA s s.bh s.ah s.hd []) (.slice none 0 0) * (pers (immS (.slice none 0 0) newS.l.length (evs newS.l)) * (osl 35 2 (.slice (some ⟨ub, 0, none⟩) l.length uc) l.length (rvs l) * (pers (colsP l) * R)))) := h
  have L3 : Len3 (chA s s.bh s.ah s.hd []) := ⟨ok.b, ok.a, ok.h⟩
  refine st_el h Rds.osl.left.right.right (2 * 2) rfl (rvc ⟨[98], v2, [s.bh]⟩) rfl (rvs_at hx2) ?_
  refine st_el h Rds.osl.left.right.right (1 * 2) rfl (rvc ⟨[97], v1, [s.ah]⟩) rfl (rvs_at hx1) ?_
  rw [o_not, Bool.not_true, cd_false, o_slice_l (by decide) (by omega)]
  have hcut : 0 < s.l.length → cutA (some ⟨ub, 0, none⟩) uc (4 : Int).toNat 2 = some ⟨ub, 8, none⟩ := by
    intro h
    unfold cutA
    rw [if_neg (by show ¬ uc = 4; omega)]
    rfl
  generalize cutA (some ⟨ub, 0, none⟩) uc (4 : Int).toNat 2 = ca at hcut
  rw [show l.length - (4 : Int).toNat = s.l.length by show l.length - 4 = _; omega, o_len]
  have hdI : ∀ {X : HP}, Dbt (X * (osl 35 2 (.slice (some ⟨ub, 0, none⟩) l.length uc) l.length (rvs l) * (pers (colsP l) * R))) := fun {X} => hd.right.right.right
  refine lp_nat (fun r σ w => ∃ (i : Nat) (before : Int) (v : Value), σ = [.int .i64 before, .int .i64 (i : Int)] ∧ r = s.l.length - i ∧ i ≤ s.l.length ∧ (∀ x, s.l[i]? = some x → before ≤ x.t) ∧
      sat E w (osl 56 4 v i (evs (s.l.take i)) * (cI p (chA s s.bh s.ah s.hd (s.l.take i)) v * (osl 35 2 (.slice (some ⟨ub, 0, none⟩) l.length uc) l.length (rvs l) * (pers (colsP l) * R))))) s.l.length
    ⟨0, 0, .slice none 0 0, rfl, by omega, by omega, fun x hx => (sm.ev x (List.mem_of_getElem? hx)).1, ?_⟩ ?_
  · have h := h.perm (show _ = pers (immS (.slice none 0 0) newS.l.length (evs newS.l)) * (cI p (chA s s.bh s.ah s.hd []) (.slice none 0 0) * (osl 35 2 (.slice (some ⟨ub, 0, none⟩) l.length uc) l.length (rvs l) * (pers (colsP l) * R))) by ac_rfl)
    exact osl_nil h.drop 56 4
  clear h L3
  rintro r σ w again ⟨i, before, v, rfl, rfl, hi, hbf, h⟩ hag
  rw [pop_cons, pop_cons, fin_nil, o_lss]
  refine cd_dec (fun hlt => ?_) (fun hge => ?_)
  · have hi1 : i < s.l.length := by omega
    have hx : s.l[i]? = some s.l[i] := List.getElem?_eq_getElem hi1
    have hmx : s.l[i] ∈ s.l := List.getElem_mem hi1
    have htk : s.l.take (i + 1) = s.l.take i ++ [s.l[i]] := List.take_succ_eq_append_getElem hi1
    generalize s.l[i] = x at hx hmx htk
    rw [hcut (by omega), o_index (by omega) (by omega), Int.toNat_natCast]
    obtain ⟨y, hy, ys⟩ := said_row hs (i := i + 4) (y := evRow x) (by
      unfold rowsOf
      rw [List.getElem?_append_right (by simp [heads]), show i + 4 - (heads s).length = i by simp [heads], List.getElem?_map, hx]
      rfl)
    obtain ⟨ky, vy, cy⟩ := y
    simp only [RV.said, evRow, Prod.mk.injEq] at ys
    obtain ⟨rfl, rfl⟩ := ys
    obtain ⟨hxn, hxt⟩ := rn.num i x hx
    obtain ⟨sx1, sx2, sx3⟩ := sm.ev x hmx
    refine ld_el h Rds.osl.left.right.right ((i + 4) * 2) (by omega) (rvc ⟨110 :: numT x.n, vy, [numT x.t, x.what, x.who]⟩) rfl (rvs_at hy) ?_
    have hx0n : 0 ≤ x.n := by omega
    have hyr : Rds (pers (colsP l)) vy 3 [tv (numT x.t), tv x.what, tv x.who] := hcol hy
    obtain ⟨yb, yo, yc, rfl, hyc, hyv⟩ := (hyr.left.right.right.right).opened h (by simp)
    refine alloc_sl h fun rb w h => ?_
    have h : sat E w (pts rb (.cells [Value.string ⟨#[]⟩, .slice none 0 0].toArray 35 (0, 0)) * (osl 56 4 v i (evs (s.l.take i)) * (cI p (chA s s.bh s.ah s.hd (s.l.take i)) v * (osl 35 2 (.slice (some ⟨ub, 0, none⟩) l.length uc) l.length (rvs l) * (pers (colsP l) * R))))) := h
    refine store_all (b := rb) h (xs := [Value.string ⟨#[]⟩, .slice none 0 0]) (vs := rvc ⟨110 :: numT x.n, .slice (some ⟨yb, yo, none⟩) 3 yc, [numT x.t, x.what, x.who]⟩) rfl rfl (by intro z hz; simp [rvc] at hz; rcases hz with rfl | rfl <;> rfl) fun w h => ?_
    refine ld_in (b := p) (v := .int .i64 s.bn) h rfl ?_
    rw [o_add, i64_of (by omega) (by omega), o_add, i64_of (by omega) (by omega), ← hxn]
    refine pvv_of (v := ev ⟨x.n, 0, [], []⟩) (fun w => by kernel_rfl) ?_
    refine evt_in h fun xb w h => ?_
    refine dr_sl h fun w h _ => ?_
    simp only [↓o_nil, ↓o_field, ↓o_add, ↓o_sub, ↓o_mul, ↓o_lss, ↓o_leq, ↓o_gtr, ↓o_geq, ↓o_not, ↓o_pick, ↓o_eqInt, ↓o_neInt, ↓o_eqBool, ↓o_neBool, ↓o_eqPtr, ↓o_nePtr, ↓o_eqPtr', ↓o_eqSl, ↓o_neSl, ↓o_eqStr, ↓o_neStr, ↓o_len, ↓o_lenS, ↓o_min, ↓o_max, ↓o_extract, ↓o_convInt, ↓cd_true, ↓cd_false, ↓gate_tt, ↓gate_ff, ↓gate_tf, ↓gate_ft, ↓gate_undef, ↓o_bind, ↓stay_v, ↓pop_cons, ↓fin_nil, Option.isNone_none, Option.isNone_some, Bool.not_true, Bool.not_false, Nat.zero_add, decide_true, decide_false, if_true, if_false, Bool.false_eq_true, ↓reduceIte]
    refine ld_in (b := rb) (v := tv (110 :: numT x.n)) h rfl ?_
    refine ld_in (b := xb) (v := .int .i64 x.n) h rfl ?_
    refine num_spec h (hd.right.right.right.right.right.right) fun w h => ?_
    refine st_in (b := rb) (v := tv (110 :: numT x.n)) h rfl ?_
    have hnl := numT_length x.n
    rw [show (.string ⟨#[110]⟩ : Value) = tv [110] from rfl, o_catT (by simp; omega), o_neT, show (!decide (110 :: numT x.n = [110] ++ numT x.n)) = false by simp]
    try simp only [↓o_nil, ↓o_field, ↓o_add, ↓o_sub, ↓o_mul, ↓o_lss, ↓o_leq, ↓o_gtr, ↓o_geq, ↓o_not, ↓o_pick, ↓o_eqInt, ↓o_neInt, ↓o_eqBool, ↓o_neBool, ↓o_eqPtr, ↓o_nePtr, ↓o_eqPtr', ↓o_eqSl, ↓o_neSl, ↓o_eqStr, ↓o_neStr, ↓o_len, ↓o_lenS, ↓o_min, ↓o_max, ↓o_extract, ↓o_convInt, ↓cd_true, ↓cd_false, ↓gate_tt, ↓gate_ff, ↓gate_tf, ↓gate_ft, ↓gate_undef, ↓o_bind, ↓stay_v, ↓pop_cons, ↓fin_nil, Option.isNone_none, Option.isNone_some, Bool.not_true, Bool.not_false, Nat.zero_add, decide_true, decide_false, if_true, if_false, Bool.false_eq_true, ↓reduceIte]
    refine ld_in (b := rb) (v := .slice (some ⟨yb, yo, none⟩) 3 yc) h rfl ?_
    simp only [show decide (((3 : Nat) : Int) = 3) = true from rfl, ↓o_nil, ↓o_field, ↓o_add, ↓o_sub, ↓o_mul, ↓o_lss, ↓o_leq, ↓o_gtr, ↓o_geq, ↓o_not, ↓o_pick, ↓o_eqInt, ↓o_neInt, ↓o_eqBool, ↓o_neBool, ↓o_eqPtr, ↓o_nePtr, ↓o_eqPtr', ↓o_eqSl, ↓o_neSl, ↓o_eqStr, ↓o_neStr, ↓o_len, ↓o_lenS, ↓o_min, ↓o_max, ↓o_extract, ↓o_convInt, ↓cd_true, ↓cd_false, ↓gate_tt, ↓gate_ff, ↓gate_tf, ↓gate_ft, ↓gate_undef, ↓o_bind, ↓stay_v, ↓pop_cons, ↓fin_nil, Option.isNone_none, Option.isNone_some, Bool.not_true, Bool.not_false, Nat.zero_add, decide_true, decide_false, if_true, if_false, Bool.false_eq_true, ↓reduceIte]
    refine ld_in (b := rb) (v := .slice (some ⟨yb, yo, none⟩) 3 yc) h rfl ?_
    try simp only [↓o_nil, ↓o_field, ↓o_add, ↓o_sub, ↓o_mul, ↓o_lss, ↓o_leq, ↓o_gtr, ↓o_geq, ↓o_not, ↓o_pick, ↓o_eqInt, ↓o_neInt, ↓o_eqBool, ↓o_neBool, ↓o_eqPtr, ↓o_nePtr, ↓o_eqPtr', ↓o_eqSl, ↓o_neSl, ↓o_eqStr, ↓o_neStr, ↓o_len, ↓o_lenS, ↓o_min, ↓o_max, ↓o_extract, ↓o_convInt, ↓cd_true, ↓cd_false, ↓gate_tt, ↓gate_ff, ↓gate_tf, ↓gate_ft, ↓gate_undef, ↓o_bind, ↓stay_v, ↓pop_cons, ↓fin_nil, Option.isNone_none, Option.isNone_some, Bool.not_true, Bool.not_false, Nat.zero_add, decide_true, decide_false, if_true, if_false, Bool.false_eq_true, ↓reduceIte]
    rw [o_slice_h (by decide) (by omega)]
    try simp only [↓o_nil, ↓o_field, ↓o_add, ↓o_sub, ↓o_mul, ↓o_lss, ↓o_leq, ↓o_gtr, ↓o_geq, ↓o_not, ↓o_pick, ↓o_eqInt, ↓o_neInt, ↓o_eqBool, ↓o_neBool, ↓o_eqPtr, ↓o_nePtr, ↓o_eqPtr', ↓o_eqSl, ↓o_neSl, ↓o_eqStr, ↓o_neStr, ↓o_len, ↓o_lenS, ↓o_min, ↓o_max, ↓o_extract, ↓o_convInt, ↓cd_true, ↓cd_false, ↓gate_tt, ↓gate_ff, ↓gate_tf, ↓gate_ft, ↓gate_undef, ↓o_bind, ↓stay_v, ↓pop_cons, ↓fin_nil, Option.isNone_none, Option.isNone_some, Bool.not_true, Bool.not_false, Nat.zero_add, decide_true, decide_false, if_true, if_false, Bool.false_eq_true, ↓reduceIte]
    refine buildSlice_sl (e := 67) (cs := #[.pointer (some ⟨xb, 1, none⟩)]) h (fun w => by kernel_rfl) fun b6 w h => ?_
    have ecut : cutA (some ⟨yb, yo, none⟩) yc 0 1 = some ⟨yb, yo, none⟩ := by
      unfold cutA
      rw [if_neg (by omega)]
      show some ((⟨yb, yo, none⟩ : Addr).add 0) = _
      rw [add_addr]
      rfl
    rw [ecut, show (1 : Int).toNat = 1 from rfl]
    refine st_in (b := rb) (v := .slice (some ⟨yb, yo, none⟩) 3 yc) h rfl ?_
    refine st_in (b := rb) (v := .slice (some ⟨yb, yo, none⟩) 3 yc) h rfl ?_
    refine st_in (b := xb) (v := .int .i64 x.n) h rfl ?_
    refine st_in (b := rb) (v := tv (110 :: numT x.n)) h rfl ?_
    let G : Nat → HP := fun j => match j with
      | 0 => pts xb (.cells (ecells ⟨x.n, 0, [], []⟩).toArray 56 (0, 0))
      | _ => pts xb (.cells (ecells ⟨x.n, x.t, [], []⟩).toArray 56 (0, 0))
    have h : sat E w (pts xb (.cells (ecells ⟨x.n, 0, [], []⟩).toArray 56 (0, 0)) * (pts b6 (.cells #[.pointer (some ⟨xb, 1, none⟩)] 67 (0, 0)) * (pts rb (.cells (rvc ⟨110 :: numT x.n, .slice (some ⟨yb, yo, none⟩) 3 yc, [numT x.t, x.what, x.who]⟩).toArray 35 (0, 0)) * (osl 56 4 v i (evs (s.l.take i)) * (cI p (chA s s.bh s.ah s.hd (s.l.take i)) v * (osl 35 2 (.slice (some ⟨ub, 0, none⟩) l.length uc) l.length (rvs l) * (pers (colsP l) * R))))))) := h.perm (by ac_rfl)
    have hxt1 : x.t ≤ 1099511627776 := by omega
    have hone : Rds (pts b6 (.cells #[.pointer (some ⟨xb, 1, none⟩)] 67 (0, 0)) * (pts rb (.cells (rvc ⟨110 :: numT x.n, .slice (some ⟨yb, yo, none⟩) 3 yc, [numT x.t, x.what, x.who]⟩).toArray 35 (0, 0)) * (osl 56 4 v i (evs (s.l.take i)) * (cI p (chA s s.bh s.ah s.hd (s.l.take i)) v * (osl 35 2 (.slice (some ⟨ub, 0, none⟩) l.length uc) l.length (rvs l) * (pers (colsP l) * R)))))) (.slice (some ⟨yb, yo, none⟩) 1 yc) 1 ([x.t.toNat].map fun n => tv (numText n)) := by
      intro E w hs
      have hx3 : Rds (pts b6 (.cells #[.pointer (some ⟨xb, 1, none⟩)] 67 (0, 0)) * (pts rb (.cells (rvc ⟨110 :: numT x.n, .slice (some ⟨yb, yo, none⟩) 3 yc, [numT x.t, x.what, x.who]⟩).toArray 35 (0, 0)) * (osl 56 4 v i (evs (s.l.take i)) * (cI p (chA s s.bh s.ah s.hd (s.l.take i)) v * (osl 35 2 (.slice (some ⟨ub, 0, none⟩) l.length uc) l.length (rvs l) * (pers (colsP l) * R)))))) (.slice (some ⟨yb, yo, none⟩) 3 yc) 3 [tv (numT x.t), tv x.what, tv x.who] := hyr.left.right.right.right.right.right
      have h4 := RdS.cut (hx3 E w hs) (lo := 0) (hi := 1) rfl (by decide) (by decide)
      rw [ecut] at h4
      rw [List.map_cons, List.map_nil, ← numT_nat sx1 (by omega)]
      exact h4
    refine read_spec G (ns := [x.t.toNat]) (ps := [⟨xb, 1, none⟩]) (by simp) (by intro n hn; simp at hn; omega) rfl h hone (rds_row (b := b6) (e := 67) (xs := [Value.pointer (some ⟨xb, 1, none⟩)]) (sp := []) (fr := (0, 0)) (Nat.le_refl _)) ?_ fun w h => ?_
    · intro j n a w K' hn ha h hk
      match j, hn, ha with
      | 0, hn, ha =>
        simp only [List.getElem?_cons_zero, Option.some.injEq] at hn ha
        subst hn ha
        rw [Int.toNat_of_nonneg sx1]
        have h : sat E w (pts xb (.cells (ecells ⟨x.n, 0, [], []⟩).toArray 56 (0, 0)) * (pts b6 (.cells #[.pointer (some ⟨xb, 1, none⟩)] 67 (0, 0)) * (pts rb (.cells (rvc ⟨110 :: numT x.n, .slice (some ⟨yb, yo, none⟩) 3 yc, [numT x.t, x.what, x.who]⟩).toArray 35 (0, 0)) * (osl 56 4 v i (evs (s.l.take i)) * (cI p (chA s s.bh s.ah s.hd (s.l.take i)) v * (osl 35 2 (.slice (some ⟨ub, 0, none⟩) l.length uc) l.length (rvs l) * (pers (colsP l) * R))))))) := h
        exact store_sl (b := xb) h rfl (by simp [ecells]) fun w h => hk w h
      | j + 1, hn, ha => simp at hn
    have h : sat E w (pts xb (.cells (ecells ⟨x.n, x.t, [], []⟩).toArray 56 (0, 0)) * (pts b6 (.cells #[.pointer (some ⟨xb, 1, none⟩)] 67 (0, 0)) * (pts rb (.cells (rvc ⟨110 :: numT x.n, .slice (some ⟨yb, yo, none⟩) 3 yc, [numT x.t, x.what, x.who]⟩).toArray 35 (0, 0)) * (osl 56 4 v i (evs (s.l.take i)) * (cI p (chA s s.bh s.ah s.hd (s.l.take i)) v * (osl 35 2 (.slice (some ⟨ub, 0, none⟩) l.length uc) l.length (rvs l) * (pers (colsP l) * R))))))) := h
    refine st_in (b := rb) (v := .slice (some ⟨yb, yo, none⟩) 3 yc) h rfl ?_
    refine st_in (b := rb) (v := .slice (some ⟨yb, yo, none⟩) 3 yc) h rfl ?_
    refine st_in (b := xb) (v := .int .i64 x.n) h rfl ?_
    refine st_in (b := rb) (v := tv (110 :: numT x.n)) h rfl ?_
    rw [o_not, Bool.not_true, cd_false]
    have h := h.lose b6
    refine dr_sl h fun w h _ => ?_
    refine ld_in (b := rb) (v := .slice (some ⟨yb, yo, none⟩) 3 yc) h rfl ?_
    rw [o_index (by decide) (by decide)]
    have hyy : Rds (pts xb (.cells (ecells ⟨x.n, x.t, [], []⟩).toArray 56 (0, 0)) * (pts rb (.cells (rvc ⟨110 :: numT x.n, .slice (some ⟨yb, yo, none⟩) 3 yc, [numT x.t, x.what, x.who]⟩).toArray 35 (0, 0)) * (osl 56 4 v i (evs (s.l.take i)) * (cI p (chA s s.bh s.ah s.hd (s.l.take i)) v * (osl 35 2 (.slice (some ⟨ub, 0, none⟩) l.length uc) l.length (rvs l) * (pers (colsP l) * R)))))) (.slice (some ⟨yb, yo, none⟩) 3 yc) 3 [tv (numT x.t), tv x.what, tv x.who] := hyr.left.right.right.right.right.right
    refine ld_rd h hyy 1 (by rfl) (v := tv x.what) rfl ?_
    refine ld_in (b := rb) (v := .slice (some ⟨yb, yo, none⟩) 3 yc) h rfl ?_
    rw [o_index (by decide) (by decide)]
    refine ld_rd h hyy 2 (by rfl) (v := tv x.who) rfl ?_
    try simp only [↓o_nil, ↓o_field, ↓o_add, ↓o_sub, ↓o_mul, ↓o_lss, ↓o_leq, ↓o_gtr, ↓o_geq, ↓o_not, ↓o_pick, ↓o_eqInt, ↓o_neInt, ↓o_eqBool, ↓o_neBool, ↓o_eqPtr, ↓o_nePtr, ↓o_eqPtr', ↓o_eqSl, ↓o_neSl, ↓o_eqStr, ↓o_neStr, ↓o_len, ↓o_lenS, ↓o_min, ↓o_max, ↓o_extract, ↓o_convInt, ↓cd_true, ↓cd_false, ↓gate_tt, ↓gate_ff, ↓gate_tf, ↓gate_ft, ↓gate_undef, ↓o_bind, ↓stay_v, ↓pop_cons, ↓fin_nil, Option.isNone_none, Option.isNone_some, Bool.not_true, Bool.not_false, Nat.zero_add, decide_true, decide_false, if_true, if_false, Bool.false_eq_true, ↓reduceIte]
    refine store_sl (b := xb) h rfl (by simp [ecells]) fun w h => ?_
    refine st_in (b := rb) (v := .slice (some ⟨yb, yo, none⟩) 3 yc) h rfl ?_
    refine store_sl (b := xb) h rfl (by simp [ecells]) fun w h => ?_
    have h : sat E w (pts xb (.cells (ecells x).toArray 56 (0, 0)) * (pts rb (.cells (rvc ⟨110 :: numT x.n, .slice (some ⟨yb, yo, none⟩) 3 yc, [numT x.t, x.what, x.who]⟩).toArray 35 (0, 0)) * (osl 56 4 v i (evs (s.l.take i)) * (cI p (chA s s.bh s.ah s.hd (s.l.take i)) v * (osl 35 2 (.slice (some ⟨ub, 0, none⟩) l.length uc) l.length (rvs l) * (pers (colsP l) * R)))))) := h
    refine dr_sl h fun w h _ => ?_
    refine ld_in (b := xb) (v := tv x.what) h rfl ?_
    rw [o_lenT, o_gtr]
    simp only [decide_eq_false (show ¬ (12 : Int) < (x.what.length : Int) by omega), ↓o_nil, ↓o_field, ↓o_add, ↓o_sub, ↓o_mul, ↓o_lss, ↓o_leq, ↓o_gtr, ↓o_geq, ↓o_not, ↓o_pick, ↓o_eqInt, ↓o_neInt, ↓o_eqBool, ↓o_neBool, ↓o_eqPtr, ↓o_nePtr, ↓o_eqPtr', ↓o_eqSl, ↓o_neSl, ↓o_eqStr, ↓o_neStr, ↓o_len, ↓o_lenS, ↓o_min, ↓o_max, ↓o_extract, ↓o_convInt, ↓cd_true, ↓cd_false, ↓gate_tt, ↓gate_ff, ↓gate_tf, ↓gate_ft, ↓gate_undef, ↓o_bind, ↓stay_v, ↓pop_cons, ↓fin_nil, Option.isNone_none, Option.isNone_some, Bool.not_true, Bool.not_false, Nat.zero_add, decide_true, decide_false, if_true, if_false, Bool.false_eq_true, ↓reduceIte]
    refine ld_in (b := xb) (v := tv x.who) h rfl ?_
    simp only [↓o_lenT, ↓o_nil, ↓o_field, ↓o_add, ↓o_sub, ↓o_mul, ↓o_lss, ↓o_leq, ↓o_gtr, ↓o_geq, ↓o_not, ↓o_pick, ↓o_eqInt, ↓o_neInt, ↓o_eqBool, ↓o_neBool, ↓o_eqPtr, ↓o_nePtr, ↓o_eqPtr', ↓o_eqSl, ↓o_neSl, ↓o_eqStr, ↓o_neStr, ↓o_len, ↓o_lenS, ↓o_min, ↓o_max, ↓o_extract, ↓o_convInt, ↓cd_true, ↓cd_false, ↓gate_tt, ↓gate_ff, ↓gate_tf, ↓gate_ft, ↓gate_undef, ↓o_bind, ↓stay_v, ↓pop_cons, ↓fin_nil, Option.isNone_none, Option.isNone_some, Bool.not_true, Bool.not_false, Nat.zero_add, decide_true, decide_false, if_true, if_false, Bool.false_eq_true, ↓reduceIte]
    simp only [decide_eq_false (show ¬ (30 : Int) < (x.who.length : Int) by omega), ↓o_nil, ↓o_field, ↓o_add, ↓o_sub, ↓o_mul, ↓o_lss, ↓o_leq, ↓o_gtr, ↓o_geq, ↓o_not, ↓o_pick, ↓o_eqInt, ↓o_neInt, ↓o_eqBool, ↓o_neBool, ↓o_eqPtr, ↓o_nePtr, ↓o_eqPtr', ↓o_eqSl, ↓o_neSl, ↓o_eqStr, ↓o_neStr, ↓o_len, ↓o_lenS, ↓o_min, ↓o_max, ↓o_extract, ↓o_convInt, ↓cd_true, ↓cd_false, ↓gate_tt, ↓gate_ff, ↓gate_tf, ↓gate_ft, ↓gate_undef, ↓o_bind, ↓stay_v, ↓pop_cons, ↓fin_nil, Option.isNone_none, Option.isNone_some, Bool.not_true, Bool.not_false, Nat.zero_add, decide_true, decide_false, if_true, if_false, Bool.false_eq_true, ↓reduceIte]
    refine ld_in (b := xb) (v := .int .i64 x.t) h rfl ?_
    have hbx := hbf x hx
    simp only [decide_eq_false (show ¬ x.t < before by omega), ↓o_nil, ↓o_field, ↓o_add, ↓o_sub, ↓o_mul, ↓o_lss, ↓o_leq, ↓o_gtr, ↓o_geq, ↓o_not, ↓o_pick, ↓o_eqInt, ↓o_neInt, ↓o_eqBool, ↓o_neBool, ↓o_eqPtr, ↓o_nePtr, ↓o_eqPtr', ↓o_eqSl, ↓o_neSl, ↓o_eqStr, ↓o_neStr, ↓o_len, ↓o_lenS, ↓o_min, ↓o_max, ↓o_extract, ↓o_convInt, ↓cd_true, ↓cd_false, ↓gate_tt, ↓gate_ff, ↓gate_tf, ↓gate_ft, ↓gate_undef, ↓o_bind, ↓stay_v, ↓pop_cons, ↓fin_nil, Option.isNone_none, Option.isNone_some, Bool.not_true, Bool.not_false, Nat.zero_add, decide_true, decide_false, if_true, if_false, Bool.false_eq_true, ↓reduceIte]
    have L4 : Len3 (chA s s.bh s.ah s.hd (s.l.take i)) := ⟨ok.b, ok.a, ok.h⟩
    refine ld_in (b := xb) (v := .int .i64 x.t) h rfl ?_
    try simp only [↓o_nil, ↓o_field, ↓o_add, ↓o_sub, ↓o_mul, ↓o_lss, ↓o_leq, ↓o_gtr, ↓o_geq, ↓o_not, ↓o_pick, ↓o_eqInt, ↓o_neInt, ↓o_eqBool, ↓o_neBool, ↓o_eqPtr, ↓o_nePtr, ↓o_eqPtr', ↓o_eqSl, ↓o_neSl, ↓o_eqStr, ↓o_neStr, ↓o_len, ↓o_lenS, ↓o_min, ↓o_max, ↓o_extract, ↓o_convInt, ↓cd_true, ↓cd_false, ↓gate_tt, ↓gate_ff, ↓gate_tf, ↓gate_ft, ↓gate_undef, ↓o_bind, ↓stay_v, ↓pop_cons, ↓fin_nil, Option.isNone_none, Option.isNone_some, Bool.not_true, Bool.not_false, Nat.zero_add, decide_true, decide_false, if_true, if_false, Bool.false_eq_true, ↓reduceIte]
    refine ld_in (b := p) (v := .int .i64 s.last) h (ic_last3 (s := chA s s.bh s.ah s.hd (s.l.take i)) L4) ?_
    simp only [decide_eq_false (show ¬ s.last < x.t by omega), ↓o_nil, ↓o_field, ↓o_add, ↓o_sub, ↓o_mul, ↓o_lss, ↓o_leq, ↓o_gtr, ↓o_geq, ↓o_not, ↓o_pick, ↓o_eqInt, ↓o_neInt, ↓o_eqBool, ↓o_neBool, ↓o_eqPtr, ↓o_nePtr, ↓o_eqPtr', ↓o_eqSl, ↓o_neSl, ↓o_eqStr, ↓o_neStr, ↓o_len, ↓o_lenS, ↓o_min, ↓o_max, ↓o_extract, ↓o_convInt, ↓cd_true, ↓cd_false, ↓gate_tt, ↓gate_ff, ↓gate_tf, ↓gate_ft, ↓gate_undef, ↓o_bind, ↓stay_v, ↓pop_cons, ↓fin_nil, Option.isNone_none, Option.isNone_some, Bool.not_true, Bool.not_false, Nat.zero_add, decide_true, decide_false, if_true, if_false, Bool.false_eq_true, ↓reduceIte]
    refine ld_in (b := xb) (v := .int .i64 x.t) h rfl ?_
    refine dr_sl h fun w h _ => ?_
    have icl : (icells (chA s s.bh s.ah s.hd (s.l.take i)) v)[99]? = some v := part_cell (.int .i64 s.bn :: (s.bh.map bv ++ (.int .i64 s.an :: (s.ah.map bv ++ (s.hd.map bv ++ [.int .i64 s.last]))))) [] (by simp [icells, chA]) (by simp [ok.b, ok.a, ok.h])
    have ipl : ∀ {u : Value}, (icells (chA s s.bh s.ah s.hd (s.l.take i)) v).set 99 u = icells (chA s s.bh s.ah s.hd (s.l.take (i + 1))) u := fun {u} => part_set (.int .i64 s.bn :: (s.bh.map bv ++ (.int .i64 s.an :: (s.ah.map bv ++ (s.hd.map bv ++ [.int .i64 s.last]))))) [] (x := v) (by simp [icells, chA]) (by simp [ok.b, ok.a, ok.h]) (by simp [icells, chA])
    refine ld_in (b := p) (v := v) h icl ?_
    refine ld_agg (b := xb) (xs := ecells x) h rfl ?_
    refine buildSlice_sl (e := 56) (cs := (ecells x).toArray) h (fun w => by kernel_rfl) fun b5 w h => ?_
    refine st_in (b := p) (v := v) h icl ?_
    refine append_sl (v := v) h (ecells x) (k' := 1) rfl (.inr ⟨b5, 0, _, _, _, rfl, h.pts_get, fun j v hj => by simpa using hj⟩) (ecells_one x) (by omega) (by omega) fun v' w h => ?_
    refine st_agg (b := xb) (xs := ecells x) h rfl ?_
    have hone' : v'.oneCell' = true := by
      obtain ⟨_, _, rfl, _⟩ := osl_shape h
      rfl
    refine store_sl (b := p) h hone' (by rw [ic_len3 L4]; decide) fun w h => ?_
    rw [ipl] at h
    try rw [o_add]
    rw [i64_of (by omega) (by omega)]
    have h := h.lose b5
    have h := h.perm (show _ = pts xb (.cells (ecells x).toArray 56 (0, 0)) * (pts rb (.cells (rvc ⟨110 :: numT x.n, .slice (some ⟨yb, yo, none⟩) 3 yc, [numT x.t, x.what, x.who]⟩).toArray 35 (0, 0)) * (osl 56 4 v' (i + 1) (evs (s.l.take i) ++ ecells x) * (cI p (chA s s.bh s.ah s.hd (s.l.take (i + 1))) v' * (osl 35 2 (.slice (some ⟨ub, 0, none⟩) l.length uc) l.length (rvs l) * (pers (colsP l) * R))))) by unfold cI; ac_rfl)
    have h := h.drop.drop
    have ee : evs (s.l.take i) ++ ecells x = evs (s.l.take (i + 1)) := by rw [htk]; simp [evs]
    rw [ee] at h
    refine hag (s.l.length - (i + 1)) _ _ (by omega) ⟨i + 1, x.t, v', rfl, rfl, by omega, fun z hz => rn.up i x z hx hz, h⟩
  · have hi2 : i = s.l.length := by omega
    subst hi2
    rw [List.take_length] at h
    have h := osl_freeze h
    refine k p v w ?_
    unfold chI
    exact h.perm (by unfold cI chA; ac_rfl)
end Go.Proofs.YtjeiojibnmfibaaGreatDoor

/-
  The reference reads numbers and hashes.
-/
set_option linter.all false
set_option maxRecDepth 100000
namespace Go.Proofs.YtjeiojibnmfibaaGreatDoor
open Go Hold
variable {E : World0} {w : World} {H R : HP} {K : Value → World → Prop}
theorem hexVal_le (a b : List UInt8) : hexVal a ≤ hexVal (a ++ b) := by
  induction b generalizing a with
  | nil => simp
  | cons c b ih =>
    have h1 := ih (a ++ [c])
    rw [hexVal_snoc] at h1
    rw [show a ++ c :: b = a ++ [c] ++ b by simp]
    omega
theorem RToNumber_spec (h : sat E w H) {n : Nat} (hn : n ≤ 1125899906842624) (k : ∀ w', sat E w' H → K (.tuple #[.int .i64 (n : Int), .int .i64 0]) w') : Calls prog 29 #[tv (numText n)] w (Ret K) := by
  have hl : (hexs n).length ≤ 16 := hexs_length 16 n (by show n < 16 ^ 16; omega)
  have hmem := hexs_mem n
  have hhead := hexs_head n
  have hval := hexs_val n
  have e97 : (UInt8.ofNat (97 + (hexs n).length)).toNat = 97 + (hexs n).length := by rw [UInt8.toNat_ofNat']; omega
  unfold numText
  generalize hexs n = l at hl hmem hhead hval e97
  have hle : ∀ i, hexVal (l.take i) ≤ n := fun i => by
    have := hexVal_le (l.take i) (l.drop i)
    rw [List.take_append_drop] at this
    omega
  have hlen : (UInt8.ofNat (97 + l.length) :: l).length = l.length + 1 := rfl
  refine c29 ?_
  unfold B29
  have c1 : ¬ ((l.length + 1 : Nat) : Int) < 1 := by omega
  have c2 : ¬ (17 : Int) < ((l.length + 1 : Nat) : Int) := by omega
  simp only [↓o_lenT, hlen, decide_eq_false c1, decide_eq_false c2, ↓o_nil, ↓o_field, ↓o_add, ↓o_sub, ↓o_mul, ↓o_lss, ↓o_leq, ↓o_gtr, ↓o_geq, ↓o_not, ↓o_pick, ↓o_eqInt, ↓o_neInt, ↓o_eqBool, ↓o_neBool, ↓o_eqPtr, ↓o_nePtr, ↓o_eqPtr', ↓o_eqSl, ↓o_neSl, ↓o_eqStr, ↓o_neStr, ↓o_len, ↓o_lenS, ↓o_min, ↓o_max, ↓o_extract, ↓o_convInt, ↓cd_true, ↓cd_false, ↓gate_tt, ↓gate_ff, ↓gate_tf, ↓gate_ft, ↓gate_undef, ↓o_bind, ↓stay_v, ↓pop_cons, ↓fin_nil, Option.isNone_none, Option.isNone_some, Bool.not_true, Bool.not_false, Nat.zero_add, decide_true, decide_false, if_true, if_false, Bool.false_eq_true, ↓reduceIte]
  rw [o_indexT (x := 0) (by decide) (by simp), show (0 : Int).toNat = 0 from rfl]
  rw [show bv ((UInt8.ofNat (97 + l.length) :: l).getD 0 0) = .int .u8 ((97 + l.length : Nat) : Int) by rw [List.getD_cons_zero]; unfold bv; rw [e97]]
  simp only [↓o_lenT, hlen, ↓o_nil, ↓o_field, ↓o_add, ↓o_sub, ↓o_mul, ↓o_lss, ↓o_leq, ↓o_gtr, ↓o_geq, ↓o_not, ↓o_pick, ↓o_eqInt, ↓o_neInt, ↓o_eqBool, ↓o_neBool, ↓o_eqPtr, ↓o_nePtr, ↓o_eqPtr', ↓o_eqSl, ↓o_neSl, ↓o_eqStr, ↓o_neStr, ↓o_len, ↓o_lenS, ↓o_min, ↓o_max, ↓o_extract, ↓o_convInt, ↓cd_true, ↓cd_false, ↓gate_tt, ↓gate_ff, ↓gate_tf, ↓gate_ft, ↓gate_undef, ↓o_bind, ↓stay_v, ↓pop_cons, ↓fin_nil, Option.isNone_none, Option.isNone_some, Bool.not_true, Bool.not_false, Nat.zero_add, decide_true, decide_false, if_true, if_false, Bool.false_eq_true, ↓reduceIte]
  rw [i64_of (n := ((97 + l.length : Nat) : Int)) (by omega) (by omega), i64_of (n := ((97 + l.length : Nat) : Int) - 97) (by omega) (by omega), i64_of (n := ((l.length + 1 : Nat) : Int) - 1) (by omega) (by omega)]
  have c3 : ((97 + l.length : Nat) : Int) - 97 = ((l.length + 1 : Nat) : Int) - 1 := by omega
  simp only [decide_eq_true c3, ↓o_nil, ↓o_field, ↓o_add, ↓o_sub, ↓o_mul, ↓o_lss, ↓o_leq, ↓o_gtr, ↓o_geq, ↓o_not, ↓o_pick, ↓o_eqInt, ↓o_neInt, ↓o_eqBool, ↓o_neBool, ↓o_eqPtr, ↓o_nePtr, ↓o_eqPtr', ↓o_eqSl, ↓o_neSl, ↓o_eqStr, ↓o_neStr, ↓o_len, ↓o_lenS, ↓o_min, ↓o_max, ↓o_extract, ↓o_convInt, ↓cd_true, ↓cd_false, ↓gate_tt, ↓gate_ff, ↓gate_tf, ↓gate_ft, ↓gate_undef, ↓o_bind, ↓stay_v, ↓pop_cons, ↓fin_nil, Option.isNone_none, Option.isNone_some, Bool.not_true, Bool.not_false, Nat.zero_add, decide_true, decide_false, if_true, if_false, Bool.false_eq_true, ↓reduceIte]
  refine lp_nat (fun r σ w => ∃ i : Nat, σ = [.int .i64 ((i + 1 : Nat) : Int)] ∧ r = l.length - i ∧ i ≤ l.length ∧ sat E w H) l.length ⟨0, rfl, by omega, by omega, h⟩ ?_
  clear h
  rintro r σ w again ⟨i, rfl, rfl, hi, h⟩ hag
  rw [pop_cons, fin_nil, o_lss]
  refine cd_dec (fun hlt => ?_) (fun hge => ?_)
  · have hi1 : i < l.length := by omega
    have hx : l[i]? = some l[i] := List.getElem?_eq_getElem hi1
    have hm := hmem _ (List.getElem_mem hi1)
    have hg : (UInt8.ofNat (97 + l.length) :: l).getD (i + 1) 0 = l[i] := by rw [List.getD_cons_succ, List.getD_eq_getElem?_getD, hx]; rfl
    have h48 : i = 0 → l[i] ≠ 48 := fun e e2 => hhead (by
      subst e
      cases hl2 : l with
      | nil => rw [hl2] at hi1; simp at hi1
      | cons c r =>
        simp only [hl2, List.getElem_cons_zero] at e2
        rw [e2]; simp)
    rw [o_indexT (x := ((i + 1 : Nat) : Int)) (by omega) (by rw [hlen]; omega), Int.toNat_natCast, hg]
    generalize l[i] = c at hx hm h48
    have hcn := c.toNat_lt
    have c48 : (48 : Int) ≤ (c.toNat : Int) := by rcases hex_mem hm with h | h <;> omega
    rw [show bv c = .int .u8 (c.toNat : Int) from rfl]
    have hnx : ∀ w, sat E w H → again [.int .i64 ((i + 1 + 1 : Nat) : Int)] w := fun w h => hag (l.length - (i + 1)) _ _ (by omega) ⟨i + 1, rfl, rfl, by omega, h⟩
    have hadd : IntKind.i64.wrap (((i + 1 : Nat) : Int) + 1) = ((i + 1 + 1 : Nat) : Int) := by rw [i64_of (by omega) (by omega)]; omega
    have hz : ∀ {A B : Prop}, (i = 0 → ¬ (c.toNat : Int) = 48 → A) → (¬ i = 0 → A) → A := fun f g => by
      by_cases e : i = 0
      · refine f e fun e2 => h48 e ?_
        apply UInt8.toNat_inj.1
        show c.toNat = 48
        omega
      · exact g e
    by_cases c57 : (c.toNat : Int) ≤ 57
    · simp only [decide_eq_true c48, decide_eq_true c57, ↓o_nil, ↓o_field, ↓o_add, ↓o_sub, ↓o_mul, ↓o_lss, ↓o_leq, ↓o_gtr, ↓o_geq, ↓o_not, ↓o_pick, ↓o_eqInt, ↓o_neInt, ↓o_eqBool, ↓o_neBool, ↓o_eqPtr, ↓o_nePtr, ↓o_eqPtr', ↓o_eqSl, ↓o_neSl, ↓o_eqStr, ↓o_neStr, ↓o_len, ↓o_lenS, ↓o_min, ↓o_max, ↓o_extract, ↓o_convInt, ↓cd_true, ↓cd_false, ↓gate_tt, ↓gate_ff, ↓gate_tf, ↓gate_ft, ↓gate_undef, ↓o_bind, ↓stay_v, ↓pop_cons, ↓fin_nil, Option.isNone_none, Option.isNone_some, Bool.not_true, Bool.not_false, Nat.zero_add, decide_true, decide_false, if_true, if_false, Bool.false_eq_true, ↓reduceIte]
      refine hz (B := True) (fun e e2 => ?_) (fun e => ?_)
      · have e1 : ((i + 1 : Nat) : Int) = 1 := by omega
        simp only [decide_eq_true e1, decide_eq_false e2, ↓o_nil, ↓o_field, ↓o_add, ↓o_sub, ↓o_mul, ↓o_lss, ↓o_leq, ↓o_gtr, ↓o_geq, ↓o_not, ↓o_pick, ↓o_eqInt, ↓o_neInt, ↓o_eqBool, ↓o_neBool, ↓o_eqPtr, ↓o_nePtr, ↓o_eqPtr', ↓o_eqSl, ↓o_neSl, ↓o_eqStr, ↓o_neStr, ↓o_len, ↓o_lenS, ↓o_min, ↓o_max, ↓o_extract, ↓o_convInt, ↓cd_true, ↓cd_false, ↓gate_tt, ↓gate_ff, ↓gate_tf, ↓gate_ft, ↓gate_undef, ↓o_bind, ↓stay_v, ↓pop_cons, ↓fin_nil, Option.isNone_none, Option.isNone_some, Bool.not_true, Bool.not_false, Nat.zero_add, decide_true, decide_false, if_true, if_false, Bool.false_eq_true, ↓reduceIte]
        rw [hadd]
        exact hnx w h
      · have e1 : ¬ ((i + 1 : Nat) : Int) = 1 := by omega
        simp only [decide_eq_false e1, ↓o_nil, ↓o_field, ↓o_add, ↓o_sub, ↓o_mul, ↓o_lss, ↓o_leq, ↓o_gtr, ↓o_geq, ↓o_not, ↓o_pick, ↓o_eqInt, ↓o_neInt, ↓o_eqBool, ↓o_neBool, ↓o_eqPtr, ↓o_nePtr, ↓o_eqPtr', ↓o_eqSl, ↓o_neSl, ↓o_eqStr, ↓o_neStr, ↓o_len, ↓o_lenS, ↓o_min, ↓o_max, ↓o_extract, ↓o_convInt, ↓cd_true, ↓cd_false, ↓gate_tt, ↓gate_ff, ↓gate_tf, ↓gate_ft, ↓gate_undef, ↓o_bind, ↓stay_v, ↓pop_cons, ↓fin_nil, Option.isNone_none, Option.isNone_some, Bool.not_true, Bool.not_false, Nat.zero_add, decide_true, decide_false, if_true, if_false, Bool.false_eq_true, ↓reduceIte]
        rw [hadd]
        exact hnx w h
    · have hr : 97 ≤ c.toNat ∧ c.toNat ≤ 102 := by rcases hex_mem hm with h | h <;> omega
      have c97 : (97 : Int) ≤ (c.toNat : Int) := by omega
      have c102 : (c.toNat : Int) ≤ 102 := by omega
      simp only [decide_eq_true c48, decide_eq_false c57, decide_eq_true c97, decide_eq_true c102, ↓o_nil, ↓o_field, ↓o_add, ↓o_sub, ↓o_mul, ↓o_lss, ↓o_leq, ↓o_gtr, ↓o_geq, ↓o_not, ↓o_pick, ↓o_eqInt, ↓o_neInt, ↓o_eqBool, ↓o_neBool, ↓o_eqPtr, ↓o_nePtr, ↓o_eqPtr', ↓o_eqSl, ↓o_neSl, ↓o_eqStr, ↓o_neStr, ↓o_len, ↓o_lenS, ↓o_min, ↓o_max, ↓o_extract, ↓o_convInt, ↓cd_true, ↓cd_false, ↓gate_tt, ↓gate_ff, ↓gate_tf, ↓gate_ft, ↓gate_undef, ↓o_bind, ↓stay_v, ↓pop_cons, ↓fin_nil, Option.isNone_none, Option.isNone_some, Bool.not_true, Bool.not_false, Nat.zero_add, decide_true, decide_false, if_true, if_false, Bool.false_eq_true, ↓reduceIte]
      refine hz (B := True) (fun e e2 => ?_) (fun e => ?_)
      · have e1 : ((i + 1 : Nat) : Int) = 1 := by omega
        simp only [decide_eq_true e1, decide_eq_false e2, ↓o_nil, ↓o_field, ↓o_add, ↓o_sub, ↓o_mul, ↓o_lss, ↓o_leq, ↓o_gtr, ↓o_geq, ↓o_not, ↓o_pick, ↓o_eqInt, ↓o_neInt, ↓o_eqBool, ↓o_neBool, ↓o_eqPtr, ↓o_nePtr, ↓o_eqPtr', ↓o_eqSl, ↓o_neSl, ↓o_eqStr, ↓o_neStr, ↓o_len, ↓o_lenS, ↓o_min, ↓o_max, ↓o_extract, ↓o_convInt, ↓cd_true, ↓cd_false, ↓gate_tt, ↓gate_ff, ↓gate_tf, ↓gate_ft, ↓gate_undef, ↓o_bind, ↓stay_v, ↓pop_cons, ↓fin_nil, Option.isNone_none, Option.isNone_some, Bool.not_true, Bool.not_false, Nat.zero_add, decide_true, decide_false, if_true, if_false, Bool.false_eq_true, ↓reduceIte]
        rw [hadd]
        exact hnx w h
      · have e1 : ¬ ((i + 1 : Nat) : Int) = 1 := by omega
        simp only [decide_eq_false e1, ↓o_nil, ↓o_field, ↓o_add, ↓o_sub, ↓o_mul, ↓o_lss, ↓o_leq, ↓o_gtr, ↓o_geq, ↓o_not, ↓o_pick, ↓o_eqInt, ↓o_neInt, ↓o_eqBool, ↓o_neBool, ↓o_eqPtr, ↓o_nePtr, ↓o_eqPtr', ↓o_eqSl, ↓o_neSl, ↓o_eqStr, ↓o_neStr, ↓o_len, ↓o_lenS, ↓o_min, ↓o_max, ↓o_extract, ↓o_convInt, ↓cd_true, ↓cd_false, ↓gate_tt, ↓gate_ff, ↓gate_tf, ↓gate_ft, ↓gate_undef, ↓o_bind, ↓stay_v, ↓pop_cons, ↓fin_nil, Option.isNone_none, Option.isNone_some, Bool.not_true, Bool.not_false, Nat.zero_add, decide_true, decide_false, if_true, if_false, Bool.false_eq_true, ↓reduceIte]
        rw [hadd]
        exact hnx w h
  clear hag
  refine lp_nat (fun r σ w => ∃ i : Nat, σ = [.int .i64 (hexVal (l.take i) : Int), .int .i64 ((i + 1 : Nat) : Int)] ∧ r = l.length - i ∧ i ≤ l.length ∧ sat E w H) l.length ⟨0, by simp [hexVal], by omega, by omega, h⟩ ?_
  clear h
  rintro r σ w again ⟨i, rfl, rfl, hi, h⟩ hag
  rw [pop_cons, pop_cons, fin_nil, o_lss]
  refine cd_dec (fun hlt => ?_) (fun hge => ?_)
  · have hi1 : i < l.length := by omega
    have hx : l[i]? = some l[i] := List.getElem?_eq_getElem hi1
    have hm := hmem _ (List.getElem_mem hi1)
    have hg : (UInt8.ofNat (97 + l.length) :: l).getD (i + 1) 0 = l[i] := by rw [List.getD_cons_succ, List.getD_eq_getElem?_getD, hx]; rfl
    have htk : l.take (i + 1) = l.take i ++ [l[i]] := List.take_succ_eq_append_getElem hi1
    have ix : ∀ {w : World} {K : Value → World → Prop}, pvv prog (Instr.index 9 (tv (UInt8.ofNat (97 + l.length) :: l)) (.int .i64 ((i + 1 : Nat) : Int))) w K = K (bv l[i]) w := fun {w K} => by
      rw [o_indexT (x := ((i + 1 : Nat) : Int)) (by omega) (by rw [hlen]; omega), Int.toNat_natCast, hg]
    simp only [ix]
    generalize l[i] = c at hx hm htk
    have hcn := c.toNat_lt
    have hnext : hexVal (l.take (i + 1)) = hexVal (l.take i) * 16 + hexv c := by rw [htk, hexVal_snoc]
    have h1 := hle i; have h2 := hle (i + 1)
    have hdv := hexv_lt hm
    rw [show bv c = .int .u8 (c.toNat : Int) from rfl, o_convInt, o_sub]
    refine jn_cut (fun σ w => σ = [.int .i64 (hexv c : Int)] ∧ sat E w H) (fun kj hkj => ?_) ?_
    · rcases hex_mem hm with hr | hr
      · have c97 : ¬ (97 : Int) ≤ (c.toNat : Int) := by omega
        simp only [decide_eq_false c97, ↓o_nil, ↓o_field, ↓o_add, ↓o_sub, ↓o_mul, ↓o_lss, ↓o_leq, ↓o_gtr, ↓o_geq, ↓o_not, ↓o_pick, ↓o_eqInt, ↓o_neInt, ↓o_eqBool, ↓o_neBool, ↓o_eqPtr, ↓o_nePtr, ↓o_eqPtr', ↓o_eqSl, ↓o_neSl, ↓o_eqStr, ↓o_neStr, ↓o_len, ↓o_lenS, ↓o_min, ↓o_max, ↓o_extract, ↓o_convInt, ↓cd_true, ↓cd_false, ↓gate_tt, ↓gate_ff, ↓gate_tf, ↓gate_ft, ↓gate_undef, ↓o_bind, ↓stay_v, ↓pop_cons, ↓fin_nil, Option.isNone_none, Option.isNone_some, Bool.not_true, Bool.not_false, Nat.zero_add, decide_true, decide_false, if_true, if_false, Bool.false_eq_true, ↓reduceIte]
        refine hkj _ _ ⟨?_, h⟩
        have e : hexv c = c.toNat - 48 := by unfold hexv; rw [if_pos hr.2]
        rw [e, i64_of (n := (c.toNat : Int)) (by omega) (by omega), i64_of (by omega) (by omega)]
        congr 2
        omega
      · have c97 : (97 : Int) ≤ (c.toNat : Int) := by omega
        simp only [decide_eq_true c97, ↓o_nil, ↓o_field, ↓o_add, ↓o_sub, ↓o_mul, ↓o_lss, ↓o_leq, ↓o_gtr, ↓o_geq, ↓o_not, ↓o_pick, ↓o_eqInt, ↓o_neInt, ↓o_eqBool, ↓o_neBool, ↓o_eqPtr, ↓o_nePtr, ↓o_eqPtr', ↓o_eqSl, ↓o_neSl, ↓o_eqStr, ↓o_neStr, ↓o_len, ↓o_lenS, ↓o_min, ↓o_max, ↓o_extract, ↓o_convInt, ↓cd_true, ↓cd_false, ↓gate_tt, ↓gate_ff, ↓gate_tf, ↓gate_ft, ↓gate_undef, ↓o_bind, ↓stay_v, ↓pop_cons, ↓fin_nil, Option.isNone_none, Option.isNone_some, Bool.not_true, Bool.not_false, Nat.zero_add, decide_true, decide_false, if_true, if_false, Bool.false_eq_true, ↓reduceIte]
        refine hkj _ _ ⟨?_, h⟩
        have e : hexv c = c.toNat - 87 := by unfold hexv; rw [if_neg (by omega)]
        rw [e, i64_of (n := (c.toNat : Int)) (by omega) (by omega), i64_of (n := (c.toNat : Int) - 97) (by omega) (by omega), i64_of (by omega) (by omega)]
        congr 2
        omega
    · clear h
      rintro σ w ⟨rfl, h⟩
      have d1 : ¬ (288230376151711744 : Int) < (hexVal (l.take i) : Int) := by omega
      have d2 : ¬ (hexVal (l.take i) : Int) = 288230376151711744 := by omega
      simp only [pop_cons, fin_nil, decide_eq_false d1, decide_eq_false d2, ↓o_nil, ↓o_field, ↓o_add, ↓o_sub, ↓o_mul, ↓o_lss, ↓o_leq, ↓o_gtr, ↓o_geq, ↓o_not, ↓o_pick, ↓o_eqInt, ↓o_neInt, ↓o_eqBool, ↓o_neBool, ↓o_eqPtr, ↓o_nePtr, ↓o_eqPtr', ↓o_eqSl, ↓o_neSl, ↓o_eqStr, ↓o_neStr, ↓o_len, ↓o_lenS, ↓o_min, ↓o_max, ↓o_extract, ↓o_convInt, ↓cd_true, ↓cd_false, ↓gate_tt, ↓gate_ff, ↓gate_tf, ↓gate_ft, ↓gate_undef, ↓o_bind, ↓stay_v, ↓pop_cons, ↓fin_nil, Option.isNone_none, Option.isNone_some, Bool.not_true, Bool.not_false, Nat.zero_add, decide_true, decide_false, if_true, if_false, Bool.false_eq_true, ↓reduceIte]
      rw [i64_of (n := (hexVal (l.take i) : Int) * 16) (by omega) (by omega), i64_of (n := (hexVal (l.take i) : Int) * 16 + (hexv c : Int)) (by omega) (by omega), i64_of (by omega) (by omega)]
      refine hag (l.length - (i + 1)) _ _ (by omega) ⟨i + 1, ?_, rfl, by omega, h⟩
      rw [hnext]
      congr 2
  · have hil : i = l.length := by omega
    subst hil
    rw [List.take_length, hval]
    exact k w h
theorem RHash_spec {key l : List UInt8} {v : Value} (hl : l.length = 32) (h : sat E w H) (hv : Rds H v 1 [tv l]) (k : ∀ w', sat E w' H → K (.tuple #[.agg (l.map bv).toArray, .bool true]) w') : Calls prog 30 #[.agg (rvc ⟨key, v, [l]⟩).toArray, tv key] w (Ret K) := by
  obtain ⟨va, vc, rfl, hvc, hv, _⟩ := hv.shape h
  obtain ⟨b1, o1, c1, e1, _, hv⟩ := hv.opened h (by simp)
  cases e1
  refine c30 ?_
  unfold B30
  refine box_sl h fun rb w h => ?_
  have h : sat E w (pts rb (.cells (rvc ⟨key, .slice (some ⟨b1, o1, none⟩) 1 vc, [l]⟩).toArray 35 (0, 0)) * H) := h
  refine alloc_sl h fun tb w h => ?_
  have h : sat E w (pts tb (.cells (zeros32.map bv).toArray 44 (0, 0)) * (pts rb (.cells (rvc ⟨key, .slice (some ⟨b1, o1, none⟩) 1 vc, [l]⟩).toArray 35 (0, 0)) * H)) := h
  refine alloc_sl h fun hb w h => ?_
  have h : sat E w (pts hb (.cells (zeros32.map bv).toArray 44 (0, 0)) * (pts tb (.cells (zeros32.map bv).toArray 44 (0, 0)) * (pts rb (.cells (rvc ⟨key, .slice (some ⟨b1, o1, none⟩) 1 vc, [l]⟩).toArray 35 (0, 0)) * H))) := h
  simp only [↓o_nil, ↓o_field, ↓o_add, ↓o_sub, ↓o_mul, ↓o_lss, ↓o_leq, ↓o_gtr, ↓o_geq, ↓o_not, ↓o_pick, ↓o_eqInt, ↓o_neInt, ↓o_eqBool, ↓o_neBool, ↓o_eqPtr, ↓o_nePtr, ↓o_eqPtr', ↓o_eqSl, ↓o_neSl, ↓o_eqStr, ↓o_neStr, ↓o_len, ↓o_lenS, ↓o_min, ↓o_max, ↓o_extract, ↓o_convInt, ↓cd_true, ↓cd_false, ↓gate_tt, ↓gate_ff, ↓gate_tf, ↓gate_ft, ↓gate_undef, ↓o_bind, ↓stay_v, ↓pop_cons, ↓fin_nil, Option.isNone_none, Option.isNone_some, Bool.not_true, Bool.not_false, Nat.zero_add, decide_true, decide_false, if_true, if_false, Bool.false_eq_true, ↓reduceIte]
  refine ld_in (b := rb) (v := tv key) h rfl ?_
  rw [o_neT, show (!decide (key = key)) = false by simp]
  try simp only [↓o_nil, ↓o_field, ↓o_add, ↓o_sub, ↓o_mul, ↓o_lss, ↓o_leq, ↓o_gtr, ↓o_geq, ↓o_not, ↓o_pick, ↓o_eqInt, ↓o_neInt, ↓o_eqBool, ↓o_neBool, ↓o_eqPtr, ↓o_nePtr, ↓o_eqPtr', ↓o_eqSl, ↓o_neSl, ↓o_eqStr, ↓o_neStr, ↓o_len, ↓o_lenS, ↓o_min, ↓o_max, ↓o_extract, ↓o_convInt, ↓cd_true, ↓cd_false, ↓gate_tt, ↓gate_ff, ↓gate_tf, ↓gate_ft, ↓gate_undef, ↓o_bind, ↓stay_v, ↓pop_cons, ↓fin_nil, Option.isNone_none, Option.isNone_some, Bool.not_true, Bool.not_false, Nat.zero_add, decide_true, decide_false, if_true, if_false, Bool.false_eq_true, ↓reduceIte]
  refine ld_in (b := rb) (v := .slice (some ⟨b1, o1, none⟩) 1 vc) h rfl ?_
  simp only [show decide (((1 : Nat) : Int) = 1) = true from rfl, ↓o_nil, ↓o_field, ↓o_add, ↓o_sub, ↓o_mul, ↓o_lss, ↓o_leq, ↓o_gtr, ↓o_geq, ↓o_not, ↓o_pick, ↓o_eqInt, ↓o_neInt, ↓o_eqBool, ↓o_neBool, ↓o_eqPtr, ↓o_nePtr, ↓o_eqPtr', ↓o_eqSl, ↓o_neSl, ↓o_eqStr, ↓o_neStr, ↓o_len, ↓o_lenS, ↓o_min, ↓o_max, ↓o_extract, ↓o_convInt, ↓cd_true, ↓cd_false, ↓gate_tt, ↓gate_ff, ↓gate_tf, ↓gate_ft, ↓gate_undef, ↓o_bind, ↓stay_v, ↓pop_cons, ↓fin_nil, Option.isNone_none, Option.isNone_some, Bool.not_true, Bool.not_false, Nat.zero_add, decide_true, decide_false, if_true, if_false, Bool.false_eq_true, ↓reduceIte]
  refine ld_in (b := rb) (v := .slice (some ⟨b1, o1, none⟩) 1 vc) h rfl ?_
  try simp only [↓o_nil, ↓o_field, ↓o_add, ↓o_sub, ↓o_mul, ↓o_lss, ↓o_leq, ↓o_gtr, ↓o_geq, ↓o_not, ↓o_pick, ↓o_eqInt, ↓o_neInt, ↓o_eqBool, ↓o_neBool, ↓o_eqPtr, ↓o_nePtr, ↓o_eqPtr', ↓o_eqSl, ↓o_neSl, ↓o_eqStr, ↓o_neStr, ↓o_len, ↓o_lenS, ↓o_min, ↓o_max, ↓o_extract, ↓o_convInt, ↓cd_true, ↓cd_false, ↓gate_tt, ↓gate_ff, ↓gate_tf, ↓gate_ft, ↓gate_undef, ↓o_bind, ↓stay_v, ↓pop_cons, ↓fin_nil, Option.isNone_none, Option.isNone_some, Bool.not_true, Bool.not_false, Nat.zero_add, decide_true, decide_false, if_true, if_false, Bool.false_eq_true, ↓reduceIte]
  rw [o_index (by decide) (by decide)]
  try simp only [↓o_nil, ↓o_field, ↓o_add, ↓o_sub, ↓o_mul, ↓o_lss, ↓o_leq, ↓o_gtr, ↓o_geq, ↓o_not, ↓o_pick, ↓o_eqInt, ↓o_neInt, ↓o_eqBool, ↓o_neBool, ↓o_eqPtr, ↓o_nePtr, ↓o_eqPtr', ↓o_eqSl, ↓o_neSl, ↓o_eqStr, ↓o_neStr, ↓o_len, ↓o_lenS, ↓o_min, ↓o_max, ↓o_extract, ↓o_convInt, ↓cd_true, ↓cd_false, ↓gate_tt, ↓gate_ff, ↓gate_tf, ↓gate_ft, ↓gate_undef, ↓o_bind, ↓stay_v, ↓pop_cons, ↓fin_nil, Option.isNone_none, Option.isNone_some, Bool.not_true, Bool.not_false, Nat.zero_add, decide_true, decide_false, if_true, if_false, Bool.false_eq_true, ↓reduceIte]
  refine ld_rd h hv.right.right.right 0 rfl (v := tv l) rfl ?_
  try simp only [↓o_lenT, ↓o_nil, ↓o_field, ↓o_add, ↓o_sub, ↓o_mul, ↓o_lss, ↓o_leq, ↓o_gtr, ↓o_geq, ↓o_not, ↓o_pick, ↓o_eqInt, ↓o_neInt, ↓o_eqBool, ↓o_neBool, ↓o_eqPtr, ↓o_nePtr, ↓o_eqPtr', ↓o_eqSl, ↓o_neSl, ↓o_eqStr, ↓o_neStr, ↓o_len, ↓o_lenS, ↓o_min, ↓o_max, ↓o_extract, ↓o_convInt, ↓cd_true, ↓cd_false, ↓gate_tt, ↓gate_ff, ↓gate_tf, ↓gate_ft, ↓gate_undef, ↓o_bind, ↓stay_v, ↓pop_cons, ↓fin_nil, Option.isNone_none, Option.isNone_some, Bool.not_true, Bool.not_false, Nat.zero_add, decide_true, decide_false, if_true, if_false, Bool.false_eq_true, ↓reduceIte]
  rw [show (!decide ((l.length : Int) = 32)) = false by simp [hl], cd_false]
  refine lp_nat (fun r σ w => ∃ i : Nat, σ = [.int .i64 i] ∧ r = 32 - i ∧ i ≤ 32 ∧ sat E w (pts hb (.cells ((l.take i ++ zeros32.drop i).map bv).toArray 44 (0, 0)) * (pts tb (.cells (zeros32.map bv).toArray 44 (0, 0)) * (pts rb (.cells (rvc ⟨key, .slice (some ⟨b1, o1, none⟩) 1 vc, [l]⟩).toArray 35 (0, 0)) * H)))) 32 ⟨0, rfl, rfl, by omega, by simpa using h⟩ ?_
  clear h
  rintro r σ w again ⟨i, rfl, rfl, hi, h⟩ hag
  try simp only [↓o_nil, ↓o_field, ↓o_add, ↓o_sub, ↓o_mul, ↓o_lss, ↓o_leq, ↓o_gtr, ↓o_geq, ↓o_not, ↓o_pick, ↓o_eqInt, ↓o_neInt, ↓o_eqBool, ↓o_neBool, ↓o_eqPtr, ↓o_nePtr, ↓o_eqPtr', ↓o_eqSl, ↓o_neSl, ↓o_eqStr, ↓o_neStr, ↓o_len, ↓o_lenS, ↓o_min, ↓o_max, ↓o_extract, ↓o_convInt, ↓cd_true, ↓cd_false, ↓gate_tt, ↓gate_ff, ↓gate_tf, ↓gate_ft, ↓gate_undef, ↓o_bind, ↓stay_v, ↓pop_cons, ↓fin_nil, Option.isNone_none, Option.isNone_some, Bool.not_true, Bool.not_false, Nat.zero_add, decide_true, decide_false, if_true, if_false, Bool.false_eq_true, ↓reduceIte]
  refine cd_dec (fun hlt => ?_) (fun hge => ?_)
  · have hi1 : i < 32 := by omega
    have hx : l[i]? = some (l.getD i 0) := by rw [List.getD_eq_getElem?_getD, List.getElem?_eq_getElem (by omega)]; rfl
    refine ld_in (b := rb) (v := .slice (some ⟨b1, o1, none⟩) 1 vc) h rfl ?_
    rw [o_index (by decide) (by decide)]
    refine ld_rd h hv.right.right.right 0 rfl (v := tv l) rfl ?_
    rw [o_indexT (x := (i : Int)) (by omega) (by omega), Int.toNat_natCast]
    rw [o_indexA (by omega) (by omega), Int.toNat_natCast]
    refine store_sl (b := hb) h rfl (by simp [zeros32]; omega) fun w h => ?_
    try simp only [↓o_nil, ↓o_field, ↓o_add, ↓o_sub, ↓o_mul, ↓o_lss, ↓o_leq, ↓o_gtr, ↓o_geq, ↓o_not, ↓o_pick, ↓o_eqInt, ↓o_neInt, ↓o_eqBool, ↓o_neBool, ↓o_eqPtr, ↓o_nePtr, ↓o_eqPtr', ↓o_eqSl, ↓o_neSl, ↓o_eqStr, ↓o_neStr, ↓o_len, ↓o_lenS, ↓o_min, ↓o_max, ↓o_extract, ↓o_convInt, ↓cd_true, ↓cd_false, ↓gate_tt, ↓gate_ff, ↓gate_tf, ↓gate_ft, ↓gate_undef, ↓o_bind, ↓stay_v, ↓pop_cons, ↓fin_nil, Option.isNone_none, Option.isNone_some, Bool.not_true, Bool.not_false, Nat.zero_add, decide_true, decide_false, if_true, if_false, Bool.false_eq_true, ↓reduceIte]
    rw [i64_of (by omega) (by omega)]
    refine hag (32 - (i + 1)) _ _ (by omega) ⟨i + 1, rfl, rfl, by omega, ?_⟩
    rw [← List.map_set] at h
    have e : (l.take i ++ zeros32.drop i).set i (l.getD i 0) = l.take (i + 1) ++ zeros32.drop (i + 1) := take_drop_set (n := 32) hl rfl hi1 hx
    simp only [Nat.mul_one, Nat.zero_add] at h
    rw [e] at h
    exact h
  · have hi2 : i = 32 := by omega
    subst hi2
    have e : l.take 32 ++ zeros32.drop 32 = l := by rw [List.take_of_length_le (by omega)]; simp [zeros32]
    rw [e] at h
    refine ld_agg (b := hb) h (by simp [hl]) ?_
    exact hash_ret (K := fun r w => K (.tuple #[r, .bool true]) w) (b := tb) h hl (ol := zeros32) rfl fun w h => k _ h.drop.drop.drop
end Go.Proofs.YtjeiojibnmfibaaGreatDoor

/-
  The reference loads a chain from its rows.
-/
set_option linter.all false
set_option maxRecDepth 100000
namespace Go.Proofs.YtjeiojibnmfibaaGreatDoor
open Go Hold
variable {E : World0} {w : World} {H R : HP} {K : Value → World → Prop}
theorem RNumT_spec (h : sat E w H) {n : Int} (h0 : 0 ≤ n) (h1 : n ≤ 1125899906842624) (k : ∀ w', sat E w' H → K (.tuple #[.int .i64 n, .int .i64 0]) w') : Calls prog 29 #[tv (numT n)] w (Ret K) := by
  rw [numT_nat h0 (by omega)]
  refine RToNumber_spec h (n := n.toNat) (by omega) fun w h => ?_
  rw [Int.toNat_of_nonneg h0]
  exact k w h
theorem fn32 {l : List UInt8} (hl : l.length = 32) : ∃ f : Nat → UInt8, l = (List.range 32).map f := ⟨fun i => l.getD i 0, by
    apply List.ext_getElem
    · simp [hl]
    · intro i h1 h2
      simp [List.getD_eq_getElem?_getD, h1]⟩
theorem build54 {s : Ch} (hb : s.bh.length = 32) (ha : s.ah.length = 32) (hh : s.hd.length = 32) (k : K (.agg (rcells s (.slice none 0 0)).toArray) w) :
    pvv prog (Instr.build 54 #[(0, .int .i64 s.bn), (1, .int .i64 s.an), (2, .int .i64 s.last), (3, .agg (s.bh.map bv).toArray), (4, .agg (s.ah.map bv).toArray), (5, .agg (s.hd.map bv).toArray)]) w K := by
  obtain ⟨bn, bh, an, ah, hd, last, l⟩ := s
  simp only at hb ha hh
  obtain ⟨f, rfl⟩ := fn32 hb
  obtain ⟨g, rfl⟩ := fn32 ha
  obtain ⟨j, rfl⟩ := fn32 hh
  exact pvv_of (fun w => by kernel_rfl) k
theorem RLoad_spec {u : Value} {l : List RV} {s : Ch} {m : Nat} (ok : Ok s m) (hm : m ≤ 1000000) (sm : Small s) (rn : Risen s) (hs : l.map RV.said = rowsOf s) (h : sat E w H) (hrl : Rds H u l.length (rvs l)) (hcols : ∀ x ∈ l, Rds H x.v x.cols.length (x.cols.map tv))
    (k : ∀ p v w', sat E w' (chR p s v H) → K (.tuple #[.pointer (some ⟨p, 0, none⟩), .int .i64 0]) w') : Calls prog 10 #[u] w (Ret K) := by
  have hlen : l.length = 4 + s.l.length := by
    have := congrArg List.length hs
    simp [rowsOf, heads] at this
    omega
  have hfew := ok.few
  have hcol : ∀ {i : Nat} {x : RV}, l[i]? = some x → Rds H x.v x.cols.length (x.cols.map tv) := fun hx => hcols _ (List.mem_of_getElem? hx)
  obtain ⟨x0, hx0, s0⟩ := said_row hs (i := 0) rfl
  obtain ⟨x1, hx1, s1⟩ := said_row hs (i := 1) rfl
  obtain ⟨x2, hx2, s2⟩ := said_row hs (i := 2) rfl
  obtain ⟨x3, hx3, s3⟩ := said_row hs (i := 3) rfl
  obtain ⟨k0, v0, c0⟩ := x0
  obtain ⟨k1, v1, c1⟩ := x1
  obtain ⟨k2, v2, c2⟩ := x2
  obtain ⟨k3, v3, c3⟩ := x3
  simp only [RV.said, Prod.mk.injEq] at s0 s1 s2 s3
  obtain ⟨rfl, rfl⟩ := s0
  obtain ⟨rfl, rfl⟩ := s1
  obtain ⟨rfl, rfl⟩ := s2
  obtain ⟨rfl, rfl⟩ := s3
  have hv0 : Rds H v0 3 [tv (numT s.bn), tv (numT s.an), tv (numT s.last)] := hcol hx0
  obtain ⟨cb, co, cc, rfl, hcc, hc0⟩ := hv0.opened h (by simp)
  obtain ⟨ub, uo, uc, rfl, huc, hrl⟩ := hrl.opened h (by rw [rvs_length]; omega)
  have hb0 := ok.b0; have ha0 := ok.a0; have hle := ok.le; have htop := ok.top
  have hl0 := sm.l0; have hl1 := sm.l1
  refine c10 ?_
  unfold B10
  rw [o_len]
  try simp only [decide_eq_false (show ¬ (l.length : Int) < 4 by omega), decide_eq_false (show ¬ (68 : Int) < (l.length : Int) by omega), ↓o_nil, ↓o_field, ↓o_add, ↓o_sub, ↓o_mul, ↓o_lss, ↓o_leq, ↓o_gtr, ↓o_geq, ↓o_not, ↓o_pick, ↓o_eqInt, ↓o_neInt, ↓o_eqBool, ↓o_neBool, ↓o_eqPtr, ↓o_nePtr, ↓o_eqPtr', ↓o_eqSl, ↓o_neSl, ↓o_eqStr, ↓o_neStr, ↓o_len, ↓o_lenS, ↓o_min, ↓o_max, ↓o_extract, ↓o_convInt, ↓cd_true, ↓cd_false, ↓gate_tt, ↓gate_ff, ↓gate_tf, ↓gate_ft, ↓gate_undef, ↓o_bind, ↓stay_v, ↓pop_cons, ↓fin_nil, Option.isNone_none, Option.isNone_some, Bool.not_true, Bool.not_false, Nat.zero_add, decide_true, decide_false, if_true, if_false, Bool.false_eq_true, ↓reduceIte]
  have ix : ∀ (i : Nat) {w : World} {K : Value → World → Prop}, i < l.length → pvv prog (Instr.indexAt 31 (.slice (some ⟨ub, uo, none⟩) l.length uc) (.int .i64 (i : Int))) w K = K (.pointer (some ⟨ub, uo + i * 2, none⟩)) w := fun i {w K} hi => by
    rw [o_index (by omega) (by omega), Int.toNat_natCast]
  have ix0 : ∀ {w : World} {K : Value → World → Prop}, pvv prog (Instr.indexAt 31 (.slice (some ⟨ub, uo, none⟩) l.length uc) (.int .i64 0)) w K = K (.pointer (some ⟨ub, uo, none⟩)) w := fun {w K} => ix 0 (by omega)
  have ix1 : ∀ {w : World} {K : Value → World → Prop}, pvv prog (Instr.indexAt 31 (.slice (some ⟨ub, uo, none⟩) l.length uc) (.int .i64 1)) w K = K (.pointer (some ⟨ub, uo + 2, none⟩)) w := fun {w K} => ix 1 (by omega)
  have ix2 : ∀ {w : World} {K : Value → World → Prop}, pvv prog (Instr.indexAt 31 (.slice (some ⟨ub, uo, none⟩) l.length uc) (.int .i64 2)) w K = K (.pointer (some ⟨ub, uo + 4, none⟩)) w := fun {w K} => ix 2 (by omega)
  have ix3 : ∀ {w : World} {K : Value → World → Prop}, pvv prog (Instr.indexAt 31 (.slice (some ⟨ub, uo, none⟩) l.length uc) (.int .i64 3)) w K = K (.pointer (some ⟨ub, uo + 6, none⟩)) w := fun {w K} => ix 3 (by omega)
  have cx0 : ∀ {w : World} {K : Value → World → Prop}, pvv prog (Instr.indexAt 33 (.slice (some ⟨cb, co, none⟩) 3 cc) (.int .i64 0)) w K = K (.pointer (some ⟨cb, co, none⟩)) w := fun {w K} => by rw [o_index (by decide) (by decide)]; rfl
  have cx1 : ∀ {w : World} {K : Value → World → Prop}, pvv prog (Instr.indexAt 33 (.slice (some ⟨cb, co, none⟩) 3 cc) (.int .i64 1)) w K = K (.pointer (some ⟨cb, co + 1, none⟩)) w := fun {w K} => by rw [o_index (by decide) (by decide)]; rfl
  have cx2 : ∀ {w : World} {K : Value → World → Prop}, pvv prog (Instr.indexAt 33 (.slice (some ⟨cb, co, none⟩) 3 cc) (.int .i64 2)) w K = K (.pointer (some ⟨cb, co + 2, none⟩)) w := fun {w K} => by rw [o_index (by decide) (by decide)]; rfl
  have hcell : ∀ {i f : Nat} {x : RV} {val : Value}, l[i]? = some x → (rvc x)[f]? = some val → (rvs l)[i * 2 + f]? = some val := fun hx hf => take_cell (rvs_at hx) hf
  have e35 : (.string ⟨#[35]⟩ : Value) = tv [35] := rfl
  try simp only [ix0, ix1, ix2, ix3, ↓o_nil, ↓o_field, ↓o_add, ↓o_sub, ↓o_mul, ↓o_lss, ↓o_leq, ↓o_gtr, ↓o_geq, ↓o_not, ↓o_pick, ↓o_eqInt, ↓o_neInt, ↓o_eqBool, ↓o_neBool, ↓o_eqPtr, ↓o_nePtr, ↓o_eqPtr', ↓o_eqSl, ↓o_neSl, ↓o_eqStr, ↓o_neStr, ↓o_len, ↓o_lenS, ↓o_min, ↓o_max, ↓o_extract, ↓o_convInt, ↓cd_true, ↓cd_false, ↓gate_tt, ↓gate_ff, ↓gate_tf, ↓gate_ft, ↓gate_undef, ↓o_bind, ↓stay_v, ↓pop_cons, ↓fin_nil, Option.isNone_none, Option.isNone_some, Bool.not_true, Bool.not_false, Nat.zero_add, decide_true, decide_false, if_true, if_false, Bool.false_eq_true, ↓reduceIte]
  refine ld_rd h hrl (0 * 2 + 0) rfl (hcell hx0 rfl) ?_
  rw [e35, o_neT, show (!decide (([35] : List UInt8) = [35])) = false from rfl]
  try simp only [ix0, ix1, ix2, ix3, ↓o_nil, ↓o_field, ↓o_add, ↓o_sub, ↓o_mul, ↓o_lss, ↓o_leq, ↓o_gtr, ↓o_geq, ↓o_not, ↓o_pick, ↓o_eqInt, ↓o_neInt, ↓o_eqBool, ↓o_neBool, ↓o_eqPtr, ↓o_nePtr, ↓o_eqPtr', ↓o_eqSl, ↓o_neSl, ↓o_eqStr, ↓o_neStr, ↓o_len, ↓o_lenS, ↓o_min, ↓o_max, ↓o_extract, ↓o_convInt, ↓cd_true, ↓cd_false, ↓gate_tt, ↓gate_ff, ↓gate_tf, ↓gate_ft, ↓gate_undef, ↓o_bind, ↓stay_v, ↓pop_cons, ↓fin_nil, Option.isNone_none, Option.isNone_some, Bool.not_true, Bool.not_false, Nat.zero_add, decide_true, decide_false, if_true, if_false, Bool.false_eq_true, ↓reduceIte]
  refine ld_rd h hrl (0 * 2 + 1) rfl (hcell hx0 rfl) ?_
  try simp only [show decide (((3 : Nat) : Int) = 3) = true from rfl, ↓o_nil, ↓o_field, ↓o_add, ↓o_sub, ↓o_mul, ↓o_lss, ↓o_leq, ↓o_gtr, ↓o_geq, ↓o_not, ↓o_pick, ↓o_eqInt, ↓o_neInt, ↓o_eqBool, ↓o_neBool, ↓o_eqPtr, ↓o_nePtr, ↓o_eqPtr', ↓o_eqSl, ↓o_neSl, ↓o_eqStr, ↓o_neStr, ↓o_len, ↓o_lenS, ↓o_min, ↓o_max, ↓o_extract, ↓o_convInt, ↓cd_true, ↓cd_false, ↓gate_tt, ↓gate_ff, ↓gate_tf, ↓gate_ft, ↓gate_undef, ↓o_bind, ↓stay_v, ↓pop_cons, ↓fin_nil, Option.isNone_none, Option.isNone_some, Bool.not_true, Bool.not_false, Nat.zero_add, decide_true, decide_false, if_true, if_false, Bool.false_eq_true, ↓reduceIte]
  refine ld_rd h hrl (0 * 2 + 1) rfl (hcell hx0 rfl) ?_
  try simp only [List.length_cons, List.length_nil, cx0, cx1, cx2, ↓o_nil, ↓o_field, ↓o_add, ↓o_sub, ↓o_mul, ↓o_lss, ↓o_leq, ↓o_gtr, ↓o_geq, ↓o_not, ↓o_pick, ↓o_eqInt, ↓o_neInt, ↓o_eqBool, ↓o_neBool, ↓o_eqPtr, ↓o_nePtr, ↓o_eqPtr', ↓o_eqSl, ↓o_neSl, ↓o_eqStr, ↓o_neStr, ↓o_len, ↓o_lenS, ↓o_min, ↓o_max, ↓o_extract, ↓o_convInt, ↓cd_true, ↓cd_false, ↓gate_tt, ↓gate_ff, ↓gate_tf, ↓gate_ft, ↓gate_undef, ↓o_bind, ↓stay_v, ↓pop_cons, ↓fin_nil, Option.isNone_none, Option.isNone_some, Bool.not_true, Bool.not_false, Nat.zero_add, decide_true, decide_false, if_true, if_false, Bool.false_eq_true, ↓reduceIte]
  refine ld_rd h hc0 0 rfl (v := tv (numT s.bn)) rfl ?_
  refine RNumT_spec h hb0 (by omega) fun w h => ?_
  try simp only [ix0, ↓o_nil, ↓o_field, ↓o_add, ↓o_sub, ↓o_mul, ↓o_lss, ↓o_leq, ↓o_gtr, ↓o_geq, ↓o_not, ↓o_pick, ↓o_eqInt, ↓o_neInt, ↓o_eqBool, ↓o_neBool, ↓o_eqPtr, ↓o_nePtr, ↓o_eqPtr', ↓o_eqSl, ↓o_neSl, ↓o_eqStr, ↓o_neStr, ↓o_len, ↓o_lenS, ↓o_min, ↓o_max, ↓o_extract, ↓o_convInt, ↓cd_true, ↓cd_false, ↓gate_tt, ↓gate_ff, ↓gate_tf, ↓gate_ft, ↓gate_undef, ↓o_bind, ↓stay_v, ↓pop_cons, ↓fin_nil, Option.isNone_none, Option.isNone_some, Bool.not_true, Bool.not_false, Nat.zero_add, decide_true, decide_false, if_true, if_false, Bool.false_eq_true, ↓reduceIte]
  refine ld_rd h hrl (0 * 2 + 1) rfl (hcell hx0 rfl) ?_
  try simp only [List.length_cons, List.length_nil, cx0, cx1, cx2, ↓o_nil, ↓o_field, ↓o_add, ↓o_sub, ↓o_mul, ↓o_lss, ↓o_leq, ↓o_gtr, ↓o_geq, ↓o_not, ↓o_pick, ↓o_eqInt, ↓o_neInt, ↓o_eqBool, ↓o_neBool, ↓o_eqPtr, ↓o_nePtr, ↓o_eqPtr', ↓o_eqSl, ↓o_neSl, ↓o_eqStr, ↓o_neStr, ↓o_len, ↓o_lenS, ↓o_min, ↓o_max, ↓o_extract, ↓o_convInt, ↓cd_true, ↓cd_false, ↓gate_tt, ↓gate_ff, ↓gate_tf, ↓gate_ft, ↓gate_undef, ↓o_bind, ↓stay_v, ↓pop_cons, ↓fin_nil, Option.isNone_none, Option.isNone_some, Bool.not_true, Bool.not_false, Nat.zero_add, decide_true, decide_false, if_true, if_false, Bool.false_eq_true, ↓reduceIte]
  refine ld_rd h hc0 1 rfl (v := tv (numT s.an)) rfl ?_
  refine RNumT_spec h ha0 (by omega) fun w h => ?_
  try simp only [ix0, ↓o_nil, ↓o_field, ↓o_add, ↓o_sub, ↓o_mul, ↓o_lss, ↓o_leq, ↓o_gtr, ↓o_geq, ↓o_not, ↓o_pick, ↓o_eqInt, ↓o_neInt, ↓o_eqBool, ↓o_neBool, ↓o_eqPtr, ↓o_nePtr, ↓o_eqPtr', ↓o_eqSl, ↓o_neSl, ↓o_eqStr, ↓o_neStr, ↓o_len, ↓o_lenS, ↓o_min, ↓o_max, ↓o_extract, ↓o_convInt, ↓cd_true, ↓cd_false, ↓gate_tt, ↓gate_ff, ↓gate_tf, ↓gate_ft, ↓gate_undef, ↓o_bind, ↓stay_v, ↓pop_cons, ↓fin_nil, Option.isNone_none, Option.isNone_some, Bool.not_true, Bool.not_false, Nat.zero_add, decide_true, decide_false, if_true, if_false, Bool.false_eq_true, ↓reduceIte]
  refine ld_rd h hrl (0 * 2 + 1) rfl (hcell hx0 rfl) ?_
  try simp only [List.length_cons, List.length_nil, cx0, cx1, cx2, ↓o_nil, ↓o_field, ↓o_add, ↓o_sub, ↓o_mul, ↓o_lss, ↓o_leq, ↓o_gtr, ↓o_geq, ↓o_not, ↓o_pick, ↓o_eqInt, ↓o_neInt, ↓o_eqBool, ↓o_neBool, ↓o_eqPtr, ↓o_nePtr, ↓o_eqPtr', ↓o_eqSl, ↓o_neSl, ↓o_eqStr, ↓o_neStr, ↓o_len, ↓o_lenS, ↓o_min, ↓o_max, ↓o_extract, ↓o_convInt, ↓cd_true, ↓cd_false, ↓gate_tt, ↓gate_ff, ↓gate_tf, ↓gate_ft, ↓gate_undef, ↓o_bind, ↓stay_v, ↓pop_cons, ↓fin_nil, Option.isNone_none, Option.isNone_some, Bool.not_true, Bool.not_false, Nat.zero_add, decide_true, decide_false, if_true, if_false, Bool.false_eq_true, ↓reduceIte]
  refine ld_rd h hc0 2 rfl (v := tv (numT s.last)) rfl ?_
  refine RNumT_spec h hl0 (by omega) fun w h => ?_
  try simp only [ix1, ↓o_nil, ↓o_field, ↓o_add, ↓o_sub, ↓o_mul, ↓o_lss, ↓o_leq, ↓o_gtr, ↓o_geq, ↓o_not, ↓o_pick, ↓o_eqInt, ↓o_neInt, ↓o_eqBool, ↓o_neBool, ↓o_eqPtr, ↓o_nePtr, ↓o_eqPtr', ↓o_eqSl, ↓o_neSl, ↓o_eqStr, ↓o_neStr, ↓o_len, ↓o_lenS, ↓o_min, ↓o_max, ↓o_extract, ↓o_convInt, ↓cd_true, ↓cd_false, ↓gate_tt, ↓gate_ff, ↓gate_tf, ↓gate_ft, ↓gate_undef, ↓o_bind, ↓stay_v, ↓pop_cons, ↓fin_nil, Option.isNone_none, Option.isNone_some, Bool.not_true, Bool.not_false, Nat.zero_add, decide_true, decide_false, if_true, if_false, Bool.false_eq_true, ↓reduceIte]
  have z32 : ∀ {b : List UInt8}, b.length = 32 → (b.map bv).length = 32 := fun h => by rw [List.length_map]; exact h
  refine ld_el h hrl (1 * 2) rfl (rvc ⟨[97], v1, [s.ah]⟩) rfl (rvs_at hx1) ?_
  refine RHash_spec (key := [97]) ok.a h (hcol hx1) fun w h => ?_
  try simp only [↓o_nil, ↓o_field, ↓o_add, ↓o_sub, ↓o_mul, ↓o_lss, ↓o_leq, ↓o_gtr, ↓o_geq, ↓o_not, ↓o_pick, ↓o_eqInt, ↓o_neInt, ↓o_eqBool, ↓o_neBool, ↓o_eqPtr, ↓o_nePtr, ↓o_eqPtr', ↓o_eqSl, ↓o_neSl, ↓o_eqStr, ↓o_neStr, ↓o_len, ↓o_lenS, ↓o_min, ↓o_max, ↓o_extract, ↓o_convInt, ↓cd_true, ↓cd_false, ↓gate_tt, ↓gate_ff, ↓gate_tf, ↓gate_ft, ↓gate_undef, ↓o_bind, ↓stay_v, ↓pop_cons, ↓fin_nil, Option.isNone_none, Option.isNone_some, Bool.not_true, Bool.not_false, Nat.zero_add, decide_true, decide_false, if_true, if_false, Bool.false_eq_true, ↓reduceIte]
  refine alloc_sl h fun ab w h => ?_
  have h : sat E w (pts ab (.cells (zeros32.map bv).toArray 44 (0, 0)) * H) := h
  refine store_all (b := ab) h rfl (z32 ok.a) (bv_one _) fun w h => ?_
  try simp only [ix2, ↓o_nil, ↓o_field, ↓o_add, ↓o_sub, ↓o_mul, ↓o_lss, ↓o_leq, ↓o_gtr, ↓o_geq, ↓o_not, ↓o_pick, ↓o_eqInt, ↓o_neInt, ↓o_eqBool, ↓o_neBool, ↓o_eqPtr, ↓o_nePtr, ↓o_eqPtr', ↓o_eqSl, ↓o_neSl, ↓o_eqStr, ↓o_neStr, ↓o_len, ↓o_lenS, ↓o_min, ↓o_max, ↓o_extract, ↓o_convInt, ↓cd_true, ↓cd_false, ↓gate_tt, ↓gate_ff, ↓gate_tf, ↓gate_ft, ↓gate_undef, ↓o_bind, ↓stay_v, ↓pop_cons, ↓fin_nil, Option.isNone_none, Option.isNone_some, Bool.not_true, Bool.not_false, Nat.zero_add, decide_true, decide_false, if_true, if_false, Bool.false_eq_true, ↓reduceIte]
  refine ld_el h hrl.right (2 * 2) rfl (rvc ⟨[98], v2, [s.bh]⟩) rfl (rvs_at hx2) ?_
  refine RHash_spec (key := [98]) ok.b h (hcol hx2).right fun w h => ?_
  try simp only [↓o_nil, ↓o_field, ↓o_add, ↓o_sub, ↓o_mul, ↓o_lss, ↓o_leq, ↓o_gtr, ↓o_geq, ↓o_not, ↓o_pick, ↓o_eqInt, ↓o_neInt, ↓o_eqBool, ↓o_neBool, ↓o_eqPtr, ↓o_nePtr, ↓o_eqPtr', ↓o_eqSl, ↓o_neSl, ↓o_eqStr, ↓o_neStr, ↓o_len, ↓o_lenS, ↓o_min, ↓o_max, ↓o_extract, ↓o_convInt, ↓cd_true, ↓cd_false, ↓gate_tt, ↓gate_ff, ↓gate_tf, ↓gate_ft, ↓gate_undef, ↓o_bind, ↓stay_v, ↓pop_cons, ↓fin_nil, Option.isNone_none, Option.isNone_some, Bool.not_true, Bool.not_false, Nat.zero_add, decide_true, decide_false, if_true, if_false, Bool.false_eq_true, ↓reduceIte]
  refine alloc_sl h fun bb w h => ?_
  have h : sat E w (pts bb (.cells (zeros32.map bv).toArray 44 (0, 0)) * (pts ab (.cells (s.ah.map bv).toArray 44 (0, 0)) * H)) := h
  refine store_all (b := bb) h rfl (z32 ok.b) (bv_one _) fun w h => ?_
  try simp only [ix3, ↓o_nil, ↓o_field, ↓o_add, ↓o_sub, ↓o_mul, ↓o_lss, ↓o_leq, ↓o_gtr, ↓o_geq, ↓o_not, ↓o_pick, ↓o_eqInt, ↓o_neInt, ↓o_eqBool, ↓o_neBool, ↓o_eqPtr, ↓o_nePtr, ↓o_eqPtr', ↓o_eqSl, ↓o_neSl, ↓o_eqStr, ↓o_neStr, ↓o_len, ↓o_lenS, ↓o_min, ↓o_max, ↓o_extract, ↓o_convInt, ↓cd_true, ↓cd_false, ↓gate_tt, ↓gate_ff, ↓gate_tf, ↓gate_ft, ↓gate_undef, ↓o_bind, ↓stay_v, ↓pop_cons, ↓fin_nil, Option.isNone_none, Option.isNone_some, Bool.not_true, Bool.not_false, Nat.zero_add, decide_true, decide_false, if_true, if_false, Bool.false_eq_true, ↓reduceIte]
  refine ld_el h hrl.right.right (3 * 2) rfl (rvc ⟨[104], v3, [s.hd]⟩) rfl (rvs_at hx3) ?_
  refine RHash_spec (key := [104]) ok.h h (hcol hx3).right.right fun w h => ?_
  try simp only [↓o_nil, ↓o_field, ↓o_add, ↓o_sub, ↓o_mul, ↓o_lss, ↓o_leq, ↓o_gtr, ↓o_geq, ↓o_not, ↓o_pick, ↓o_eqInt, ↓o_neInt, ↓o_eqBool, ↓o_neBool, ↓o_eqPtr, ↓o_nePtr, ↓o_eqPtr', ↓o_eqSl, ↓o_neSl, ↓o_eqStr, ↓o_neStr, ↓o_len, ↓o_lenS, ↓o_min, ↓o_max, ↓o_extract, ↓o_convInt, ↓cd_true, ↓cd_false, ↓gate_tt, ↓gate_ff, ↓gate_tf, ↓gate_ft, ↓gate_undef, ↓o_bind, ↓stay_v, ↓pop_cons, ↓fin_nil, Option.isNone_none, Option.isNone_some, Bool.not_true, Bool.not_false, Nat.zero_add, decide_true, decide_false, if_true, if_false, Bool.false_eq_true, ↓reduceIte]
  refine alloc_sl h fun hb w h => ?_
  have h : sat E w (pts hb (.cells (zeros32.map bv).toArray 44 (0, 0)) * (pts bb (.cells (s.bh.map bv).toArray 44 (0, 0)) * (pts ab (.cells (s.ah.map bv).toArray 44 (0, 0)) * H))) := h
  refine store_all (b := hb) h rfl (z32 ok.h) (bv_one _) fun w h => ?_
  have q1 : ¬ (1099511627776 : Int) < s.bn := by omega
  have q2 : ¬ (1099511627776 : Int) < s.an := by omega
  have q3 : ¬ (1099511627776 : Int) < s.last := by omega
  have q4 : IntKind.i64.wrap (s.bn + (l.length : Int)) = s.bn + l.length := i64_of (by omega) (by omega)
  have q5 : IntKind.i64.wrap (s.bn + (l.length : Int) - 4) = s.bn + l.length - 4 := i64_of (by omega) (by omega)
  have q6 : ¬ s.bn + (l.length : Int) - 4 < s.an := by omega
  try simp only [show decide ((0 : Int) = 0) = true from rfl, decide_eq_false q1, decide_eq_false q2, decide_eq_false q3, q4, q5, decide_eq_false q6, ↓o_nil, ↓o_field, ↓o_add, ↓o_sub, ↓o_mul, ↓o_lss, ↓o_leq, ↓o_gtr, ↓o_geq, ↓o_not, ↓o_pick, ↓o_eqInt, ↓o_neInt, ↓o_eqBool, ↓o_neBool, ↓o_eqPtr, ↓o_nePtr, ↓o_eqPtr', ↓o_eqSl, ↓o_neSl, ↓o_eqStr, ↓o_neStr, ↓o_len, ↓o_lenS, ↓o_min, ↓o_max, ↓o_extract, ↓o_convInt, ↓cd_true, ↓cd_false, ↓gate_tt, ↓gate_ff, ↓gate_tf, ↓gate_ft, ↓gate_undef, ↓o_bind, ↓stay_v, ↓pop_cons, ↓fin_nil, Option.isNone_none, Option.isNone_some, Bool.not_true, Bool.not_false, Nat.zero_add, decide_true, decide_false, if_true, if_false, Bool.false_eq_true, ↓reduceIte]
  refine ld_agg (b := bb) h (z32 ok.b) ?_
  refine ld_agg (b := ab) h (z32 ok.a) ?_
  refine ld_agg (b := hb) h (z32 ok.h) ?_
  refine build54 (s := { s with l := [] }) ok.b ok.a ok.h ?_
  have h : sat E w H := h.drop.drop.drop
  refine box_sl h fun p w h => ?_
  have h : sat E w (osl 56 4 (.slice none 0 0) 0 (evs (s.l.take 0)) * (pts p (.cells (rcells { s with l := s.l.take 0 } (.slice none 0 0)).toArray 54 (0, 0)) * H)) := osl_nil h 56 4
  refine lp_nat (fun r σ w => ∃ (i : Nat) (before : Int) (v : Value), σ = [.int .i64 before, .int .i64 ((i + 4 : Nat) : Int)] ∧ r = s.l.length - i ∧ i ≤ s.l.length ∧ (∀ x, s.l[i]? = some x → before ≤ x.t) ∧
      sat E w (osl 56 4 v i (evs (s.l.take i)) * (pts p (.cells (rcells { s with l := s.l.take i } v).toArray 54 (0, 0)) * H))) s.l.length
    ⟨0, 0, .slice none 0 0, rfl, by omega, by omega, fun x hx => (sm.ev x (List.mem_of_getElem? hx)).1, h⟩ ?_
  clear h
  rintro r σ w again ⟨i, before, v, rfl, rfl, hi, hbf, h⟩ hag
  rw [pop_cons, pop_cons, fin_nil, o_lss]
  refine cd_dec (fun hlt => ?_) (fun hge => ?_)
  · have hi1 : i < s.l.length := by omega
    have hx : s.l[i]? = some s.l[i] := List.getElem?_eq_getElem hi1
    have hmx : s.l[i] ∈ s.l := List.getElem_mem hi1
    have htk : s.l.take (i + 1) = s.l.take i ++ [s.l[i]] := List.take_succ_eq_append_getElem hi1
    generalize s.l[i] = x at hx hmx htk
    rw [ix (i + 4) (by omega)]
    obtain ⟨y, hy, ys⟩ := said_row hs (i := i + 4) (y := evRow x) (by
      unfold rowsOf
      rw [List.getElem?_append_right (by simp [heads]), show i + 4 - (heads s).length = i by simp [heads], List.getElem?_map, hx]
      rfl)
    obtain ⟨ky, vy, cy⟩ := y
    simp only [RV.said, evRow, Prod.mk.injEq] at ys
    obtain ⟨rfl, rfl⟩ := ys
    obtain ⟨hxn, hxt⟩ := rn.num i x hx
    obtain ⟨sx1, sx2, sx3⟩ := sm.ev x hmx
    have hbx := hbf x hx
    refine ld_el h hrl.right.right ((i + 4) * 2) rfl (rvc ⟨110 :: numT x.n, vy, [numT x.t, x.what, x.who]⟩) rfl (rvs_at hy) ?_
    have hyr : Rds H vy 3 [tv (numT x.t), tv x.what, tv x.who] := hcol hy
    obtain ⟨yb, yo, yc, rfl, hyc, hyv⟩ := hyr.opened h.drop.drop (by simp)
    refine alloc_sl h fun rb w h => ?_
    have h : sat E w (pts rb (.cells [Value.string ⟨#[]⟩, .slice none 0 0].toArray 35 (0, 0)) * (osl 56 4 v i (evs (s.l.take i)) * (pts p (.cells (rcells { s with l := s.l.take i } v).toArray 54 (0, 0)) * H))) := h
    refine store_all (b := rb) h (xs := [Value.string ⟨#[]⟩, .slice none 0 0]) (vs := rvc ⟨110 :: numT x.n, .slice (some ⟨yb, yo, none⟩) 3 yc, [numT x.t, x.what, x.who]⟩) rfl rfl (by intro z hz; simp [rvc] at hz; rcases hz with rfl | rfl <;> rfl) fun w h => ?_
    refine dr_sl h fun w h _ => ?_
    try simp only [↓o_nil, ↓o_field, ↓o_add, ↓o_sub, ↓o_mul, ↓o_lss, ↓o_leq, ↓o_gtr, ↓o_geq, ↓o_not, ↓o_pick, ↓o_eqInt, ↓o_neInt, ↓o_eqBool, ↓o_neBool, ↓o_eqPtr, ↓o_nePtr, ↓o_eqPtr', ↓o_eqSl, ↓o_neSl, ↓o_eqStr, ↓o_neStr, ↓o_len, ↓o_lenS, ↓o_min, ↓o_max, ↓o_extract, ↓o_convInt, ↓cd_true, ↓cd_false, ↓gate_tt, ↓gate_ff, ↓gate_tf, ↓gate_ft, ↓gate_undef, ↓o_bind, ↓stay_v, ↓pop_cons, ↓fin_nil, Option.isNone_none, Option.isNone_some, Bool.not_true, Bool.not_false, Nat.zero_add, decide_true, decide_false, if_true, if_false, Bool.false_eq_true, ↓reduceIte]
    refine ld_in (b := rb) (v := tv (110 :: numT x.n)) h rfl ?_
    rw [i64_of (n := s.bn + ((i + 4 : Nat) : Int)) (by omega) (by omega), i64_of (n := s.bn + ((i + 4 : Nat) : Int) - 3) (by omega) (by omega), show s.bn + ((i + 4 : Nat) : Int) - 3 = x.n by omega]
    refine Num_spec h fun w h => ?_
    refine st_in (b := rb) (v := tv (110 :: numT x.n)) h rfl ?_
    have hnl := numT_length x.n
    rw [show (.string ⟨#[110]⟩ : Value) = tv [110] from rfl, o_catT (by simp; omega), o_neT, show (!decide (110 :: numT x.n = [110] ++ numT x.n)) = false by simp]
    try simp only [↓o_nil, ↓o_field, ↓o_add, ↓o_sub, ↓o_mul, ↓o_lss, ↓o_leq, ↓o_gtr, ↓o_geq, ↓o_not, ↓o_pick, ↓o_eqInt, ↓o_neInt, ↓o_eqBool, ↓o_neBool, ↓o_eqPtr, ↓o_nePtr, ↓o_eqPtr', ↓o_eqSl, ↓o_neSl, ↓o_eqStr, ↓o_neStr, ↓o_len, ↓o_lenS, ↓o_min, ↓o_max, ↓o_extract, ↓o_convInt, ↓cd_true, ↓cd_false, ↓gate_tt, ↓gate_ff, ↓gate_tf, ↓gate_ft, ↓gate_undef, ↓o_bind, ↓stay_v, ↓pop_cons, ↓fin_nil, Option.isNone_none, Option.isNone_some, Bool.not_true, Bool.not_false, Nat.zero_add, decide_true, decide_false, if_true, if_false, Bool.false_eq_true, ↓reduceIte]
    refine ld_in (b := rb) (v := .slice (some ⟨yb, yo, none⟩) 3 yc) h rfl ?_
    try simp only [show decide (((3 : Nat) : Int) = 3) = true from rfl, ↓o_nil, ↓o_field, ↓o_add, ↓o_sub, ↓o_mul, ↓o_lss, ↓o_leq, ↓o_gtr, ↓o_geq, ↓o_not, ↓o_pick, ↓o_eqInt, ↓o_neInt, ↓o_eqBool, ↓o_neBool, ↓o_eqPtr, ↓o_nePtr, ↓o_eqPtr', ↓o_eqSl, ↓o_neSl, ↓o_eqStr, ↓o_neStr, ↓o_len, ↓o_lenS, ↓o_min, ↓o_max, ↓o_extract, ↓o_convInt, ↓cd_true, ↓cd_false, ↓gate_tt, ↓gate_ff, ↓gate_tf, ↓gate_ft, ↓gate_undef, ↓o_bind, ↓stay_v, ↓pop_cons, ↓fin_nil, Option.isNone_none, Option.isNone_some, Bool.not_true, Bool.not_false, Nat.zero_add, decide_true, decide_false, if_true, if_false, Bool.false_eq_true, ↓reduceIte]
    refine ld_in (b := rb) (v := .slice (some ⟨yb, yo, none⟩) 3 yc) h rfl ?_
    have yx0 : ∀ {w : World} {K : Value → World → Prop}, pvv prog (Instr.indexAt 33 (.slice (some ⟨yb, yo, none⟩) 3 yc) (.int .i64 0)) w K = K (.pointer (some ⟨yb, yo, none⟩)) w := fun {w K} => by rw [o_index (by decide) (by decide)]; rfl
    have yx1 : ∀ {w : World} {K : Value → World → Prop}, pvv prog (Instr.indexAt 33 (.slice (some ⟨yb, yo, none⟩) 3 yc) (.int .i64 1)) w K = K (.pointer (some ⟨yb, yo + 1, none⟩)) w := fun {w K} => by rw [o_index (by decide) (by decide)]; rfl
    have yx2 : ∀ {w : World} {K : Value → World → Prop}, pvv prog (Instr.indexAt 33 (.slice (some ⟨yb, yo, none⟩) 3 yc) (.int .i64 2)) w K = K (.pointer (some ⟨yb, yo + 2, none⟩)) w := fun {w K} => by rw [o_index (by decide) (by decide)]; rfl
    have hy3 : ∀ {X Y Z : HP}, Rds (X * (Y * (Z * H))) (.slice (some ⟨yb, yo, none⟩) 3 yc) 3 [tv (numT x.t), tv x.what, tv x.who] := hyv.right.right.right
    try simp only [yx0, yx1, yx2, ↓o_nil, ↓o_field, ↓o_add, ↓o_sub, ↓o_mul, ↓o_lss, ↓o_leq, ↓o_gtr, ↓o_geq, ↓o_not, ↓o_pick, ↓o_eqInt, ↓o_neInt, ↓o_eqBool, ↓o_neBool, ↓o_eqPtr, ↓o_nePtr, ↓o_eqPtr', ↓o_eqSl, ↓o_neSl, ↓o_eqStr, ↓o_neStr, ↓o_len, ↓o_lenS, ↓o_min, ↓o_max, ↓o_extract, ↓o_convInt, ↓cd_true, ↓cd_false, ↓gate_tt, ↓gate_ff, ↓gate_tf, ↓gate_ft, ↓gate_undef, ↓o_bind, ↓stay_v, ↓pop_cons, ↓fin_nil, Option.isNone_none, Option.isNone_some, Bool.not_true, Bool.not_false, Nat.zero_add, decide_true, decide_false, if_true, if_false, Bool.false_eq_true, ↓reduceIte]
    refine ld_rd h hy3 1 rfl (v := tv x.what) rfl ?_
    try simp only [↓o_lenT, decide_eq_false (show ¬ (12 : Int) < (x.what.length : Int) by omega), ↓o_nil, ↓o_field, ↓o_add, ↓o_sub, ↓o_mul, ↓o_lss, ↓o_leq, ↓o_gtr, ↓o_geq, ↓o_not, ↓o_pick, ↓o_eqInt, ↓o_neInt, ↓o_eqBool, ↓o_neBool, ↓o_eqPtr, ↓o_nePtr, ↓o_eqPtr', ↓o_eqSl, ↓o_neSl, ↓o_eqStr, ↓o_neStr, ↓o_len, ↓o_lenS, ↓o_min, ↓o_max, ↓o_extract, ↓o_convInt, ↓cd_true, ↓cd_false, ↓gate_tt, ↓gate_ff, ↓gate_tf, ↓gate_ft, ↓gate_undef, ↓o_bind, ↓stay_v, ↓pop_cons, ↓fin_nil, Option.isNone_none, Option.isNone_some, Bool.not_true, Bool.not_false, Nat.zero_add, decide_true, decide_false, if_true, if_false, Bool.false_eq_true, ↓reduceIte]
    refine ld_in (b := rb) (v := .slice (some ⟨yb, yo, none⟩) 3 yc) h rfl ?_
    try simp only [yx0, yx1, yx2, ↓o_nil, ↓o_field, ↓o_add, ↓o_sub, ↓o_mul, ↓o_lss, ↓o_leq, ↓o_gtr, ↓o_geq, ↓o_not, ↓o_pick, ↓o_eqInt, ↓o_neInt, ↓o_eqBool, ↓o_neBool, ↓o_eqPtr, ↓o_nePtr, ↓o_eqPtr', ↓o_eqSl, ↓o_neSl, ↓o_eqStr, ↓o_neStr, ↓o_len, ↓o_lenS, ↓o_min, ↓o_max, ↓o_extract, ↓o_convInt, ↓cd_true, ↓cd_false, ↓gate_tt, ↓gate_ff, ↓gate_tf, ↓gate_ft, ↓gate_undef, ↓o_bind, ↓stay_v, ↓pop_cons, ↓fin_nil, Option.isNone_none, Option.isNone_some, Bool.not_true, Bool.not_false, Nat.zero_add, decide_true, decide_false, if_true, if_false, Bool.false_eq_true, ↓reduceIte]
    refine ld_rd h hy3 2 rfl (v := tv x.who) rfl ?_
    try simp only [↓o_lenT, decide_eq_false (show ¬ (30 : Int) < (x.who.length : Int) by omega), ↓o_nil, ↓o_field, ↓o_add, ↓o_sub, ↓o_mul, ↓o_lss, ↓o_leq, ↓o_gtr, ↓o_geq, ↓o_not, ↓o_pick, ↓o_eqInt, ↓o_neInt, ↓o_eqBool, ↓o_neBool, ↓o_eqPtr, ↓o_nePtr, ↓o_eqPtr', ↓o_eqSl, ↓o_neSl, ↓o_eqStr, ↓o_neStr, ↓o_len, ↓o_lenS, ↓o_min, ↓o_max, ↓o_extract, ↓o_convInt, ↓cd_true, ↓cd_false, ↓gate_tt, ↓gate_ff, ↓gate_tf, ↓gate_ft, ↓gate_undef, ↓o_bind, ↓stay_v, ↓pop_cons, ↓fin_nil, Option.isNone_none, Option.isNone_some, Bool.not_true, Bool.not_false, Nat.zero_add, decide_true, decide_false, if_true, if_false, Bool.false_eq_true, ↓reduceIte]
    refine ld_in (b := rb) (v := .slice (some ⟨yb, yo, none⟩) 3 yc) h rfl ?_
    try simp only [yx0, yx1, yx2, ↓o_nil, ↓o_field, ↓o_add, ↓o_sub, ↓o_mul, ↓o_lss, ↓o_leq, ↓o_gtr, ↓o_geq, ↓o_not, ↓o_pick, ↓o_eqInt, ↓o_neInt, ↓o_eqBool, ↓o_neBool, ↓o_eqPtr, ↓o_nePtr, ↓o_eqPtr', ↓o_eqSl, ↓o_neSl, ↓o_eqStr, ↓o_neStr, ↓o_len, ↓o_lenS, ↓o_min, ↓o_max, ↓o_extract, ↓o_convInt, ↓cd_true, ↓cd_false, ↓gate_tt, ↓gate_ff, ↓gate_tf, ↓gate_ft, ↓gate_undef, ↓o_bind, ↓stay_v, ↓pop_cons, ↓fin_nil, Option.isNone_none, Option.isNone_some, Bool.not_true, Bool.not_false, Nat.zero_add, decide_true, decide_false, if_true, if_false, Bool.false_eq_true, ↓reduceIte]
    refine ld_rd h hy3 0 rfl (v := tv (numT x.t)) rfl ?_
    refine RNumT_spec h sx1 (by omega) fun w h => ?_
    try simp only [show decide ((0 : Int) = 0) = true from rfl, decide_eq_false (show ¬ x.t < before by omega), decide_eq_false (show ¬ s.last < x.t by omega), ↓o_nil, ↓o_field, ↓o_add, ↓o_sub, ↓o_mul, ↓o_lss, ↓o_leq, ↓o_gtr, ↓o_geq, ↓o_not, ↓o_pick, ↓o_eqInt, ↓o_neInt, ↓o_eqBool, ↓o_neBool, ↓o_eqPtr, ↓o_nePtr, ↓o_eqPtr', ↓o_eqSl, ↓o_neSl, ↓o_eqStr, ↓o_neStr, ↓o_len, ↓o_lenS, ↓o_min, ↓o_max, ↓o_extract, ↓o_convInt, ↓cd_true, ↓cd_false, ↓gate_tt, ↓gate_ff, ↓gate_tf, ↓gate_ft, ↓gate_undef, ↓o_bind, ↓stay_v, ↓pop_cons, ↓fin_nil, Option.isNone_none, Option.isNone_some, Bool.not_true, Bool.not_false, Nat.zero_add, decide_true, decide_false, if_true, if_false, Bool.false_eq_true, ↓reduceIte]
    refine dr_sl h fun w h _ => ?_
    try simp only [↓o_nil, ↓o_field, ↓o_add, ↓o_sub, ↓o_mul, ↓o_lss, ↓o_leq, ↓o_gtr, ↓o_geq, ↓o_not, ↓o_pick, ↓o_eqInt, ↓o_neInt, ↓o_eqBool, ↓o_neBool, ↓o_eqPtr, ↓o_nePtr, ↓o_eqPtr', ↓o_eqSl, ↓o_neSl, ↓o_eqStr, ↓o_neStr, ↓o_len, ↓o_lenS, ↓o_min, ↓o_max, ↓o_extract, ↓o_convInt, ↓cd_true, ↓cd_false, ↓gate_tt, ↓gate_ff, ↓gate_tf, ↓gate_ft, ↓gate_undef, ↓o_bind, ↓stay_v, ↓pop_cons, ↓fin_nil, Option.isNone_none, Option.isNone_some, Bool.not_true, Bool.not_false, Nat.zero_add, decide_true, decide_false, if_true, if_false, Bool.false_eq_true, ↓reduceIte]
    have rcl : (rcells { s with l := s.l.take i } v)[99]? = some v := part_cell (.int .i64 s.bn :: .int .i64 s.an :: .int .i64 s.last :: (s.bh.map bv ++ (s.ah.map bv ++ s.hd.map bv))) [] (by simp [rcells]) (by simp [ok.b, ok.a, ok.h])
    have rpl : ∀ {u : Value}, (rcells { s with l := s.l.take i } v).set 99 u = rcells { s with l := s.l.take (i + 1) } u := fun {u} => part_set (.int .i64 s.bn :: .int .i64 s.an :: .int .i64 s.last :: (s.bh.map bv ++ (s.ah.map bv ++ s.hd.map bv))) [] (x := v) (by simp [rcells]) (by simp [ok.b, ok.a, ok.h]) (by simp [rcells])
    have rlen : (rcells { s with l := s.l.take i } v).length = 100 := by simp [rcells, ok.b, ok.a, ok.h]
    refine ld_in (b := p) (v := v) h rcl ?_
    refine ld_in (b := rb) (v := .slice (some ⟨yb, yo, none⟩) 3 yc) h rfl ?_
    try simp only [yx0, yx1, yx2, ↓o_nil, ↓o_field, ↓o_add, ↓o_sub, ↓o_mul, ↓o_lss, ↓o_leq, ↓o_gtr, ↓o_geq, ↓o_not, ↓o_pick, ↓o_eqInt, ↓o_neInt, ↓o_eqBool, ↓o_neBool, ↓o_eqPtr, ↓o_nePtr, ↓o_eqPtr', ↓o_eqSl, ↓o_neSl, ↓o_eqStr, ↓o_neStr, ↓o_len, ↓o_lenS, ↓o_min, ↓o_max, ↓o_extract, ↓o_convInt, ↓cd_true, ↓cd_false, ↓gate_tt, ↓gate_ff, ↓gate_tf, ↓gate_ft, ↓gate_undef, ↓o_bind, ↓stay_v, ↓pop_cons, ↓fin_nil, Option.isNone_none, Option.isNone_some, Bool.not_true, Bool.not_false, Nat.zero_add, decide_true, decide_false, if_true, if_false, Bool.false_eq_true, ↓reduceIte]
    refine ld_rd h hy3 1 rfl (v := tv x.what) rfl ?_
    refine ld_in (b := rb) (v := .slice (some ⟨yb, yo, none⟩) 3 yc) h rfl ?_
    try simp only [yx0, yx1, yx2, ↓o_nil, ↓o_field, ↓o_add, ↓o_sub, ↓o_mul, ↓o_lss, ↓o_leq, ↓o_gtr, ↓o_geq, ↓o_not, ↓o_pick, ↓o_eqInt, ↓o_neInt, ↓o_eqBool, ↓o_neBool, ↓o_eqPtr, ↓o_nePtr, ↓o_eqPtr', ↓o_eqSl, ↓o_neSl, ↓o_eqStr, ↓o_neStr, ↓o_len, ↓o_lenS, ↓o_min, ↓o_max, ↓o_extract, ↓o_convInt, ↓cd_true, ↓cd_false, ↓gate_tt, ↓gate_ff, ↓gate_tf, ↓gate_ft, ↓gate_undef, ↓o_bind, ↓stay_v, ↓pop_cons, ↓fin_nil, Option.isNone_none, Option.isNone_some, Bool.not_true, Bool.not_false, Nat.zero_add, decide_true, decide_false, if_true, if_false, Bool.false_eq_true, ↓reduceIte]
    refine ld_rd h hy3 2 rfl (v := tv x.who) rfl ?_
    refine pvv_of (v := ev x) (fun w => by kernel_rfl) ?_
    refine buildSlice_sl (e := 56) (cs := (ecells x).toArray) h (fun w => by kernel_rfl) fun b5 w h => ?_
    have hy4 : ∀ {X Y Z U : HP}, Rds (U * (X * (Y * (Z * H)))) (.slice (some ⟨yb, yo, none⟩) 3 yc) 3 [tv (numT x.t), tv x.what, tv x.who] := hyv.right.right.right.right
    refine st_rd h hy4 2 rfl (v := tv x.who) rfl ?_
    refine st_in (b := rb) (v := .slice (some ⟨yb, yo, none⟩) 3 yc) h rfl ?_
    refine st_rd h hy4 1 rfl (v := tv x.what) rfl ?_
    refine st_in (b := rb) (v := .slice (some ⟨yb, yo, none⟩) 3 yc) h rfl ?_
    refine st_in (b := p) (v := v) h rcl ?_
    refine append_sl (v := v) h (ecells x) (k' := 1) rfl (.inr ⟨b5, 0, _, _, _, rfl, h.pts_get, fun j v hj => by simpa using hj⟩) (ecells_one x) (by omega) (by omega) fun v' w h => ?_
    refine st_rd h hy4 2 rfl (v := tv x.who) rfl ?_
    refine st_in (b := rb) (v := .slice (some ⟨yb, yo, none⟩) 3 yc) h rfl ?_
    refine st_rd h hy4 1 rfl (v := tv x.what) rfl ?_
    refine st_in (b := rb) (v := .slice (some ⟨yb, yo, none⟩) 3 yc) h rfl ?_
    have hone' : v'.oneCell' = true := by
      obtain ⟨_, _, rfl, _⟩ := osl_shape h
      rfl
    try simp only [↓o_nil, ↓o_field, ↓o_add, ↓o_sub, ↓o_mul, ↓o_lss, ↓o_leq, ↓o_gtr, ↓o_geq, ↓o_not, ↓o_pick, ↓o_eqInt, ↓o_neInt, ↓o_eqBool, ↓o_neBool, ↓o_eqPtr, ↓o_nePtr, ↓o_eqPtr', ↓o_eqSl, ↓o_neSl, ↓o_eqStr, ↓o_neStr, ↓o_len, ↓o_lenS, ↓o_min, ↓o_max, ↓o_extract, ↓o_convInt, ↓cd_true, ↓cd_false, ↓gate_tt, ↓gate_ff, ↓gate_tf, ↓gate_ft, ↓gate_undef, ↓o_bind, ↓stay_v, ↓pop_cons, ↓fin_nil, Option.isNone_none, Option.isNone_some, Bool.not_true, Bool.not_false, Nat.zero_add, decide_true, decide_false, if_true, if_false, Bool.false_eq_true, ↓reduceIte]
    refine store_sl (b := p) h hone' (by rw [rlen]; decide) fun w h => ?_
    rw [rpl] at h
    try simp only [↓o_nil, ↓o_field, ↓o_add, ↓o_sub, ↓o_mul, ↓o_lss, ↓o_leq, ↓o_gtr, ↓o_geq, ↓o_not, ↓o_pick, ↓o_eqInt, ↓o_neInt, ↓o_eqBool, ↓o_neBool, ↓o_eqPtr, ↓o_nePtr, ↓o_eqPtr', ↓o_eqSl, ↓o_neSl, ↓o_eqStr, ↓o_neStr, ↓o_len, ↓o_lenS, ↓o_min, ↓o_max, ↓o_extract, ↓o_convInt, ↓cd_true, ↓cd_false, ↓gate_tt, ↓gate_ff, ↓gate_tf, ↓gate_ft, ↓gate_undef, ↓o_bind, ↓stay_v, ↓pop_cons, ↓fin_nil, Option.isNone_none, Option.isNone_some, Bool.not_true, Bool.not_false, Nat.zero_add, decide_true, decide_false, if_true, if_false, Bool.false_eq_true, ↓reduceIte]
    rw [i64_of (by omega) (by omega)]
    have h := h.lose b5
    have h := h.lose rb
    have ee : evs (s.l.take i) ++ ecells x = evs (s.l.take (i + 1)) := by rw [htk]; simp [evs]
    rw [ee] at h
    refine hag (s.l.length - (i + 1)) _ _ (by omega) ⟨i + 1, x.t, v', rfl, rfl, by omega, fun z hz => rn.up i x z hx hz, h.perm (by ac_rfl)⟩
  · have hi2 : i = s.l.length := by omega
    subst hi2
    rw [List.take_length] at h
    have h := osl_freeze h
    refine k p v w ?_
    unfold chR
    exact h.perm (by ac_rfl)
end Go.Proofs.YtjeiojibnmfibaaGreatDoor

/-
  Rows of texts compared.
-/
set_option linter.all false
set_option maxRecDepth 10000
namespace Go.Proofs.YtjeiojibnmfibaaGreatDoor
open Go Hold
variable {E : World0} {w : World} {H R : HP} {K : Value → World → Prop}
end Go.Proofs.YtjeiojibnmfibaaGreatDoor

/-
  Rows compared; rows put in order that are in order.
-/
set_option linter.all false
set_option maxRecDepth 10000
namespace Go.Proofs.YtjeiojibnmfibaaGreatDoor
open Go Hold
variable {E : World0} {w : World} {H R : HP} {K : Value → World → Prop}
theorem rvs_cell {l : List RV} {i f : Nat} {x : RV} {v : Value} (h : l[i]? = some x) (hf : (rvc x)[f]? = some v) : (rvs l)[i * 2 + f]? = some v := take_cell (rvs_at h) hf
theorem said_at {l m : List RV} (h : l.map RV.said = m.map RV.said) {i : Nat} (hl : i < l.length) (hm : i < m.length) : l[i].key = m[i].key ∧ l[i].cols = m[i].cols := by
  have := congrArg (fun q : List (List UInt8 × List (List UInt8)) => q[i]?) h
  simp only [List.getElem?_map, List.getElem?_eq_getElem hl, List.getElem?_eq_getElem hm, Option.map_some, Option.some.injEq, RV.said, Prod.mk.injEq] at this
  exact this
theorem Sorted_spec (h : sat E w H) {v : Value} {l : List RV} (hv : Rds H v l.length (rvs l)) (h1 : ∀ x ∈ rvs l, x.oneCell' = true) (hn : l.length ≤ 1000) (inc : ∀ (i : Nat) (x y : RV), l[i]? = some x → l[i + 1]? = some y → lexB x.key y.key = true)
    (k : ∀ u w', sat E w' (osl 35 2 u l.length (rvs l) * H) → K u w') : Calls prog 25 #[v] w (Ret K) := by
  obtain ⟨a, c, rfl, hca, hv, _⟩ := hv.shape h
  refine c25 ?_
  unfold B25
  refine lp_nat (fun q σ w => ∃ (i : Nat) (out : Value), σ = [out, .int .i64 (i : Int)] ∧ q = l.length - i ∧ i ≤ l.length ∧ sat E w (osl 35 2 out i (rvs (l.take i)) * H)) l.length ⟨0, _, rfl, by omega, by omega, by simpa [rvs] using osl_nil h 35 2⟩ ?_
  clear h
  rintro q σ w again ⟨i, out, rfl, rfl, hi, h⟩ hag
  rw [pop_cons, pop_cons, fin_nil, o_len, o_lss]
  have hti : (rvs (l.take i)).length = i * 2 := by rw [rvs_length]; simp; omega
  refine cd_dec (fun hlt => ?_) (fun hge => ?_)
  · have hi1 : i < l.length := by omega
    have ox : l[i]? = some l[i] := List.getElem?_eq_getElem hi1
    obtain ⟨b1, o1, _, e1, _, hv⟩ := hv.opened h.drop (by rw [rvs_length]; omega)
    cases e1
    obtain ⟨oa, oc, rfl, hoc, _, hpos⟩ := osl_shape h
    have hot : ∀ {w : World}, sat E w (osl 35 2 (.slice oa i oc) i (rvs (l.take i)) * H) → True := fun _ => trivial
    rw [o_len]
    have ix : ∀ {w : World} {K : Value → World → Prop}, pvv prog (Instr.indexAt 31 (.slice (some ⟨b1, o1, none⟩) l.length c) (.int .i64 (i : Int))) w K = K (.pointer (some ⟨b1, o1 + i * 2, none⟩)) w := fun {w K} => by
      rw [o_index (by omega) (by omega), Int.toNat_natCast]
    have fin : ∀ w, sat E w (osl 35 2 (.slice oa i oc) i (rvs (l.take i)) * H) →
        pvv prog (Instr.sliceAt 31 (.slice oa i oc) none (some (.int .i64 (i : Int))) none) w fun t_25 w =>
        ef prog (oBi .append #[31, 31] 31 #[false, false] #[(.slice none 0 0), t_25]) w fun t_26 w =>
        pvv prog (Instr.indexAt 31 (.slice (some ⟨b1, o1, none⟩) l.length c) (.int .i64 (i : Int))) w fun t_27 w =>
        ldv prog (Instr.loadAt 35 t_27) w fun t_28 w =>
        efv prog (Instr.buildSlice 31 1 #[(0, t_28)]) w fun t_29 w =>
        ef prog (oBi .append #[31, 31] 31 #[false, false] #[t_26, t_29]) w fun t_30 w =>
        pvv prog (Instr.sliceAt 31 (.slice oa i oc) (some (.int .i64 (i : Int))) none none) w fun t_31 w =>
        ef prog (oBi .append #[31, 31] 31 #[false, false] #[t_30, t_31]) w fun t_32 w =>
        pvv prog (binOp .add 3 (.int .i64 (i : Int)) (.int .i64 1)) w fun t_33 w =>
        again [t_32, t_33] w := by
      intro w h
      have hcut : Rds (osl 35 2 (.slice oa i oc) i (rvs (l.take i)) * H) (.slice (cutA oa oc 0 2) i oc) i (rvs (l.take i)) := by
        intro E w hs
        obtain ⟨a', c', e', hc', hw'⟩ := Rds.osl.left E w hs
        cases e'
        have h9 := win_cut hw' (c := oc) (n := 0) (sz := 2) (fun hcn => by rw [hti]; omega)
        exact ⟨_, _, rfl, hoc, by simpa using h9⟩
      rw [o_slice_h (by omega) (by omega), Int.toNat_natCast]
      refine append_sl (osl_nil h 35 2) (rvs (l.take i)) (k' := i) hti (hcut.win h) (fun x hx => h1 x (List.mem_flatMap.2 (by obtain ⟨y, hy, hx⟩ := List.mem_flatMap.1 hx; exact ⟨y, List.mem_of_mem_take hy, hx⟩))) (by omega) (by omega) fun v2 w h => ?_
      rw [ix]
      refine ld_el h (hv.right.right) (i * 2) (by omega) (rvc l[i]) rfl (rvs_at ox) ?_
      refine buildSlice_sl (e := 35) (cs := (rvc l[i]).toArray) h (fun w => by kernel_rfl) fun b5 w h => ?_
      refine append_sl (v := v2) h (rvc l[i]) (k' := 1) rfl (.inr ⟨b5, 0, _, _, _, rfl, h.pts_get, fun j v hj => by simpa using hj⟩) (fun x hx => h1 x (List.mem_flatMap.2 ⟨_, List.getElem_mem hi1, hx⟩)) (by omega) (by omega) fun v3 w h => ?_
      rw [o_slice_l (by omega) (by omega), Int.toNat_natCast]
      refine append_sl (v := v3) h [] (k' := i - i) (by simp) (.inl rfl) (by simp) (by omega) (by omega) fun v4 w h => ?_
      rw [o_add, i64_of (by omega) (by omega)]
      refine hag (l.length - (i + 1)) _ _ (by omega) ⟨i + 1, v4, rfl, rfl, by omega, ?_⟩
      have h := h.lose b5
      have e9 : [] ++ rvs (l.take i) ++ rvc l[i] ++ [] = rvs (l.take (i + 1)) := by rw [List.take_succ_eq_append_getElem hi1, rvs_append]; simp [rvs]
      have e8 : 0 + i + 1 + (i - i) = i + 1 := by omega
      rw [e9, e8] at h
      have h := h.perm (show _ = osl 35 2 (.slice oa i oc) i (rvs (l.take i)) * (osl 35 2 v4 (i + 1) (rvs (l.take (i + 1))) * H) by ac_rfl)
      exact h.drop
    refine lp_nat (fun q σ w => σ = [.int .i64 (i : Int)] ∧ sat E w (osl 35 2 (.slice oa i oc) i (rvs (l.take i)) * H)) 0 ⟨rfl, h⟩ ?_
    clear h
    rintro q σ w again2 ⟨rfl, h⟩ _
    rw [pop_cons, fin_nil]
    refine dr_sl h fun w h _ => ?_
    rw [o_gtr]
    by_cases h0 : i = 0
    · have t0 : decide ((0 : Int) < (i : Int)) = false := decide_eq_false (by omega)
      simp only [t0, ↓o_nil, ↓o_field, ↓o_add, ↓o_sub, ↓o_mul, ↓o_lss, ↓o_leq, ↓o_gtr, ↓o_geq, ↓o_not, ↓o_pick, ↓o_eqInt, ↓o_neInt, ↓o_eqBool, ↓o_neBool, ↓o_eqPtr, ↓o_nePtr, ↓o_eqPtr', ↓o_eqSl, ↓o_neSl, ↓o_eqStr, ↓o_neStr, ↓o_len, ↓o_lenS, ↓o_min, ↓o_max, ↓o_extract, ↓o_convInt, ↓cd_true, ↓cd_false, ↓gate_tt, ↓gate_ff, ↓gate_tf, ↓gate_ft, ↓gate_undef, ↓o_bind, ↓stay_v, ↓pop_cons, ↓fin_nil, Option.isNone_none, Option.isNone_some, Bool.not_true, Bool.not_false, Nat.zero_add, decide_true, decide_false, if_true, if_false, Bool.false_eq_true, ↓reduceIte]
      have := fin w h
      simp only [↓o_nil, ↓o_field, ↓o_add, ↓o_sub, ↓o_mul, ↓o_lss, ↓o_leq, ↓o_gtr, ↓o_geq, ↓o_not, ↓o_pick, ↓o_eqInt, ↓o_neInt, ↓o_eqBool, ↓o_neBool, ↓o_eqPtr, ↓o_nePtr, ↓o_eqPtr', ↓o_eqSl, ↓o_neSl, ↓o_eqStr, ↓o_neStr, ↓o_len, ↓o_lenS, ↓o_min, ↓o_max, ↓o_extract, ↓o_convInt, ↓cd_true, ↓cd_false, ↓gate_tt, ↓gate_ff, ↓gate_tf, ↓gate_ft, ↓gate_undef, ↓o_bind, ↓stay_v, ↓pop_cons, ↓fin_nil, Option.isNone_none, Option.isNone_some, Bool.not_true, Bool.not_false, Nat.zero_add, decide_true, decide_false, if_true, if_false, Bool.false_eq_true, ↓reduceIte] at this
      exact this
    · have t0 : decide ((0 : Int) < (i : Int)) = true := decide_eq_true (by omega)
      obtain ⟨ob, hob⟩ := hpos (by omega)
      subst hob
      have t3 : IntKind.i64.wrap ((i : Int) - 1) = ((i - 1 : Nat) : Int) := by rw [i64_of (by omega) (by omega)]; omega
      have iy : ∀ {w : World} {K : Value → World → Prop}, pvv prog (Instr.indexAt 31 (.slice (some ⟨ob, 0, none⟩) i oc) (.int .i64 ((i - 1 : Nat) : Int))) w K = K (.pointer (some ⟨ob, 0 + (i - 1) * 2, none⟩)) w := fun {w K} => by
        rw [o_index (by omega) (by omega), Int.toNat_natCast]
      have oy : (l.take i)[i - 1]? = some l[i - 1] := by rw [List.getElem?_take, if_pos (by omega)]; exact List.getElem?_eq_getElem (by omega)
      have oy2 : l[i - 1]? = some l[i - 1] := List.getElem?_eq_getElem (by omega)
      have hinc := inc (i - 1) _ _ oy2 (by rw [show i - 1 + 1 = i by omega]; exact ox)
      have hcut : Rds (osl 35 2 (.slice (some ⟨ob, 0, none⟩) i oc) i (rvs (l.take i)) * H) (.slice (some ⟨ob, 0, none⟩) i oc) i (rvs (l.take i)) := Rds.osl.left
      simp only [t0, t3, ix, iy, ↓o_nil, ↓o_field, ↓o_add, ↓o_sub, ↓o_mul, ↓o_lss, ↓o_leq, ↓o_gtr, ↓o_geq, ↓o_not, ↓o_pick, ↓o_eqInt, ↓o_neInt, ↓o_eqBool, ↓o_neBool, ↓o_eqPtr, ↓o_nePtr, ↓o_eqPtr', ↓o_eqSl, ↓o_neSl, ↓o_eqStr, ↓o_neStr, ↓o_len, ↓o_lenS, ↓o_min, ↓o_max, ↓o_extract, ↓o_convInt, ↓cd_true, ↓cd_false, ↓gate_tt, ↓gate_ff, ↓gate_tf, ↓gate_ft, ↓gate_undef, ↓o_bind, ↓stay_v, ↓pop_cons, ↓fin_nil, Option.isNone_none, Option.isNone_some, Bool.not_true, Bool.not_false, Nat.zero_add, decide_true, decide_false, if_true, if_false, Bool.false_eq_true, ↓reduceIte]
      refine ld_rd h hcut ((i - 1) * 2 + 0) (by omega) (rvs_cell (f := 0) oy rfl) ?_
      try simp only [ix, iy, ↓o_nil, ↓o_field, ↓o_add, ↓o_sub, ↓o_mul, ↓o_lss, ↓o_leq, ↓o_gtr, ↓o_geq, ↓o_not, ↓o_pick, ↓o_eqInt, ↓o_neInt, ↓o_eqBool, ↓o_neBool, ↓o_eqPtr, ↓o_nePtr, ↓o_eqPtr', ↓o_eqSl, ↓o_neSl, ↓o_eqStr, ↓o_neStr, ↓o_len, ↓o_lenS, ↓o_min, ↓o_max, ↓o_extract, ↓o_convInt, ↓cd_true, ↓cd_false, ↓gate_tt, ↓gate_ff, ↓gate_tf, ↓gate_ft, ↓gate_undef, ↓o_bind, ↓stay_v, ↓pop_cons, ↓fin_nil, Option.isNone_none, Option.isNone_some, Bool.not_true, Bool.not_false, Nat.zero_add, decide_true, decide_false, if_true, if_false, Bool.false_eq_true, ↓reduceIte]
      refine ld_rd h hv.right (i * 2 + 0) (by omega) (rvs_cell (f := 0) ox rfl) ?_
      try simp only [ix, iy, ↓o_nil, ↓o_field, ↓o_add, ↓o_sub, ↓o_mul, ↓o_lss, ↓o_leq, ↓o_gtr, ↓o_geq, ↓o_not, ↓o_pick, ↓o_eqInt, ↓o_neInt, ↓o_eqBool, ↓o_neBool, ↓o_eqPtr, ↓o_nePtr, ↓o_eqPtr', ↓o_eqSl, ↓o_neSl, ↓o_eqStr, ↓o_neStr, ↓o_len, ↓o_lenS, ↓o_min, ↓o_max, ↓o_extract, ↓o_convInt, ↓cd_true, ↓cd_false, ↓gate_tt, ↓gate_ff, ↓gate_tf, ↓gate_ft, ↓gate_undef, ↓o_bind, ↓stay_v, ↓pop_cons, ↓fin_nil, Option.isNone_none, Option.isNone_some, Bool.not_true, Bool.not_false, Nat.zero_add, decide_true, decide_false, if_true, if_false, Bool.false_eq_true, ↓reduceIte]
      rw [o_gtrT, hinc]
      simp only [Bool.true_or, Bool.not_true, ↓o_nil, ↓o_field, ↓o_add, ↓o_sub, ↓o_mul, ↓o_lss, ↓o_leq, ↓o_gtr, ↓o_geq, ↓o_not, ↓o_pick, ↓o_eqInt, ↓o_neInt, ↓o_eqBool, ↓o_neBool, ↓o_eqPtr, ↓o_nePtr, ↓o_eqPtr', ↓o_eqSl, ↓o_neSl, ↓o_eqStr, ↓o_neStr, ↓o_len, ↓o_lenS, ↓o_min, ↓o_max, ↓o_extract, ↓o_convInt, ↓cd_true, ↓cd_false, ↓gate_tt, ↓gate_ff, ↓gate_tf, ↓gate_ft, ↓gate_undef, ↓o_bind, ↓stay_v, ↓pop_cons, ↓fin_nil, Option.isNone_none, Option.isNone_some, Bool.not_true, Bool.not_false, Nat.zero_add, decide_true, decide_false, if_true, if_false, Bool.false_eq_true, ↓reduceIte]
      have := fin w h
      simp only [ix, ↓o_nil, ↓o_field, ↓o_add, ↓o_sub, ↓o_mul, ↓o_lss, ↓o_leq, ↓o_gtr, ↓o_geq, ↓o_not, ↓o_pick, ↓o_eqInt, ↓o_neInt, ↓o_eqBool, ↓o_neBool, ↓o_eqPtr, ↓o_nePtr, ↓o_eqPtr', ↓o_eqSl, ↓o_neSl, ↓o_eqStr, ↓o_neStr, ↓o_len, ↓o_lenS, ↓o_min, ↓o_max, ↓o_extract, ↓o_convInt, ↓cd_true, ↓cd_false, ↓gate_tt, ↓gate_ff, ↓gate_tf, ↓gate_ft, ↓gate_undef, ↓o_bind, ↓stay_v, ↓pop_cons, ↓fin_nil, Option.isNone_none, Option.isNone_some, Bool.not_true, Bool.not_false, Nat.zero_add, decide_true, decide_false, if_true, if_false, Bool.false_eq_true, ↓reduceIte] at this
      exact this
  · have hi2 : i = l.length := by omega
    subst hi2
    rw [List.take_length] at h
    exact k _ _ h
end Go.Proofs.YtjeiojibnmfibaaGreatDoor

/-
  The order of numbers' texts.
-/
set_option linter.all false
set_option maxRecDepth 10000
namespace Go.Proofs.YtjeiojibnmfibaaGreatDoor
open Go Hold
variable {E : World0} {w : World} {H R : HP} {K : Value → World → Prop}
/-! Texts of numbers are ordered as the numbers are. -/
theorem lex_last {a b : List UInt8} {x y : UInt8} (h : a.length = b.length) : lexB (a ++ [x]) (b ++ [y]) = if a = b then decide (x < y) else lexB a b := by
  induction a generalizing b with
  | nil =>
    have : b = [] := List.eq_nil_of_length_eq_zero h.symm
    subst this
    simp only [List.nil_append, lexB, if_true]
    by_cases hxy : x = y
    · subst hxy; simp
    · simp [hxy]
  | cons c a ih =>
    cases b with
    | nil => simp at h
    | cons d b =>
      simp only [List.cons_append, lexB]
      by_cases hcd : c = d
      · subst hcd
        simp [ih (by simpa using h)]
      · have : ¬ (c :: a = d :: b) := fun h => hcd (List.cons.inj h).1
        rw [if_neg hcd, if_neg this, if_neg hcd]
theorem dig_lt : ∀ x, x < 16 → ∀ y, y < 16 → (decide (dig x < dig y) = decide (x < y)) := by decide
theorem lexB_irrefl (a : List UInt8) : lexB a a = false := by
  induction a with
  | nil => rfl
  | cons c a ih => simp [lexB, ih]
theorem first_byte {m n : Nat} (hm : m ≤ 16) (hn : n ≤ 16) : (UInt8.ofNat (97 + m) = UInt8.ofNat (97 + n) ↔ m = n) ∧ (UInt8.ofNat (97 + m) < UInt8.ofNat (97 + n) ↔ m < n) := by
  rw [UInt8.lt_iff_toNat_lt, ← UInt8.toNat_inj, UInt8.toNat_ofNat', UInt8.toNat_ofNat']
  omega
theorem hexs_len16 {n : Nat} (h : n < 16 ^ 16) : (hexs n).length ≤ 16 := hexs_length 16 n h
theorem num_lex : ∀ (n a b : Nat), a < n → a < 16 ^ 16 → b < 16 ^ 16 → lexB (numText a) (numText b) = decide (a < b)
  | 0, a, b, h, _, _ => by omega
  | n + 1, a, b, hn, ha, hb => by
    have la := hexs_len16 ha
    have lb := hexs_len16 hb
    unfold numText
    simp only [lexB]
    obtain ⟨fe, fl⟩ := first_byte la lb
    by_cases ha0 : a = 0
    · subst ha0
      by_cases hb0 : b = 0
      · subst hb0; rw [hexs_zero]; simp [lexB]
      · have : 0 < (hexs b).length := by rw [hexs_pos hb0]; simp
        rw [hexs_zero] at fe fl ⊢
        have f1 : ¬ (UInt8.ofNat (97 + ([] : List UInt8).length) = UInt8.ofNat (97 + (hexs b).length)) := fun h => by have := fe.1 h; simp at this; omega
        rw [if_neg f1]
        have : UInt8.ofNat (97 + ([] : List UInt8).length) < UInt8.ofNat (97 + (hexs b).length) := fl.2 (by simpa using this)
        rw [decide_eq_true this, decide_eq_true (by omega)]
    · by_cases hb0 : b = 0
      · subst hb0
        have hpos : 0 < (hexs a).length := by rw [hexs_pos ha0]; simp
        rw [hexs_zero] at fe fl ⊢
        have f1 : ¬ (UInt8.ofNat (97 + (hexs a).length) = UInt8.ofNat (97 + ([] : List UInt8).length)) := fun h => by have := fe.1 h; simp only [List.length_nil] at this; omega
        rw [if_neg f1]
        have : ¬ UInt8.ofNat (97 + (hexs a).length) < UInt8.ofNat (97 + ([] : List UInt8).length) := fun h => by have := fl.1 h; simp at this
        rw [decide_eq_false this, decide_eq_false (by omega)]
      · have ih := num_lex n (a / 16) (b / 16) (by omega) (by omega) (by omega)
        unfold numText at ih
        simp only [lexB] at ih
        obtain ⟨ge, gl⟩ := first_byte (hexs_len16 (n := a / 16) (by omega)) (hexs_len16 (n := b / 16) (by omega))
        have ea : (hexs a).length = (hexs (a / 16)).length + 1 := by rw [hexs_pos ha0]; simp
        have eb : (hexs b).length = (hexs (b / 16)).length + 1 := by rw [hexs_pos hb0]; simp
        by_cases hl : (hexs (a / 16)).length = (hexs (b / 16)).length
        · rw [if_pos (fe.2 (by omega)), hexs_pos ha0, hexs_pos hb0, lex_last hl, dig_lt _ (by omega) _ (by omega)]
          rw [if_pos (ge.2 hl)] at ih
          by_cases hh : hexs (a / 16) = hexs (b / 16)
          · rw [if_pos hh]
            rw [hh, lexB_irrefl] at ih
            have ih2 := num_lex n (a / 16) (b / 16) (by omega) (by omega) (by omega)
            have hq : a / 16 = b / 16 := by
              have h1 : ¬ (a / 16 < b / 16) := by simpa using ih.symm
              -- the other way round
              have h2 : ¬ (b / 16 < a / 16) := by
                intro hlt
                have ih3 := num_lex n (b / 16) (a / 16) (by omega) (by omega) (by omega)
                unfold numText at ih3
                rw [hh, lexB_irrefl] at ih3
                have : ¬ (b / 16 < a / 16) := by simpa using ih3.symm
                exact this hlt
              omega
            rw [decide_eq_decide]; omega
          · rw [if_neg hh, ih, decide_eq_decide]
            have hne : a / 16 ≠ b / 16 := fun h => hh (by rw [h])
            omega
        · have f1 : ¬ (UInt8.ofNat (97 + (hexs a).length) = UInt8.ofNat (97 + (hexs b).length)) := fun h => by have := fe.1 h; omega
          have g1 : ¬ (UInt8.ofNat (97 + (hexs (a / 16)).length) = UInt8.ofNat (97 + (hexs (b / 16)).length)) := fun h => hl (ge.1 h)
          rw [if_neg f1, decide_eq_decide, fl]
          rw [if_neg g1, decide_eq_decide, gl] at ih
          have hne : a / 16 ≠ b / 16 := fun h => hl (by rw [h])
          omega
theorem number_lex {a b : Nat} (ha : a ≤ 4611686018427387904) (hb : b ≤ 4611686018427387904) : lexB (numText a) (numText b) = decide (a < b) :=
  num_lex (a + 1) a b (by omega) (by show a < 18446744073709551616; omega) (by show b < 18446744073709551616; omega)
end Go.Proofs.YtjeiojibnmfibaaGreatDoor
