/-
  Deeds in a slice; a deed on a log.
-/
import Derived.Test.YtgkeplodfkmnlaaGreatWalJ
import Derived.Test.YtgkeplodfkmnlaaGreatOpens
import Derived.Test.YtgkeplodfkmnlaaGreatElems
import Derived.Test.YtgkeplodfkmnlaaGreatDskR
import Derived.Test.YtgkeplodfkmnlaaGreatWalT
set_option linter.all false
set_option maxRecDepth 100000
namespace Go.Proofs.YtgkeplodfkmnlaaGreat
open Go Hold Go.ChangeShapes Go.WideShapes
variable {E : World0} {w : World} {H R X : HP} {K : Value → World → Prop}
theorem u31 : ∃ f0 f1 f2 f3 : Field, prog.underlying 31 = some (.struct #[f0, f1, f2, f3]) ∧ (f0.type = 4 ∧ f0.offset = 0) ∧ (f1.type = 4 ∧ f1.offset = 1) ∧ (f2.type = 29 ∧ f2.offset = 2) ∧ (f3.type = 5 ∧ f3.offset = 3) :=
  ⟨(prog.fieldsOf 31).toList.getD 0 default, (prog.fieldsOf 31).toList.getD 1 default, (prog.fieldsOf 31).toList.getD 2 default, (prog.fieldsOf 31).toList.getD 3 default, by kernel_rfl, ⟨by kernel_rfl, by kernel_rfl⟩, ⟨by kernel_rfl, by kernel_rfl⟩, ⟨by kernel_rfl, by kernel_rfl⟩, ⟨by kernel_rfl, by kernel_rfl⟩⟩
section
variable {W : World} {H : Type} {enc : TypeId × Value → H}
theorem deed_of {n : Nat} {cs : List Value} {D : DataW H × List MemPlace} (h : DataW.trod enc prog W 0 (fun _ => true) true n 31 cs = some D) : ∃ x : {x : Dd // OkD (old W) x}, cs = dcells x.1 := by
  obtain ⟨f0, f1, f2, f3, hu, ⟨t0, o0⟩, ⟨t1, o1⟩, ⟨t2, o2⟩, ⟨t3, o3⟩⟩ := u31
  obtain ⟨xs, m, _, _, hl, hlen, hf⟩ := DataW.trod_struct hu h
  rw [show prog.cellsOf 31 = 4 by kernel_rfl] at hl
  have c4 : prog.cellsOf 4 = 1 := by kernel_rfl
  have c29 : prog.cellsOf 29 = 1 := by kernel_rfl
  have c5 : prog.cellsOf 5 = 1 := by kernel_rfl
  match xs, hlen, cs, hl with
  | [y0, y1, y2, y3], _, [a, b, c, d], _ =>
    have g0 := hf 0 f0 rfl
    have g1 := hf 1 f1 rfl
    have g2 := hf 2 f2 rfl
    have g3 := hf 3 f3 rfl
    simp only [t0, o0, t1, o1, t2, o2, t3, o3, c4, c29, c5, List.drop, List.take] at g0 g1 g2 g3
    obtain ⟨n0, e0, _⟩ := DataW.trod_bool (t := 4) (by kernel_rfl) g0
    obtain ⟨n1, e1, _⟩ := DataW.trod_bool (t := 4) (by kernel_rfl) g1
    obtain ⟨v, l, e2, h2, z2⟩ := ints_of (t := 29) (e := 3) (by kernel_rfl) (by kernel_rfl) (by kernel_rfl) g2
    obtain ⟨n3, e3, _, hw3⟩ := DataW.trod_int (t := 5) (k := .u8) (by kernel_rfl) g3
    obtain ⟨b3, hb3⟩ := u8_wf hw3
    simp only [List.cons.injEq, and_true] at e0 e1 e2 e3
    rw [hb3] at e3
    subst e0 e1 e2 e3
    exact ⟨⟨⟨n0, n1, c, l, b3⟩, ⟨h2, z2⟩⟩, rfl⟩
variable {r : Reach} {b0 : Nat} {v : Value} {d : DataW H} {p : List MemPlace}
theorem open_deeds (hv : Value.okWide prog W r b0 22 v) (h : DataW.Trod enc prog W 0 (fun _ => true) true 22 v d p) (_hw : ∀ n ∈ d.weights prog 22, n ≤ 140737488351232) :
    ∃ l : List Dd, Rds (old W) v l.length (l.flatMap dcells) ∧ l.length ≤ 9223372036854775807 ∧ ∀ x ∈ l, OkD (old W) x := by
  obtain ⟨l, h1, h2⟩ := open_elems (t := 22) (e := 31) (k := 4) (cells := fun x : {x : Dd // OkD (old W) x} => dcells x.1) (by kernel_rfl) (by kernel_rfl) (by omega) (fun _ => rfl) deed_of hv h
  refine ⟨l.map (·.1), ?_, by simpa using h2, ?_⟩
  · rw [List.length_map, List.flatMap_map]
    exact h1
  · intro x hx
    obtain ⟨y, _, rfl⟩ := List.mem_map.1 hx
    exact y.2
end
/-- A deed of a slice. -/
theorem dd_at {l : List Dd} {i : Nat} (h : i < l.length) : ((l.flatMap dcells).drop (i * 4)).take 4 = dcells l[i] := fm_at (cells := dcells) (k := 4) (fun _ => rfl) (List.getElem?_eq_getElem h)
theorem dd_chk {l : List Dd} {i : Nat} (h : i < l.length) : (l.flatMap dcells)[i * 4]? = some (.bool l[i].chk) := by
  have := congrArg (fun l => l[0]?) (dd_at h)
  simpa [dcells] using this
theorem dcells_length (l : List Dd) : (l.flatMap dcells).length = l.length * 4 := fm_length (cells := dcells) (k := 4) (fun _ => rfl) l
theorem mod_size (x : UInt8) : IntKind.i64.wrap (((IntKind.i64.wrap (x.toNat : Int)).tmod 20) + 2) = ((x.toNat % 20 + 2 : Nat) : Int) := by
  have := x.toNat_lt
  rw [i64_of (n := (x.toNat : Int)) (by omega) (by omega)]
  have : ((x.toNat : Int)).tmod 20 = ((x.toNat % 20 : Nat) : Int) := by rw [Int.tmod_eq_emod_of_nonneg (by omega)]; omega
  rw [this, i64_of (by omega) (by omega)]; omega
/-- How far the deeds may have come. -/
structure Far (S : Lg) (gs : List (List Int)) (N m : Nat) : Prop where
  i : LInv S gs
  size : S.size = N
  len : S.L.length = N + 10
  w : S.W.length ≤ 2000 * m
  g : S.groups ≤ m
theorem Far.start {N : Nat} (h1 : 2 ≤ N) (h2 : N ≤ 21) : Far (newL (N + 10) N) [] N 0 := ⟨newL_inv h1 (by omega) (by omega), rfl, by simp [newL], by simp [newL], by simp [newL]⟩
theorem Far.commit {S : Lg} {gs : List (List Int)} {N m : Nat} (f : Far S gs N m) (ps : List (Int × Bs)) : ∃ gs', Far (commitS S ps) gs' N (m + 1) := by
  unfold commitS
  split
  · rename_i h
    have t := errC_zero h.1 h.2
    have hn := t.n2
    refine ⟨_, f.i.commit t, by rw [commitT_size]; exact f.size, by rw [(commitT_len S ps).1]; exact f.len, ?_, by rw [commitT_groups]; have := f.g; omega⟩
    rw [(commitT_len S ps).2]; have := f.w; omega
  · exact ⟨gs, f.i, f.size, f.len, by have := f.w; omega, by have := f.g; omega⟩
theorem Far.check {S : Lg} {gs : List (List Int)} {N m : Nat} (f : Far S gs N m) : ∃ gs', Far (checkS S) gs' N (m + 1) := by
  unfold checkS
  split
  · exact ⟨gs, f.i, f.size, f.len, by have := f.w; omega, by have := f.g; omega⟩
  · have hfew := f.i.few
    refine ⟨_, f.i.check, by rw [checkT_size]; exact f.size, by rw [(checkT_len S).1]; exact f.len, ?_, ?_⟩
    · rw [(checkT_len S).2]; have := f.w; omega
    · have : (checkT S).groups = S.groups := (backP_keep (touched S) S).2.1
      rw [this]; have := f.g; omega
end Go.Proofs.YtgkeplodfkmnlaaGreat

/-
  The disk of the references is written.
-/
set_option linter.all false
set_option maxRecDepth 100000
namespace Go.Proofs.YtgkeplodfkmnlaaGreat
open Go Hold
variable {E : World0} {w : World} {H R : HP} {K : Value → World → Prop}
/-! ### Write -/
theorem rWrite_nil {n v : Value} (k : K (.int .i64 1) w) : Calls prog 67 #[.pointer none, n, v] w (Ret K) := by
  refine c67 ?_
  unfold B67
  simp only [↓o_nil, ↓o_field, ↓o_add, ↓o_sub, ↓o_mul, ↓o_lss, ↓o_leq, ↓o_gtr, ↓o_geq, ↓o_not, ↓o_pick, ↓o_eqInt, ↓o_neInt, ↓o_eqBool, ↓o_neBool, ↓o_eqPtr, ↓o_nePtr, ↓o_eqPtr', ↓o_eqSl, ↓o_neSl, ↓o_eqStr, ↓o_neStr, ↓o_len, ↓o_lenS, ↓o_min, ↓o_max, ↓o_extract, ↓o_convInt, ↓cd_true, ↓cd_false, ↓gate_tt, ↓gate_ff, ↓gate_tf, ↓gate_ft, ↓gate_undef, ↓o_bind, ↓stay_v, ↓pop_cons, ↓fin_nil, Option.isNone_none, Option.isNone_some, Bool.not_true, Bool.not_false, Nat.zero_add, decide_true, decide_false, if_true, if_false, Bool.false_eq_true, ↓reduceIte]
  exact k
theorem rWrite_range {d : Nat} {L : List (List UInt8)} {W : List (Int × List UInt8)} (h : sat E w H) [s : RdkS H d L W R] {n : Int} {v : Value} (hn : n < 0 ∨ (L.length : Int) ≤ n)
    (k : K (.int .i64 2) w) : Calls prog 67 #[.pointer (some ⟨d, 0, none⟩), .int .i64 n, v] w (Ret K) := by
  obtain ⟨lv, vs, wv, ws, e, hd⟩ := sat_rdsk.1 (h.rdks d)
  obtain ⟨a, c, rfl, hc, hl, ha⟩ := osl_shape hd.drop
  refine c67 ?_
  unfold B67
  by_cases h1 : n < 0
  · simp only [↓o_nil, ↓o_field, ↓o_add, ↓o_sub, ↓o_mul, ↓o_lss, ↓o_leq, ↓o_gtr, ↓o_geq, ↓o_not, ↓o_pick, ↓o_eqInt, ↓o_neInt, ↓o_eqBool, ↓o_neBool, ↓o_eqPtr, ↓o_nePtr, ↓o_eqPtr', ↓o_eqSl, ↓o_neSl, ↓o_eqStr, ↓o_neStr, ↓o_len, ↓o_lenS, ↓o_min, ↓o_max, ↓o_extract, ↓o_convInt, ↓cd_true, ↓cd_false, ↓gate_tt, ↓gate_ff, ↓gate_tf, ↓gate_ft, ↓gate_undef, ↓o_bind, ↓stay_v, ↓pop_cons, ↓fin_nil, Option.isNone_none, Option.isNone_some, Bool.not_true, Bool.not_false, Nat.zero_add, decide_true, decide_false, if_true, if_false, Bool.false_eq_true, ↓reduceIte, h1]; exact k
  · have h2 : (L.length : Int) ≤ n := by omega
    simp only [↓o_nil, ↓o_field, ↓o_add, ↓o_sub, ↓o_mul, ↓o_lss, ↓o_leq, ↓o_gtr, ↓o_geq, ↓o_not, ↓o_pick, ↓o_eqInt, ↓o_neInt, ↓o_eqBool, ↓o_neBool, ↓o_eqPtr, ↓o_nePtr, ↓o_eqPtr', ↓o_eqSl, ↓o_neSl, ↓o_eqStr, ↓o_neStr, ↓o_len, ↓o_lenS, ↓o_min, ↓o_max, ↓o_extract, ↓o_convInt, ↓cd_true, ↓cd_false, ↓gate_tt, ↓gate_ff, ↓gate_tf, ↓gate_ft, ↓gate_undef, ↓o_bind, ↓stay_v, ↓pop_cons, ↓fin_nil, Option.isNone_none, Option.isNone_some, Bool.not_true, Bool.not_false, Nat.zero_add, decide_true, decide_false, if_true, if_false, Bool.false_eq_true, ↓reduceIte, h1]
    refine ld_at hd ?_
    simp only [↓o_nil, ↓o_field, ↓o_add, ↓o_sub, ↓o_mul, ↓o_lss, ↓o_leq, ↓o_gtr, ↓o_geq, ↓o_not, ↓o_pick, ↓o_eqInt, ↓o_neInt, ↓o_eqBool, ↓o_neBool, ↓o_eqPtr, ↓o_nePtr, ↓o_eqPtr', ↓o_eqSl, ↓o_neSl, ↓o_eqStr, ↓o_neStr, ↓o_len, ↓o_lenS, ↓o_min, ↓o_max, ↓o_extract, ↓o_convInt, ↓cd_true, ↓cd_false, ↓gate_tt, ↓gate_ff, ↓gate_tf, ↓gate_ft, ↓gate_undef, ↓o_bind, ↓stay_v, ↓pop_cons, ↓fin_nil, Option.isNone_none, Option.isNone_some, Bool.not_true, Bool.not_false, Nat.zero_add, decide_true, decide_false, if_true, if_false, Bool.false_eq_true, ↓reduceIte, h2]
    exact k
theorem rWrite_form {d : Nat} {L : List (List UInt8)} {W : List (Int × List UInt8)} (h : sat E w H) [s : RdkS H d L W R] {n : Nat} {a : Option Addr} {m c : Nat} (hn : n < L.length) (hm : m ≠ 256)
    (k : K (.int .i64 3) w) : Calls prog 67 #[.pointer (some ⟨d, 0, none⟩), .int .i64 n, .slice a m c] w (Ret K) := by
  obtain ⟨lv, vs, wv, ws, e, hd⟩ := sat_rdsk.1 (h.rdks d)
  obtain ⟨a, c, rfl, hc, hl, ha⟩ := osl_shape hd.drop
  refine c67 ?_
  unfold B67
  have h1 : ¬ (n : Int) < 0 := by omega
  have h2 : ¬ (L.length : Int) ≤ n := by omega
  have h3 : ¬ (m : Int) = 256 := by omega
  simp only [↓o_nil, ↓o_field, ↓o_add, ↓o_sub, ↓o_mul, ↓o_lss, ↓o_leq, ↓o_gtr, ↓o_geq, ↓o_not, ↓o_pick, ↓o_eqInt, ↓o_neInt, ↓o_eqBool, ↓o_neBool, ↓o_eqPtr, ↓o_nePtr, ↓o_eqPtr', ↓o_eqSl, ↓o_neSl, ↓o_eqStr, ↓o_neStr, ↓o_len, ↓o_lenS, ↓o_min, ↓o_max, ↓o_extract, ↓o_convInt, ↓cd_true, ↓cd_false, ↓gate_tt, ↓gate_ff, ↓gate_tf, ↓gate_ft, ↓gate_undef, ↓o_bind, ↓stay_v, ↓pop_cons, ↓fin_nil, Option.isNone_none, Option.isNone_some, Bool.not_true, Bool.not_false, Nat.zero_add, decide_true, decide_false, if_true, if_false, Bool.false_eq_true, ↓reduceIte, h1]
  refine ld_at hd ?_
  simp only [↓o_nil, ↓o_field, ↓o_add, ↓o_sub, ↓o_mul, ↓o_lss, ↓o_leq, ↓o_gtr, ↓o_geq, ↓o_not, ↓o_pick, ↓o_eqInt, ↓o_neInt, ↓o_eqBool, ↓o_neBool, ↓o_eqPtr, ↓o_nePtr, ↓o_eqPtr', ↓o_eqSl, ↓o_neSl, ↓o_eqStr, ↓o_neStr, ↓o_len, ↓o_lenS, ↓o_min, ↓o_max, ↓o_extract, ↓o_convInt, ↓cd_true, ↓cd_false, ↓gate_tt, ↓gate_ff, ↓gate_tf, ↓gate_ft, ↓gate_undef, ↓o_bind, ↓stay_v, ↓pop_cons, ↓fin_nil, Option.isNone_none, Option.isNone_some, Bool.not_true, Bool.not_false, Nat.zero_add, decide_true, decide_false, if_true, if_false, Bool.false_eq_true, ↓reduceIte, h2, h3]
  exact k
theorem rWrite_spec {d : Nat} {L : List (List UInt8)} {W : List (Int × List UInt8)} (h : sat E w H) [s : RdkS H d L W R] {n : Nat} {v : Value} {l : List UInt8} (hn : n < L.length) (hl : l.length = 256) (hW : W.length ≤ 1000000)
    (hv : Rds R v l.length (l.map bv))
    (k : ∀ w', sat E w' (rdsk d L (W ++ [((n : Int), l)]) * R) → K (.int .i64 0) w') : Calls prog 67 #[.pointer (some ⟨d, 0, none⟩), .int .i64 n, v] w (Ret K) := by
  obtain ⟨fv, vs, lv, ws, e, hd⟩ := sat_rdsk.1 (h.rdks d)
  obtain ⟨av, cv, rfl, hcv, hv, ha⟩ := hv.shape hd.drop.drop.drop.drop.drop
  obtain ⟨af, cf, rfl, hcf, hfl, _⟩ := osl_shape hd.drop
  obtain ⟨aw, cw, rfl, hcw, hwl, _⟩ := osl_shape hd.drop.drop
  have hL2 : ws.length = W.length := by simpa using hd.drop.drop.drop.drop.pers_get.1
  have hone := wcells_one hd.drop.drop.drop.drop.pers_get
  refine c67 ?_
  unfold B67
  have h1 : ¬ (n : Int) < 0 := by omega
  have h2 : ¬ (L.length : Int) ≤ n := by omega
  have h3 : (l.length : Int) = 256 := by omega
  simp only [↓o_nil, ↓o_field, ↓o_add, ↓o_sub, ↓o_mul, ↓o_lss, ↓o_leq, ↓o_gtr, ↓o_geq, ↓o_not, ↓o_pick, ↓o_eqInt, ↓o_neInt, ↓o_eqBool, ↓o_neBool, ↓o_eqPtr, ↓o_nePtr, ↓o_eqPtr', ↓o_eqSl, ↓o_neSl, ↓o_eqStr, ↓o_neStr, ↓o_len, ↓o_lenS, ↓o_min, ↓o_max, ↓o_extract, ↓o_convInt, ↓cd_true, ↓cd_false, ↓gate_tt, ↓gate_ff, ↓gate_tf, ↓gate_ft, ↓gate_undef, ↓o_bind, ↓stay_v, ↓pop_cons, ↓fin_nil, Option.isNone_none, Option.isNone_some, Bool.not_true, Bool.not_false, Nat.zero_add, decide_true, decide_false, if_true, if_false, Bool.false_eq_true, ↓reduceIte, h1]
  refine ld_at hd ?_
  simp only [↓o_nil, ↓o_field, ↓o_add, ↓o_sub, ↓o_mul, ↓o_lss, ↓o_leq, ↓o_gtr, ↓o_geq, ↓o_not, ↓o_pick, ↓o_eqInt, ↓o_neInt, ↓o_eqBool, ↓o_neBool, ↓o_eqPtr, ↓o_nePtr, ↓o_eqPtr', ↓o_eqSl, ↓o_neSl, ↓o_eqStr, ↓o_neStr, ↓o_len, ↓o_lenS, ↓o_min, ↓o_max, ↓o_extract, ↓o_convInt, ↓cd_true, ↓cd_false, ↓gate_tt, ↓gate_ff, ↓gate_tf, ↓gate_ft, ↓gate_undef, ↓o_bind, ↓stay_v, ↓pop_cons, ↓fin_nil, Option.isNone_none, Option.isNone_some, Bool.not_true, Bool.not_false, Nat.zero_add, decide_true, decide_false, if_true, if_false, Bool.false_eq_true, ↓reduceIte, h2, h3]
  refine ld_at hd ?_
  have hwin : win (hp w) aw (wcells ws) := by
    obtain ⟨a', c', e', _, hw⟩ := osl_rd (hd.owns (.slice aw W.length cw))
    cases e'; exact hw
  refine append_sl (osl_nil hd 132 2) (wcells ws) hwl hwin hone (by omega) (by omega) fun v1 w hd => ?_
  refine Copy_spec hd (v := .slice av l.length cv) (l := l) (Rds.under hv) (by omega) fun v2 w hd => ?_
  have hd := osl_freeze hd
  obtain ⟨a2, c2, rfl, _, _⟩ := hd.pers_get
  refine pvv_of (v := .agg #[.int .i64 n, .slice a2 l.length c2]) (fun _ => by kernel_rfl) ?_
  refine buildSlice_sl (e := 132) (cs := #[.int .i64 n, .slice a2 l.length c2]) hd (fun w => by kernel_rfl) fun b1 w hd => ?_
  refine append_sl hd [.int .i64 n, .slice a2 l.length c2] rfl (.inr ⟨b1, 0, _, 132, (0, 0), rfl, hd.pts_get, fun j v hj => by simpa using hj⟩) (by simp [Value.oneCell']) (by omega) (by omega) fun v3 w hd => ?_
  simp only [Nat.zero_add] at hd ⊢
  obtain ⟨a3, c3, rfl, _, _, _⟩ := osl_shape hd
  refine store_at hd rfl (by simp) fun w hd => k w ?_
  have hd := sat_imp2 (hd.lose b1) (immS (.slice a2 l.length c2) l.length (l.map bv)) (immAll (ws.map (·.2)) (W.map (·.2))) (χ := immAll (ws.map (·.2) ++ [.slice a2 l.length c2]) (W.map (·.2) ++ [l])) (fun I h1 h2 => immAll_snoc (v := .slice a2 l.length c2) h2 h1)
  have e1 : ([] ++ wcells ws ++ [Value.int .i64 n, .slice a2 l.length c2]) = wcells (ws ++ [((n : Int), .slice a2 l.length c2)]) := by simp [wcells]
  have e2 : (ws.map (·.2) ++ [Value.slice a2 l.length c2]) = (ws ++ [((n : Int), Value.slice a2 l.length c2)]).map (·.2) := by simp
  have e3 : (W.map (·.2) ++ [l]) = (W ++ [((n : Int), l)]).map (·.2) := by simp
  rw [e1, e2, e3] at hd
  have hd := rdsk_shut d L (W ++ [((n : Int), l)]) (ws := ws ++ [((n : Int), .slice a2 l.length c2)]) rfl (by simp) (by simp [e]) hd
  exact (hd.perm (Q := osl 132 2 (.slice aw W.length cw) W.length (wcells ws) * (rdsk d L (W ++ [((n : Int), l)]) * R)) (by ac_rfl)).drop
end Go.Proofs.YtgkeplodfkmnlaaGreat

/-
  The reference's log, walked for its errors alone: its blocks may tell anything.
-/
set_option linter.all false
set_option maxRecDepth 100000
namespace Go.Proofs.YtgkeplodfkmnlaaGreat
open Go Hold
variable {E : World0} {w : World} {H R X : HP} {K : Value → World → Prop}
/-- What holds of the reference's log. -/
structure RInv (F : List Bs) (V : List (Int × Bs)) (size full : Nat) : Prop where
  wf : Wf F V
  s2 : 2 ≤ size
  sz : size + 2 ≤ F.length
  fu : full ≤ size
theorem RInv.le {F : List Bs} {V : List (Int × Bs)} {size full : Nat} (h : RInv F V size full) : F.length ≤ 1024 := h.wf.le
theorem rPages_spec {m r size head full : Nat} {F : List Bs} {V : List (Int × Bs)} (h : sat E w (rlI m r F V size head full R)) (i : RInv F V size full) (k : ∀ w', sat E w' (rlI m r F V size head full R) → K (.int .i64 ((F.length - size - 1 : Nat) : Int)) w') : Calls prog 70 #[.pointer (some ⟨m, 0, none⟩)] w (Ret K) := by
  have h1 := i.sz; have h2 := i.le
  unfold rlI rcells at *
  refine c70 ?_
  unfold B70
  simp only [↓o_nil, ↓o_field, ↓o_add, ↓o_sub, ↓o_mul, ↓o_lss, ↓o_leq, ↓o_gtr, ↓o_geq, ↓o_not, ↓o_pick, ↓o_eqInt, ↓o_neInt, ↓o_eqBool, ↓o_neBool, ↓o_eqPtr, ↓o_nePtr, ↓o_eqPtr', ↓o_eqSl, ↓o_neSl, ↓o_eqStr, ↓o_neStr, ↓o_len, ↓o_lenS, ↓o_min, ↓o_max, ↓o_extract, ↓o_convInt, ↓cd_true, ↓cd_false, ↓gate_tt, ↓gate_ff, ↓gate_tf, ↓gate_ft, ↓gate_undef, ↓o_bind, ↓stay_v, ↓pop_cons, ↓fin_nil, Option.isNone_none, Option.isNone_some, Bool.not_true, Bool.not_false, Nat.zero_add, decide_true, decide_false, if_true, if_false, Bool.false_eq_true, ↓reduceIte]
  refine dr_sl h fun w h _ => ?_
  refine ld_at h ?_
  refine ld_at h ?_
  refine rBlocks_spec h ?_
  refine st_at h ?_
  try simp only [↓o_nil, ↓o_field, ↓o_add, ↓o_sub, ↓o_mul, ↓o_lss, ↓o_leq, ↓o_gtr, ↓o_geq, ↓o_not, ↓o_pick, ↓o_eqInt, ↓o_neInt, ↓o_eqBool, ↓o_neBool, ↓o_eqPtr, ↓o_nePtr, ↓o_eqPtr', ↓o_eqSl, ↓o_neSl, ↓o_eqStr, ↓o_neStr, ↓o_len, ↓o_lenS, ↓o_min, ↓o_max, ↓o_extract, ↓o_convInt, ↓cd_true, ↓cd_false, ↓gate_tt, ↓gate_ff, ↓gate_tf, ↓gate_ft, ↓gate_undef, ↓o_bind, ↓stay_v, ↓pop_cons, ↓fin_nil, Option.isNone_none, Option.isNone_some, Bool.not_true, Bool.not_false, Nat.zero_add, decide_true, decide_false, if_true, if_false, Bool.false_eq_true, ↓reduceIte]
  rw [i64_of (n := (F.length : Int) - size) (by omega) (by omega), i64_of (by omega) (by omega), show (F.length : Int) - (size : Int) - 1 = ((F.length - size - 1 : Nat) : Int) by omega]
  exact k w h
theorem rpair_weak (h : sat E w H) {v : Value} {l : Bs} (hl : l.length = 256) (hv : Rds H v 256 (l.map bv)) {o : Nat} (ho : o + 2 ≤ 256) (k : ∀ (x : Nat) w', x < 65536 → sat E w' H → K (.int .i64 x) w') : Calls prog 63 #[v, .int .i64 o] w (Ret K) := by
  obtain ⟨a, c, rfl, hc, hv, _⟩ := hv.shape h
  refine c63 ?_
  unfold B63
  refine dr_sl h fun w h _ => ?_
  have hwin := hv.win h
  obtain ⟨b1, o1, rfl, h1⟩ := win_cell hwin (j := o) (by rw [List.length_map]; omega)
  have h2 := hwin.cell b1 o1 rfl (o + 1) _ (List.getElem?_eq_getElem (by rw [List.length_map]; omega))
  rw [o_index (by omega) (by omega)]
  simp only [↓o_nil, ↓o_field, ↓o_add, ↓o_sub, ↓o_mul, ↓o_lss, ↓o_leq, ↓o_gtr, ↓o_geq, ↓o_not, ↓o_pick, ↓o_eqInt, ↓o_neInt, ↓o_eqBool, ↓o_neBool, ↓o_eqPtr, ↓o_nePtr, ↓o_eqPtr', ↓o_eqSl, ↓o_neSl, ↓o_eqStr, ↓o_neStr, ↓o_len, ↓o_lenS, ↓o_min, ↓o_max, ↓o_extract, ↓o_convInt, ↓cd_true, ↓cd_false, ↓gate_tt, ↓gate_ff, ↓gate_tf, ↓gate_ft, ↓gate_undef, ↓o_bind, ↓stay_v, ↓pop_cons, ↓fin_nil, Option.isNone_none, Option.isNone_some, Bool.not_true, Bool.not_false, Nat.zero_add, decide_true, decide_false, if_true, if_false, Bool.false_eq_true, ↓reduceIte]
  rw [i64_of (by omega) (by omega), show (o : Int) + 1 = ((o + 1 : Nat) : Int) by omega, o_index (by omega) (by omega)]
  simp only [Int.toNat_natCast, Nat.mul_one]
  refine ld_cell h1 ?_
  rw [List.getElem_map]
  have hx8 := (l[o]).toNat_lt
  have hy8 := (l[o + 1]).toNat_lt
  simp only [bv, ↓o_nil, ↓o_field, ↓o_add, ↓o_sub, ↓o_mul, ↓o_lss, ↓o_leq, ↓o_gtr, ↓o_geq, ↓o_not, ↓o_pick, ↓o_eqInt, ↓o_neInt, ↓o_eqBool, ↓o_neBool, ↓o_eqPtr, ↓o_nePtr, ↓o_eqPtr', ↓o_eqSl, ↓o_neSl, ↓o_eqStr, ↓o_neStr, ↓o_len, ↓o_lenS, ↓o_min, ↓o_max, ↓o_extract, ↓o_convInt, ↓cd_true, ↓cd_false, ↓gate_tt, ↓gate_ff, ↓gate_tf, ↓gate_ft, ↓gate_undef, ↓o_bind, ↓stay_v, ↓pop_cons, ↓fin_nil, Option.isNone_none, Option.isNone_some, Bool.not_true, Bool.not_false, Nat.zero_add, decide_true, decide_false, if_true, if_false, Bool.false_eq_true, ↓reduceIte]
  rw [i64_of (by omega) (by omega), show (8 : Int) = ((8 : Nat) : Int) from rfl, o_shl (by decide)]
  refine ld_cell h2 ?_
  rw [List.getElem_map]
  simp only [bv, ↓o_nil, ↓o_field, ↓o_add, ↓o_sub, ↓o_mul, ↓o_lss, ↓o_leq, ↓o_gtr, ↓o_geq, ↓o_not, ↓o_pick, ↓o_eqInt, ↓o_neInt, ↓o_eqBool, ↓o_neBool, ↓o_eqPtr, ↓o_nePtr, ↓o_eqPtr', ↓o_eqSl, ↓o_neSl, ↓o_eqStr, ↓o_neStr, ↓o_len, ↓o_lenS, ↓o_min, ↓o_max, ↓o_extract, ↓o_convInt, ↓cd_true, ↓cd_false, ↓gate_tt, ↓gate_ff, ↓gate_tf, ↓gate_ft, ↓gate_undef, ↓o_bind, ↓stay_v, ↓pop_cons, ↓fin_nil, Option.isNone_none, Option.isNone_some, Bool.not_true, Bool.not_false, Nat.zero_add, decide_true, decide_false, if_true, if_false, Bool.false_eq_true, ↓reduceIte]
  rw [i64_of (by omega) (by omega), i64_of (by omega) (by omega), show ((l[o]).toNat : Int) * 2 ^ 8 = (((l[o]).toNat * 256 : Nat) : Int) by omega, o_or8 (by omega) (by omega)]
  exact k _ w (by omega) h
theorem rGroup_weak {m r size head full : Nat} {F : List Bs} {V : List (Int × Bs)} (h : sat E w (rlI m r F V size head full R)) (i : RInv F V size full) (hV : V.length ≤ 1000000) {n e : Nat} (hn : n < F.length) (he : e ≤ 1024)
    (k : ∀ (u : Value) (g : List Int) (ok : Bool) w', g.length ≤ 100 → sat E w' (osl 3 1 u g.length (g.map iv) * rlI m r F V size head full R) → K (.tuple #[u, .bool ok]) w') :
    Calls prog 64 #[.pointer (some ⟨m, 0, none⟩), .int .i64 n, .int .i64 e] w (Ret K) := by
  have h1 := i.sz; have h2 := i.le
  refine c64 ?_
  unfold B64
  refine rBlock_spec h i.wf hV hn fun v l w hl _ h => ?_
  obtain ⟨av, cv, rfl, _, _, _⟩ := osl_shape h
  have hrd : Rds (osl 5 1 (.slice av 256 cv) 256 (l.map bv) * rlI m r F V size head full R) (.slice av 256 cv) 256 (l.map bv) := Rds.osl.left
  have hfail : ∀ w, sat E w (osl 5 1 (.slice av 256 cv) 256 (l.map bv) * rlI m r F V size head full R) → K (.tuple #[.slice none 0 0, .bool false]) w := fun w h => k (.slice none 0 0) [] false w (by simp) (osl_nil h.drop 3 1)
  refine rpair_weak (o := 0) h hl hrd (by omega) fun x w hx h => ?_
  try simp only [↓o_nil, ↓o_field, ↓o_add, ↓o_sub, ↓o_mul, ↓o_lss, ↓o_leq, ↓o_gtr, ↓o_geq, ↓o_not, ↓o_pick, ↓o_eqInt, ↓o_neInt, ↓o_eqBool, ↓o_neBool, ↓o_eqPtr, ↓o_nePtr, ↓o_eqPtr', ↓o_eqSl, ↓o_neSl, ↓o_eqStr, ↓o_neStr, ↓o_len, ↓o_lenS, ↓o_min, ↓o_max, ↓o_extract, ↓o_convInt, ↓cd_true, ↓cd_false, ↓gate_tt, ↓gate_ff, ↓gate_tf, ↓gate_ft, ↓gate_undef, ↓o_bind, ↓stay_v, ↓pop_cons, ↓fin_nil, Option.isNone_none, Option.isNone_some, Bool.not_true, Bool.not_false, Nat.zero_add, decide_true, decide_false, if_true, if_false, Bool.false_eq_true, ↓reduceIte]
  by_cases e1 : (x : Int) < 1
  · simp only [e1, ↓o_nil, ↓o_field, ↓o_add, ↓o_sub, ↓o_mul, ↓o_lss, ↓o_leq, ↓o_gtr, ↓o_geq, ↓o_not, ↓o_pick, ↓o_eqInt, ↓o_neInt, ↓o_eqBool, ↓o_neBool, ↓o_eqPtr, ↓o_nePtr, ↓o_eqPtr', ↓o_eqSl, ↓o_neSl, ↓o_eqStr, ↓o_neStr, ↓o_len, ↓o_lenS, ↓o_min, ↓o_max, ↓o_extract, ↓o_convInt, ↓cd_true, ↓cd_false, ↓gate_tt, ↓gate_ff, ↓gate_tf, ↓gate_ft, ↓gate_undef, ↓o_bind, ↓stay_v, ↓pop_cons, ↓fin_nil, Option.isNone_none, Option.isNone_some, Bool.not_true, Bool.not_false, Nat.zero_add, decide_true, decide_false, if_true, if_false, Bool.false_eq_true, ↓reduceIte]
    exact hfail w h
  by_cases e2 : (100 : Int) < (x : Int)
  · simp only [e1, e2, ↓o_nil, ↓o_field, ↓o_add, ↓o_sub, ↓o_mul, ↓o_lss, ↓o_leq, ↓o_gtr, ↓o_geq, ↓o_not, ↓o_pick, ↓o_eqInt, ↓o_neInt, ↓o_eqBool, ↓o_neBool, ↓o_eqPtr, ↓o_nePtr, ↓o_eqPtr', ↓o_eqSl, ↓o_neSl, ↓o_eqStr, ↓o_neStr, ↓o_len, ↓o_lenS, ↓o_min, ↓o_max, ↓o_extract, ↓o_convInt, ↓cd_true, ↓cd_false, ↓gate_tt, ↓gate_ff, ↓gate_tf, ↓gate_ft, ↓gate_undef, ↓o_bind, ↓stay_v, ↓pop_cons, ↓fin_nil, Option.isNone_none, Option.isNone_some, Bool.not_true, Bool.not_false, Nat.zero_add, decide_true, decide_false, if_true, if_false, Bool.false_eq_true, ↓reduceIte]
    exact hfail w h
  simp only [e1, e2, ↓o_nil, ↓o_field, ↓o_add, ↓o_sub, ↓o_mul, ↓o_lss, ↓o_leq, ↓o_gtr, ↓o_geq, ↓o_not, ↓o_pick, ↓o_eqInt, ↓o_neInt, ↓o_eqBool, ↓o_neBool, ↓o_eqPtr, ↓o_nePtr, ↓o_eqPtr', ↓o_eqSl, ↓o_neSl, ↓o_eqStr, ↓o_neStr, ↓o_len, ↓o_lenS, ↓o_min, ↓o_max, ↓o_extract, ↓o_convInt, ↓cd_true, ↓cd_false, ↓gate_tt, ↓gate_ff, ↓gate_tf, ↓gate_ft, ↓gate_undef, ↓o_bind, ↓stay_v, ↓pop_cons, ↓fin_nil, Option.isNone_none, Option.isNone_some, Bool.not_true, Bool.not_false, Nat.zero_add, decide_true, decide_false, if_true, if_false, Bool.false_eq_true, ↓reduceIte]
  rw [i64_of (by omega) (by omega)]
  by_cases e3 : (e : Int) < (n : Int) + (x : Int)
  · simp only [e3, ↓o_nil, ↓o_field, ↓o_add, ↓o_sub, ↓o_mul, ↓o_lss, ↓o_leq, ↓o_gtr, ↓o_geq, ↓o_not, ↓o_pick, ↓o_eqInt, ↓o_neInt, ↓o_eqBool, ↓o_neBool, ↓o_eqPtr, ↓o_nePtr, ↓o_eqPtr', ↓o_eqSl, ↓o_neSl, ↓o_eqStr, ↓o_neStr, ↓o_len, ↓o_lenS, ↓o_min, ↓o_max, ↓o_extract, ↓o_convInt, ↓cd_true, ↓cd_false, ↓gate_tt, ↓gate_ff, ↓gate_tf, ↓gate_ft, ↓gate_undef, ↓o_bind, ↓stay_v, ↓pop_cons, ↓fin_nil, Option.isNone_none, Option.isNone_some, Bool.not_true, Bool.not_false, Nat.zero_add, decide_true, decide_false, if_true, if_false, Bool.false_eq_true, ↓reduceIte]
    exact hfail w h
  simp only [e3, ↓o_nil, ↓o_field, ↓o_add, ↓o_sub, ↓o_mul, ↓o_lss, ↓o_leq, ↓o_gtr, ↓o_geq, ↓o_not, ↓o_pick, ↓o_eqInt, ↓o_neInt, ↓o_eqBool, ↓o_neBool, ↓o_eqPtr, ↓o_nePtr, ↓o_eqPtr', ↓o_eqSl, ↓o_neSl, ↓o_eqStr, ↓o_neStr, ↓o_len, ↓o_lenS, ↓o_min, ↓o_max, ↓o_extract, ↓o_convInt, ↓cd_true, ↓cd_false, ↓gate_tt, ↓gate_ff, ↓gate_tf, ↓gate_ft, ↓gate_undef, ↓o_bind, ↓stay_v, ↓pop_cons, ↓fin_nil, Option.isNone_none, Option.isNone_some, Bool.not_true, Bool.not_false, Nat.zero_add, decide_true, decide_false, if_true, if_false, Bool.false_eq_true, ↓reduceIte]
  rw [i64_of (n := 2 * (x : Int)) (by omega) (by omega), i64_of (by omega) (by omega), show (2 : Int) + 2 * (x : Int) = ((2 + 2 * x : Nat) : Int) by omega]
  refine rzeros_spec (l := l) h (by rw [hl]; exact hrd) (by omega) (by omega) fun w rz _ h => ?_
  try simp only [↓o_nil, ↓o_field, ↓o_add, ↓o_sub, ↓o_mul, ↓o_lss, ↓o_leq, ↓o_gtr, ↓o_geq, ↓o_not, ↓o_pick, ↓o_eqInt, ↓o_neInt, ↓o_eqBool, ↓o_neBool, ↓o_eqPtr, ↓o_nePtr, ↓o_eqPtr', ↓o_eqSl, ↓o_neSl, ↓o_eqStr, ↓o_neStr, ↓o_len, ↓o_lenS, ↓o_min, ↓o_max, ↓o_extract, ↓o_convInt, ↓cd_true, ↓cd_false, ↓gate_tt, ↓gate_ff, ↓gate_tf, ↓gate_ft, ↓gate_undef, ↓o_bind, ↓stay_v, ↓pop_cons, ↓fin_nil, Option.isNone_none, Option.isNone_some, Bool.not_true, Bool.not_false, Nat.zero_add, decide_true, decide_false, if_true, if_false, Bool.false_eq_true, ↓reduceIte]
  cases rz with
  | false => simp only [↓o_nil, ↓o_field, ↓o_add, ↓o_sub, ↓o_mul, ↓o_lss, ↓o_leq, ↓o_gtr, ↓o_geq, ↓o_not, ↓o_pick, ↓o_eqInt, ↓o_neInt, ↓o_eqBool, ↓o_neBool, ↓o_eqPtr, ↓o_nePtr, ↓o_eqPtr', ↓o_eqSl, ↓o_neSl, ↓o_eqStr, ↓o_neStr, ↓o_len, ↓o_lenS, ↓o_min, ↓o_max, ↓o_extract, ↓o_convInt, ↓cd_true, ↓cd_false, ↓gate_tt, ↓gate_ff, ↓gate_tf, ↓gate_ft, ↓gate_undef, ↓o_bind, ↓stay_v, ↓pop_cons, ↓fin_nil, Option.isNone_none, Option.isNone_some, Bool.not_true, Bool.not_false, Nat.zero_add, decide_true, decide_false, if_true, if_false, Bool.false_eq_true, ↓reduceIte]; exact hfail w h
  | true =>
    simp only [↓o_nil, ↓o_field, ↓o_add, ↓o_sub, ↓o_mul, ↓o_lss, ↓o_leq, ↓o_gtr, ↓o_geq, ↓o_not, ↓o_pick, ↓o_eqInt, ↓o_neInt, ↓o_eqBool, ↓o_neBool, ↓o_eqPtr, ↓o_nePtr, ↓o_eqPtr', ↓o_eqSl, ↓o_neSl, ↓o_eqStr, ↓o_neStr, ↓o_len, ↓o_lenS, ↓o_min, ↓o_max, ↓o_extract, ↓o_convInt, ↓cd_true, ↓cd_false, ↓gate_tt, ↓gate_ff, ↓gate_tf, ↓gate_ft, ↓gate_undef, ↓o_bind, ↓stay_v, ↓pop_cons, ↓fin_nil, Option.isNone_none, Option.isNone_some, Bool.not_true, Bool.not_false, Nat.zero_add, decide_true, decide_false, if_true, if_false, Bool.false_eq_true, ↓reduceIte]
    refine lp_nat (fun q σ w => ∃ (j : Nat) (u : Value) (g : List Int), σ = [u, .int .i64 j] ∧ q = x - j ∧ j ≤ x ∧ g.length = j ∧ sat E w (osl 3 1 u j (g.map iv) * (osl 5 1 (.slice av 256 cv) 256 (l.map bv) * rlI m r F V size head full R))) x ⟨0, _, [], rfl, rfl, by omega, rfl, osl_nil h 3 1⟩ ?_
    clear h
    rintro q σ w again ⟨j, u, g, rfl, rfl, hj, hg, h⟩ hag
    try simp only [↓o_nil, ↓o_field, ↓o_add, ↓o_sub, ↓o_mul, ↓o_lss, ↓o_leq, ↓o_gtr, ↓o_geq, ↓o_not, ↓o_pick, ↓o_eqInt, ↓o_neInt, ↓o_eqBool, ↓o_neBool, ↓o_eqPtr, ↓o_nePtr, ↓o_eqPtr', ↓o_eqSl, ↓o_neSl, ↓o_eqStr, ↓o_neStr, ↓o_len, ↓o_lenS, ↓o_min, ↓o_max, ↓o_extract, ↓o_convInt, ↓cd_true, ↓cd_false, ↓gate_tt, ↓gate_ff, ↓gate_tf, ↓gate_ft, ↓gate_undef, ↓o_bind, ↓stay_v, ↓pop_cons, ↓fin_nil, Option.isNone_none, Option.isNone_some, Bool.not_true, Bool.not_false, Nat.zero_add, decide_true, decide_false, if_true, if_false, Bool.false_eq_true, ↓reduceIte]
    refine cd_dec (fun hlt => ?_) (fun hge => ?_)
    · have hlt : j < x := by omega
      rw [i64_of (n := 2 * (j : Int)) (by omega) (by omega), i64_of (by omega) (by omega), show (2 : Int) + 2 * (j : Int) = ((2 + 2 * j : Nat) : Int) by omega]
      refine rpair_weak h hl hrd.right (by omega) fun y w hy h => ?_
      have h : sat E w (rlI m r F V size head full (osl 3 1 u j (g.map iv) * (osl 5 1 (.slice av 256 cv) 256 (l.map bv) * R))) := by
        unfold rlI at h ⊢
        exact h.perm (by ac_rfl)
      refine rPages_spec h i fun w h => ?_
      have h : sat E w (osl 3 1 u j (g.map iv) * (osl 5 1 (.slice av 256 cv) 256 (l.map bv) * rlI m r F V size head full R)) := by
        unfold rlI at h ⊢
        exact h.perm (by ac_rfl)
      try simp only [↓o_nil, ↓o_field, ↓o_add, ↓o_sub, ↓o_mul, ↓o_lss, ↓o_leq, ↓o_gtr, ↓o_geq, ↓o_not, ↓o_pick, ↓o_eqInt, ↓o_neInt, ↓o_eqBool, ↓o_neBool, ↓o_eqPtr, ↓o_nePtr, ↓o_eqPtr', ↓o_eqSl, ↓o_neSl, ↓o_eqStr, ↓o_neStr, ↓o_len, ↓o_lenS, ↓o_min, ↓o_max, ↓o_extract, ↓o_convInt, ↓cd_true, ↓cd_false, ↓gate_tt, ↓gate_ff, ↓gate_tf, ↓gate_ft, ↓gate_undef, ↓o_bind, ↓stay_v, ↓pop_cons, ↓fin_nil, Option.isNone_none, Option.isNone_some, Bool.not_true, Bool.not_false, Nat.zero_add, decide_true, decide_false, if_true, if_false, Bool.false_eq_true, ↓reduceIte]
      have hgo : ∀ w, sat E w (osl 3 1 u j (g.map iv) * (osl 5 1 (.slice av 256 cv) 256 (l.map bv) * rlI m r F V size head full R)) →
          efv prog (Instr.buildSlice 29 1 #[(0, .int .i64 y)]) w fun t_40 w => ef prog (oBi .append #[29, 29] 29 #[false, false] #[u, t_40]) w fun t_41 w => pvv prog (binOp .add 3 (.int .i64 j) (.int .i64 1)) w fun t_42 w => again [t_41, t_42] w := fun w h => by
        have h := h.owns u
        refine push_sl (v := u) h rfl rfl (by omega) (by omega) fun v2 w h => ?_
        simp only [↓o_nil, ↓o_field, ↓o_add, ↓o_sub, ↓o_mul, ↓o_lss, ↓o_leq, ↓o_gtr, ↓o_geq, ↓o_not, ↓o_pick, ↓o_eqInt, ↓o_neInt, ↓o_eqBool, ↓o_neBool, ↓o_eqPtr, ↓o_nePtr, ↓o_eqPtr', ↓o_eqSl, ↓o_neSl, ↓o_eqStr, ↓o_neStr, ↓o_len, ↓o_lenS, ↓o_min, ↓o_max, ↓o_extract, ↓o_convInt, ↓cd_true, ↓cd_false, ↓gate_tt, ↓gate_ff, ↓gate_tf, ↓gate_ft, ↓gate_undef, ↓o_bind, ↓stay_v, ↓pop_cons, ↓fin_nil, Option.isNone_none, Option.isNone_some, Bool.not_true, Bool.not_false, Nat.zero_add, decide_true, decide_false, if_true, if_false, Bool.false_eq_true, ↓reduceIte]
        rw [i64_of (by omega) (by omega)]
        refine hag (x - (j + 1)) _ _ (by omega) ⟨j + 1, v2, g ++ [(y : Int)], rfl, rfl, by omega, by simp [hg], ?_⟩
        rw [List.map_append]
        exact h
      simp only [↓o_nil, ↓o_field, ↓o_add, ↓o_sub, ↓o_mul, ↓o_lss, ↓o_leq, ↓o_gtr, ↓o_geq, ↓o_not, ↓o_pick, ↓o_eqInt, ↓o_neInt, ↓o_eqBool, ↓o_neBool, ↓o_eqPtr, ↓o_nePtr, ↓o_eqPtr', ↓o_eqSl, ↓o_neSl, ↓o_eqStr, ↓o_neStr, ↓o_len, ↓o_lenS, ↓o_min, ↓o_max, ↓o_extract, ↓o_convInt, ↓cd_true, ↓cd_false, ↓gate_tt, ↓gate_ff, ↓gate_tf, ↓gate_ft, ↓gate_undef, ↓o_bind, ↓stay_v, ↓pop_cons, ↓fin_nil, Option.isNone_none, Option.isNone_some, Bool.not_true, Bool.not_false, Nat.zero_add, decide_true, decide_false, if_true, if_false, Bool.false_eq_true, ↓reduceIte] at hgo
      by_cases e4 : ((F.length - size - 1 : Nat) : Int) ≤ (y : Int)
      · simp only [e4, ↓o_nil, ↓o_field, ↓o_add, ↓o_sub, ↓o_mul, ↓o_lss, ↓o_leq, ↓o_gtr, ↓o_geq, ↓o_not, ↓o_pick, ↓o_eqInt, ↓o_neInt, ↓o_eqBool, ↓o_neBool, ↓o_eqPtr, ↓o_nePtr, ↓o_eqPtr', ↓o_eqSl, ↓o_neSl, ↓o_eqStr, ↓o_neStr, ↓o_len, ↓o_lenS, ↓o_min, ↓o_max, ↓o_extract, ↓o_convInt, ↓cd_true, ↓cd_false, ↓gate_tt, ↓gate_ff, ↓gate_tf, ↓gate_ft, ↓gate_undef, ↓o_bind, ↓stay_v, ↓pop_cons, ↓fin_nil, Option.isNone_none, Option.isNone_some, Bool.not_true, Bool.not_false, Nat.zero_add, decide_true, decide_false, if_true, if_false, Bool.false_eq_true, ↓reduceIte]
        exact hfail w h.drop
      · simp only [e4, ↓o_nil, ↓o_field, ↓o_add, ↓o_sub, ↓o_mul, ↓o_lss, ↓o_leq, ↓o_gtr, ↓o_geq, ↓o_not, ↓o_pick, ↓o_eqInt, ↓o_neInt, ↓o_eqBool, ↓o_neBool, ↓o_eqPtr, ↓o_nePtr, ↓o_eqPtr', ↓o_eqSl, ↓o_neSl, ↓o_eqStr, ↓o_neStr, ↓o_len, ↓o_lenS, ↓o_min, ↓o_max, ↓o_extract, ↓o_convInt, ↓cd_true, ↓cd_false, ↓gate_tt, ↓gate_ff, ↓gate_tf, ↓gate_ft, ↓gate_undef, ↓o_bind, ↓stay_v, ↓pop_cons, ↓fin_nil, Option.isNone_none, Option.isNone_some, Bool.not_true, Bool.not_false, Nat.zero_add, decide_true, decide_false, if_true, if_false, Bool.false_eq_true, ↓reduceIte]
        by_cases e5 : (0 : Int) < (j : Int)
        · simp only [e5, ↓o_nil, ↓o_field, ↓o_add, ↓o_sub, ↓o_mul, ↓o_lss, ↓o_leq, ↓o_gtr, ↓o_geq, ↓o_not, ↓o_pick, ↓o_eqInt, ↓o_neInt, ↓o_eqBool, ↓o_neBool, ↓o_eqPtr, ↓o_nePtr, ↓o_eqPtr', ↓o_eqSl, ↓o_neSl, ↓o_eqStr, ↓o_neStr, ↓o_len, ↓o_lenS, ↓o_min, ↓o_max, ↓o_extract, ↓o_convInt, ↓cd_true, ↓cd_false, ↓gate_tt, ↓gate_ff, ↓gate_tf, ↓gate_ft, ↓gate_undef, ↓o_bind, ↓stay_v, ↓pop_cons, ↓fin_nil, Option.isNone_none, Option.isNone_some, Bool.not_true, Bool.not_false, Nat.zero_add, decide_true, decide_false, if_true, if_false, Bool.false_eq_true, ↓reduceIte]
          rw [i64_of (n := (j : Int) - 1) (by omega) (by omega)]
          have hru : Rds (osl 3 1 u j (g.map iv) * (osl 5 1 (.slice av 256 cv) 256 (l.map bv) * rlI m r F V size head full R)) u j (g.map iv) := Rds.osl.left
          obtain ⟨au, cu, rfl, _, hru, _⟩ := hru.shape h
          obtain ⟨b1, o1, rfl, hb1⟩ := win_cell (hru.win h) (j := j - 1) (by rw [List.length_map]; omega)
          rw [show (j : Int) - 1 = ((j - 1 : Nat) : Int) by omega, o_index (by omega) (by omega)]
          simp only [Int.toNat_natCast, Nat.mul_one]
          refine ld_cell hb1 ?_
          rw [List.getElem_map]
          simp only [iv, ↓o_nil, ↓o_field, ↓o_add, ↓o_sub, ↓o_mul, ↓o_lss, ↓o_leq, ↓o_gtr, ↓o_geq, ↓o_not, ↓o_pick, ↓o_eqInt, ↓o_neInt, ↓o_eqBool, ↓o_neBool, ↓o_eqPtr, ↓o_nePtr, ↓o_eqPtr', ↓o_eqSl, ↓o_neSl, ↓o_eqStr, ↓o_neStr, ↓o_len, ↓o_lenS, ↓o_min, ↓o_max, ↓o_extract, ↓o_convInt, ↓cd_true, ↓cd_false, ↓gate_tt, ↓gate_ff, ↓gate_tf, ↓gate_ft, ↓gate_undef, ↓o_bind, ↓stay_v, ↓pop_cons, ↓fin_nil, Option.isNone_none, Option.isNone_some, Bool.not_true, Bool.not_false, Nat.zero_add, decide_true, decide_false, if_true, if_false, Bool.false_eq_true, ↓reduceIte]
          by_cases e6 : (y : Int) ≤ g[j - 1]
          · simp only [e6, ↓o_nil, ↓o_field, ↓o_add, ↓o_sub, ↓o_mul, ↓o_lss, ↓o_leq, ↓o_gtr, ↓o_geq, ↓o_not, ↓o_pick, ↓o_eqInt, ↓o_neInt, ↓o_eqBool, ↓o_neBool, ↓o_eqPtr, ↓o_nePtr, ↓o_eqPtr', ↓o_eqSl, ↓o_neSl, ↓o_eqStr, ↓o_neStr, ↓o_len, ↓o_lenS, ↓o_min, ↓o_max, ↓o_extract, ↓o_convInt, ↓cd_true, ↓cd_false, ↓gate_tt, ↓gate_ff, ↓gate_tf, ↓gate_ft, ↓gate_undef, ↓o_bind, ↓stay_v, ↓pop_cons, ↓fin_nil, Option.isNone_none, Option.isNone_some, Bool.not_true, Bool.not_false, Nat.zero_add, decide_true, decide_false, if_true, if_false, Bool.false_eq_true, ↓reduceIte]
            exact hfail w h.drop
          · simp only [e6, ↓o_nil, ↓o_field, ↓o_add, ↓o_sub, ↓o_mul, ↓o_lss, ↓o_leq, ↓o_gtr, ↓o_geq, ↓o_not, ↓o_pick, ↓o_eqInt, ↓o_neInt, ↓o_eqBool, ↓o_neBool, ↓o_eqPtr, ↓o_nePtr, ↓o_eqPtr', ↓o_eqSl, ↓o_neSl, ↓o_eqStr, ↓o_neStr, ↓o_len, ↓o_lenS, ↓o_min, ↓o_max, ↓o_extract, ↓o_convInt, ↓cd_true, ↓cd_false, ↓gate_tt, ↓gate_ff, ↓gate_tf, ↓gate_ft, ↓gate_undef, ↓o_bind, ↓stay_v, ↓pop_cons, ↓fin_nil, Option.isNone_none, Option.isNone_some, Bool.not_true, Bool.not_false, Nat.zero_add, decide_true, decide_false, if_true, if_false, Bool.false_eq_true, ↓reduceIte]
            exact hgo w h
        · simp only [e5, ↓o_nil, ↓o_field, ↓o_add, ↓o_sub, ↓o_mul, ↓o_lss, ↓o_leq, ↓o_gtr, ↓o_geq, ↓o_not, ↓o_pick, ↓o_eqInt, ↓o_neInt, ↓o_eqBool, ↓o_neBool, ↓o_eqPtr, ↓o_nePtr, ↓o_eqPtr', ↓o_eqSl, ↓o_neSl, ↓o_eqStr, ↓o_neStr, ↓o_len, ↓o_lenS, ↓o_min, ↓o_max, ↓o_extract, ↓o_convInt, ↓cd_true, ↓cd_false, ↓gate_tt, ↓gate_ff, ↓gate_tf, ↓gate_ft, ↓gate_undef, ↓o_bind, ↓stay_v, ↓pop_cons, ↓fin_nil, Option.isNone_none, Option.isNone_some, Bool.not_true, Bool.not_false, Nat.zero_add, decide_true, decide_false, if_true, if_false, Bool.false_eq_true, ↓reduceIte]
          exact hgo w h
    · have : j = x := by omega
      subst this
      refine k u g true w (by omega) ?_
      rw [hg]
      exact (h.perm (star_left_comm _ _ _)).drop
theorem rPlace_weak {m r size head full : Nat} {F : List Bs} {V : List (Int × Bs)} (h : sat E w (rlI m r F V size head full R)) (i : RInv F V size full) (hV : V.length ≤ 1000000) {p : Nat} (hp : p ≤ 1024)
    (k : ∀ (x : Nat) w', x ≤ 10000 → sat E w' (rlI m r F V size head full R) → K (.int .i64 x) w') : Calls prog 68 #[.pointer (some ⟨m, 0, none⟩), .int .i64 p] w (Ret K) := by
  have h1 := i.sz; have h2 := i.le; have h3 := i.fu
  refine c68 ?_
  unfold B68
  simp only [↓o_nil, ↓o_field, ↓o_add, ↓o_sub, ↓o_mul, ↓o_lss, ↓o_leq, ↓o_gtr, ↓o_geq, ↓o_not, ↓o_pick, ↓o_eqInt, ↓o_neInt, ↓o_eqBool, ↓o_neBool, ↓o_eqPtr, ↓o_nePtr, ↓o_eqPtr', ↓o_eqSl, ↓o_neSl, ↓o_eqStr, ↓o_neStr, ↓o_len, ↓o_lenS, ↓o_min, ↓o_max, ↓o_extract, ↓o_convInt, ↓cd_true, ↓cd_false, ↓gate_tt, ↓gate_ff, ↓gate_tf, ↓gate_ft, ↓gate_undef, ↓o_bind, ↓stay_v, ↓pop_cons, ↓fin_nil, Option.isNone_none, Option.isNone_some, Bool.not_true, Bool.not_false, Nat.zero_add, decide_true, decide_false, if_true, if_false, Bool.false_eq_true, ↓reduceIte]
  have h0 := h
  unfold rlI rcells at h
  refine ld_at h ?_
  try simp only [↓o_nil, ↓o_field, ↓o_add, ↓o_sub, ↓o_mul, ↓o_lss, ↓o_leq, ↓o_gtr, ↓o_geq, ↓o_not, ↓o_pick, ↓o_eqInt, ↓o_neInt, ↓o_eqBool, ↓o_neBool, ↓o_eqPtr, ↓o_nePtr, ↓o_eqPtr', ↓o_eqSl, ↓o_neSl, ↓o_eqStr, ↓o_neStr, ↓o_len, ↓o_lenS, ↓o_min, ↓o_max, ↓o_extract, ↓o_convInt, ↓cd_true, ↓cd_false, ↓gate_tt, ↓gate_ff, ↓gate_tf, ↓gate_ft, ↓gate_undef, ↓o_bind, ↓stay_v, ↓pop_cons, ↓fin_nil, Option.isNone_none, Option.isNone_some, Bool.not_true, Bool.not_false, Nat.zero_add, decide_true, decide_false, if_true, if_false, Bool.false_eq_true, ↓reduceIte]
  rw [i64_of (n := (size : Int) + 1) (by omega) (by omega), i64_of (by omega) (by omega), show (size : Int) + 1 + (p : Int) = ((size + 1 + p : Nat) : Int) by omega]
  clear h
  refine lp_nat (fun q σ w => ∃ n x : Nat, σ = [.int .i64 x, .int .i64 n] ∧ q = 2000 - n ∧ n ≤ full + 102 ∧ x ≤ 10000 ∧ sat E w (rlI m r F V size head full R)) 1999 ⟨1, size + 1 + p, rfl, rfl, by omega, by omega, h0⟩ ?_
  clear h0
  rintro q σ w again ⟨n, x, rfl, rfl, hn, hx, h⟩ hag
  try simp only [↓o_nil, ↓o_field, ↓o_add, ↓o_sub, ↓o_mul, ↓o_lss, ↓o_leq, ↓o_gtr, ↓o_geq, ↓o_not, ↓o_pick, ↓o_eqInt, ↓o_neInt, ↓o_eqBool, ↓o_neBool, ↓o_eqPtr, ↓o_nePtr, ↓o_eqPtr', ↓o_eqSl, ↓o_neSl, ↓o_eqStr, ↓o_neStr, ↓o_len, ↓o_lenS, ↓o_min, ↓o_max, ↓o_extract, ↓o_convInt, ↓cd_true, ↓cd_false, ↓gate_tt, ↓gate_ff, ↓gate_tf, ↓gate_ft, ↓gate_undef, ↓o_bind, ↓stay_v, ↓pop_cons, ↓fin_nil, Option.isNone_none, Option.isNone_some, Bool.not_true, Bool.not_false, Nat.zero_add, decide_true, decide_false, if_true, if_false, Bool.false_eq_true, ↓reduceIte]
  have h0 := h
  unfold rlI rcells at h
  refine ld_at h ?_
  try simp only [↓o_nil, ↓o_field, ↓o_add, ↓o_sub, ↓o_mul, ↓o_lss, ↓o_leq, ↓o_gtr, ↓o_geq, ↓o_not, ↓o_pick, ↓o_eqInt, ↓o_neInt, ↓o_eqBool, ↓o_neBool, ↓o_eqPtr, ↓o_nePtr, ↓o_eqPtr', ↓o_eqSl, ↓o_neSl, ↓o_eqStr, ↓o_neStr, ↓o_len, ↓o_lenS, ↓o_min, ↓o_max, ↓o_extract, ↓o_convInt, ↓cd_true, ↓cd_false, ↓gate_tt, ↓gate_ff, ↓gate_tf, ↓gate_ft, ↓gate_undef, ↓o_bind, ↓stay_v, ↓pop_cons, ↓fin_nil, Option.isNone_none, Option.isNone_some, Bool.not_true, Bool.not_false, Nat.zero_add, decide_true, decide_false, if_true, if_false, Bool.false_eq_true, ↓reduceIte]
  refine cd_dec (fun hle => ?_) (fun hgt => ?_)
  · refine ld_at h ?_
    clear h
    refine rGroup_weak h0 i hV (by omega) (by omega) fun u g ok w hg h => ?_
    try simp only [↓o_nil, ↓o_field, ↓o_add, ↓o_sub, ↓o_mul, ↓o_lss, ↓o_leq, ↓o_gtr, ↓o_geq, ↓o_not, ↓o_pick, ↓o_eqInt, ↓o_neInt, ↓o_eqBool, ↓o_neBool, ↓o_eqPtr, ↓o_nePtr, ↓o_eqPtr', ↓o_eqSl, ↓o_neSl, ↓o_eqStr, ↓o_neStr, ↓o_len, ↓o_lenS, ↓o_min, ↓o_max, ↓o_extract, ↓o_convInt, ↓cd_true, ↓cd_false, ↓gate_tt, ↓gate_ff, ↓gate_tf, ↓gate_ft, ↓gate_undef, ↓o_bind, ↓stay_v, ↓pop_cons, ↓fin_nil, Option.isNone_none, Option.isNone_some, Bool.not_true, Bool.not_false, Nat.zero_add, decide_true, decide_false, if_true, if_false, Bool.false_eq_true, ↓reduceIte]
    obtain ⟨au, cu, rfl, _, _, _⟩ := osl_shape h
    refine lp_nat (fun q σ w => ∃ j x : Nat, σ = [.int .i64 x, .int .i64 j] ∧ q = g.length - j ∧ j ≤ g.length ∧ x ≤ 10000 ∧ sat E w (osl 3 1 (.slice au g.length cu) g.length (g.map iv) * rlI m r F V size head full R)) g.length ⟨0, x, rfl, rfl, by omega, hx, h⟩ ?_
    clear h
    rintro q σ w again2 ⟨j, x, rfl, rfl, hj, hx, h⟩ hag2
    try simp only [↓o_nil, ↓o_field, ↓o_add, ↓o_sub, ↓o_mul, ↓o_lss, ↓o_leq, ↓o_gtr, ↓o_geq, ↓o_not, ↓o_pick, ↓o_eqInt, ↓o_neInt, ↓o_eqBool, ↓o_neBool, ↓o_eqPtr, ↓o_nePtr, ↓o_eqPtr', ↓o_eqSl, ↓o_neSl, ↓o_eqStr, ↓o_neStr, ↓o_len, ↓o_lenS, ↓o_min, ↓o_max, ↓o_extract, ↓o_convInt, ↓cd_true, ↓cd_false, ↓gate_tt, ↓gate_ff, ↓gate_tf, ↓gate_ft, ↓gate_undef, ↓o_bind, ↓stay_v, ↓pop_cons, ↓fin_nil, Option.isNone_none, Option.isNone_some, Bool.not_true, Bool.not_false, Nat.zero_add, decide_true, decide_false, if_true, if_false, Bool.false_eq_true, ↓reduceIte]
    refine cd_dec (fun hlt => ?_) (fun hge => ?_)
    · have hlt : j < g.length := by omega
      refine jn_cut (fun σ w => ∃ x : Nat, σ = [.int .i64 x] ∧ x ≤ 10000 ∧ sat E w (osl 3 1 (.slice au g.length cu) g.length (g.map iv) * rlI m r F V size head full R)) ?_ ?_
      · intro kk hk
        obtain ⟨b1, o1, rfl, hb1⟩ := win_cell ((Rds.osl).win h.drop') (j := j) (by simpa using hlt)
        rw [o_index (by omega) (by omega)]
        simp only [Int.toNat_natCast, Nat.mul_one]
        refine ld_cell hb1 ?_
        rw [List.getElem_map]
        simp only [iv, ↓o_nil, ↓o_field, ↓o_add, ↓o_sub, ↓o_mul, ↓o_lss, ↓o_leq, ↓o_gtr, ↓o_geq, ↓o_not, ↓o_pick, ↓o_eqInt, ↓o_neInt, ↓o_eqBool, ↓o_neBool, ↓o_eqPtr, ↓o_nePtr, ↓o_eqPtr', ↓o_eqSl, ↓o_neSl, ↓o_eqStr, ↓o_neStr, ↓o_len, ↓o_lenS, ↓o_min, ↓o_max, ↓o_extract, ↓o_convInt, ↓cd_true, ↓cd_false, ↓gate_tt, ↓gate_ff, ↓gate_tf, ↓gate_ft, ↓gate_undef, ↓o_bind, ↓stay_v, ↓pop_cons, ↓fin_nil, Option.isNone_none, Option.isNone_some, Bool.not_true, Bool.not_false, Nat.zero_add, decide_true, decide_false, if_true, if_false, Bool.false_eq_true, ↓reduceIte]
        by_cases e : g[j] = (p : Int)
        · simp only [e, ↓o_nil, ↓o_field, ↓o_add, ↓o_sub, ↓o_mul, ↓o_lss, ↓o_leq, ↓o_gtr, ↓o_geq, ↓o_not, ↓o_pick, ↓o_eqInt, ↓o_neInt, ↓o_eqBool, ↓o_neBool, ↓o_eqPtr, ↓o_nePtr, ↓o_eqPtr', ↓o_eqSl, ↓o_neSl, ↓o_eqStr, ↓o_neStr, ↓o_len, ↓o_lenS, ↓o_min, ↓o_max, ↓o_extract, ↓o_convInt, ↓cd_true, ↓cd_false, ↓gate_tt, ↓gate_ff, ↓gate_tf, ↓gate_ft, ↓gate_undef, ↓o_bind, ↓stay_v, ↓pop_cons, ↓fin_nil, Option.isNone_none, Option.isNone_some, Bool.not_true, Bool.not_false, Nat.zero_add, decide_true, decide_false, if_true, if_false, Bool.false_eq_true, ↓reduceIte]
          rw [i64_of (n := (n : Int) + 1) (by omega) (by omega), i64_of (by omega) (by omega)]
          exact hk _ w ⟨n + 1 + j, rfl, by omega, h⟩
        · simp only [e, ↓o_nil, ↓o_field, ↓o_add, ↓o_sub, ↓o_mul, ↓o_lss, ↓o_leq, ↓o_gtr, ↓o_geq, ↓o_not, ↓o_pick, ↓o_eqInt, ↓o_neInt, ↓o_eqBool, ↓o_neBool, ↓o_eqPtr, ↓o_nePtr, ↓o_eqPtr', ↓o_eqSl, ↓o_neSl, ↓o_eqStr, ↓o_neStr, ↓o_len, ↓o_lenS, ↓o_min, ↓o_max, ↓o_extract, ↓o_convInt, ↓cd_true, ↓cd_false, ↓gate_tt, ↓gate_ff, ↓gate_tf, ↓gate_ft, ↓gate_undef, ↓o_bind, ↓stay_v, ↓pop_cons, ↓fin_nil, Option.isNone_none, Option.isNone_some, Bool.not_true, Bool.not_false, Nat.zero_add, decide_true, decide_false, if_true, if_false, Bool.false_eq_true, ↓reduceIte]
          exact hk _ w ⟨x, rfl, hx, h⟩
      · rintro σ w ⟨x, rfl, hx, h⟩
        try simp only [↓o_nil, ↓o_field, ↓o_add, ↓o_sub, ↓o_mul, ↓o_lss, ↓o_leq, ↓o_gtr, ↓o_geq, ↓o_not, ↓o_pick, ↓o_eqInt, ↓o_neInt, ↓o_eqBool, ↓o_neBool, ↓o_eqPtr, ↓o_nePtr, ↓o_eqPtr', ↓o_eqSl, ↓o_neSl, ↓o_eqStr, ↓o_neStr, ↓o_len, ↓o_lenS, ↓o_min, ↓o_max, ↓o_extract, ↓o_convInt, ↓cd_true, ↓cd_false, ↓gate_tt, ↓gate_ff, ↓gate_tf, ↓gate_ft, ↓gate_undef, ↓o_bind, ↓stay_v, ↓pop_cons, ↓fin_nil, Option.isNone_none, Option.isNone_some, Bool.not_true, Bool.not_false, Nat.zero_add, decide_true, decide_false, if_true, if_false, Bool.false_eq_true, ↓reduceIte]
        rw [i64_of (by omega) (by omega)]
        exact hag2 (g.length - (j + 1)) _ _ (by omega) ⟨j + 1, x, rfl, rfl, by omega, hx, h⟩
    · rw [i64_of (n := 1 + (g.length : Int)) (by omega) (by omega), i64_of (by omega) (by omega)]
      refine hag (2000 - (n + (1 + g.length))) _ _ (by omega) ⟨n + (1 + g.length), x, ?_, rfl, by omega, hx, h.drop⟩
      rw [show ((n + (1 + g.length) : Nat) : Int) = (n : Int) + (1 + (g.length : Int)) by omega]
  · exact k x w hx h0
end Go.Proofs.YtgkeplodfkmnlaaGreat

/-
  The reference's log: its checkpoints and groups, for their errors alone.
-/
set_option linter.all false
set_option maxRecDepth 100000
namespace Go.Proofs.YtgkeplodfkmnlaaGreat
open Go Hold
variable {E : World0} {w : World} {H R X : HP} {K : Value → World → Prop}
theorem rBlock_any {m r size head full : Nat} {F : List Bs} {V : List (Int × Bs)} (h : sat E w (rlI m r F V size head full R)) (wf : Wf F V) (hV : V.length ≤ 1000000) {n : Nat}
    (k : ∀ v (l : Bs) w', l.length ≤ 256 → sat E w' (osl 5 1 v l.length (l.map bv) * rlI m r F V size head full R) → K v w') : Calls prog 61 #[.pointer (some ⟨m, 0, none⟩), .int .i64 n] w (Ret K) := by
  by_cases hn : n < F.length
  · refine rBlock_spec h wf hV hn fun v l w hl _ h => k v l w (by omega) (by rw [hl]; exact h)
  · unfold rlI rcells at h
    refine c61 ?_
    unfold B61
    simp only [↓o_nil, ↓o_field, ↓o_add, ↓o_sub, ↓o_mul, ↓o_lss, ↓o_leq, ↓o_gtr, ↓o_geq, ↓o_not, ↓o_pick, ↓o_eqInt, ↓o_neInt, ↓o_eqBool, ↓o_neBool, ↓o_eqPtr, ↓o_nePtr, ↓o_eqPtr', ↓o_eqSl, ↓o_neSl, ↓o_eqStr, ↓o_neStr, ↓o_len, ↓o_lenS, ↓o_min, ↓o_max, ↓o_extract, ↓o_convInt, ↓cd_true, ↓cd_false, ↓gate_tt, ↓gate_ff, ↓gate_tf, ↓gate_ft, ↓gate_undef, ↓o_bind, ↓stay_v, ↓pop_cons, ↓fin_nil, Option.isNone_none, Option.isNone_some, Bool.not_true, Bool.not_false, Nat.zero_add, decide_true, decide_false, if_true, if_false, Bool.false_eq_true, ↓reduceIte]
    refine ld_at h ?_
    obtain ⟨lv, vs, wv, ws, e, hd⟩ := sat_rdsk.1 (h.rdks r)
    obtain ⟨a, c, rfl, hc, hl, ha⟩ := osl_shape hd.drop
    refine c89 ?_
    unfold B89
    have h1 : ¬ (n : Int) < 0 := by omega
    have h2 : (F.length : Int) ≤ (n : Int) := by omega
    simp only [h1, ↓o_nil, ↓o_field, ↓o_add, ↓o_sub, ↓o_mul, ↓o_lss, ↓o_leq, ↓o_gtr, ↓o_geq, ↓o_not, ↓o_pick, ↓o_eqInt, ↓o_neInt, ↓o_eqBool, ↓o_neBool, ↓o_eqPtr, ↓o_nePtr, ↓o_eqPtr', ↓o_eqSl, ↓o_neSl, ↓o_eqStr, ↓o_neStr, ↓o_len, ↓o_lenS, ↓o_min, ↓o_max, ↓o_extract, ↓o_convInt, ↓cd_true, ↓cd_false, ↓gate_tt, ↓gate_ff, ↓gate_tf, ↓gate_ft, ↓gate_undef, ↓o_bind, ↓stay_v, ↓pop_cons, ↓fin_nil, Option.isNone_none, Option.isNone_some, Bool.not_true, Bool.not_false, Nat.zero_add, decide_true, decide_false, if_true, if_false, Bool.false_eq_true, ↓reduceIte]
    refine ld_at hd ?_
    simp only [h2, ↓o_nil, ↓o_field, ↓o_add, ↓o_sub, ↓o_mul, ↓o_lss, ↓o_leq, ↓o_gtr, ↓o_geq, ↓o_not, ↓o_pick, ↓o_eqInt, ↓o_neInt, ↓o_eqBool, ↓o_neBool, ↓o_eqPtr, ↓o_nePtr, ↓o_eqPtr', ↓o_eqSl, ↓o_neSl, ↓o_eqStr, ↓o_neStr, ↓o_len, ↓o_lenS, ↓o_min, ↓o_max, ↓o_extract, ↓o_convInt, ↓cd_true, ↓cd_false, ↓gate_tt, ↓gate_ff, ↓gate_tf, ↓gate_ft, ↓gate_undef, ↓o_bind, ↓stay_v, ↓pop_cons, ↓fin_nil, Option.isNone_none, Option.isNone_some, Bool.not_true, Bool.not_false, Nat.zero_add, decide_true, decide_false, if_true, if_false, Bool.false_eq_true, ↓reduceIte]
    exact k (.slice none 0 0) [] w (by simp) (osl_nil h 5 1)
theorem Wf.rput {F : List Bs} {V : List (Int × Bs)} (h : Wf F V) {n : Nat} {l : Bs} (hn : n < F.length) (hl : l.length = 256) : Wf F (V ++ [((n : Int), l)]) :=
  ⟨h.pos, h.le, h.l, fun p hp => by
    rcases List.mem_append.1 hp with hp | hp
    · exact h.w p hp
    · simp at hp; subst hp
      exact ⟨by simp, by simp; omega, hl⟩⟩
theorem rWrite_weak {r : Nat} {F : List Bs} {V : List (Int × Bs)} (h : sat E w H) [s : RdkS H r F V R] (wf : Wf F V) (hV : V.length ≤ 900000) {n : Nat} {v : Value} {l : Bs} (hl : l.length ≤ 140737488355328) (hv : Rds R v l.length (l.map bv))
    (k : ∀ (x : Int) V' w', Wf F V' → V'.length ≤ V.length + 1 → sat E w' (rdsk r F V' * R) → K (.int .i64 x) w') : Calls prog 67 #[.pointer (some ⟨r, 0, none⟩), .int .i64 n, v] w (Ret K) := by
  by_cases hn : n < F.length
  · by_cases h256 : l.length = 256
    · refine rWrite_spec h hn h256 (by omega) hv fun w h => k 0 _ w (wf.rput hn h256) (by simp) h
    · obtain ⟨a, c, rfl, _, _, _⟩ := hv.shape (h.rdks r).drop
      refine rWrite_form h hn h256 (k 3 V w wf (by omega) (h.rdks r))
  · refine rWrite_range h (by omega) (k 2 V w wf (by omega) (h.rdks r))
theorem rHead_weak {m r size head full : Nat} {F : List Bs} {V : List (Int × Bs)} (h : sat E w (rlI m r F V size head full R)) (wf : Wf F V) (hV : V.length ≤ 900000)
    (k : ∀ V' w', Wf F V' → V'.length ≤ V.length + 1 → sat E w' (rlI m r F V' size head full R) → K (.tuple #[]) w') : Calls prog 69 #[.pointer (some ⟨m, 0, none⟩)] w (Ret K) := by
  refine c69 ?_
  unfold B69
  refine make_sl h rfl (by omega) (by omega) (by omega) (by omega) fun q w h => ?_
  have e3 : (256 : Int).toNat = 256 := rfl
  rw [e3] at h ⊢
  rw [zeros_map] at h
  rw [o_index (by omega) (by omega)]
  simp only [↓o_nil, ↓o_field, ↓o_add, ↓o_sub, ↓o_mul, ↓o_lss, ↓o_leq, ↓o_gtr, ↓o_geq, ↓o_not, ↓o_pick, ↓o_eqInt, ↓o_neInt, ↓o_eqBool, ↓o_neBool, ↓o_eqPtr, ↓o_nePtr, ↓o_eqPtr', ↓o_eqSl, ↓o_neSl, ↓o_eqStr, ↓o_neStr, ↓o_len, ↓o_lenS, ↓o_min, ↓o_max, ↓o_extract, ↓o_convInt, ↓cd_true, ↓cd_false, ↓gate_tt, ↓gate_ff, ↓gate_tf, ↓gate_ft, ↓gate_undef, ↓o_bind, ↓stay_v, ↓pop_cons, ↓fin_nil, Option.isNone_none, Option.isNone_some, Bool.not_true, Bool.not_false, Nat.zero_add, decide_true, decide_false, if_true, if_false, Bool.false_eq_true, ↓reduceIte, Int.toNat_zero, Nat.zero_mul, Nat.add_zero]
  refine store_sl h rfl (by simp [zeros]) fun w h => ?_
  rw [o_index (by omega) (by omega)]
  simp only [↓o_nil, ↓o_field, ↓o_add, ↓o_sub, ↓o_mul, ↓o_lss, ↓o_leq, ↓o_gtr, ↓o_geq, ↓o_not, ↓o_pick, ↓o_eqInt, ↓o_neInt, ↓o_eqBool, ↓o_neBool, ↓o_eqPtr, ↓o_nePtr, ↓o_eqPtr', ↓o_eqSl, ↓o_neSl, ↓o_eqStr, ↓o_neStr, ↓o_len, ↓o_lenS, ↓o_min, ↓o_max, ↓o_extract, ↓o_convInt, ↓cd_true, ↓cd_false, ↓gate_tt, ↓gate_ff, ↓gate_tf, ↓gate_ft, ↓gate_undef, ↓o_bind, ↓stay_v, ↓pop_cons, ↓fin_nil, Option.isNone_none, Option.isNone_some, Bool.not_true, Bool.not_false, Nat.zero_add, decide_true, decide_false, if_true, if_false, Bool.false_eq_true, ↓reduceIte, show (1 : Int).toNat * 1 = 1 from rfl]
  refine store_sl h rfl (by simp [zeros]) fun w h => ?_
  rw [show (Value.int .u8 72) = bv 72 from rfl, show (Value.int .u8 70) = bv 70 from rfl, ← List.map_set, ← List.map_set] at h
  refine lp_nat (fun x σ w => ∃ (i : Nat) (l : Bs), σ = [.int .i64 i] ∧ x = 8 - i ∧ i ≤ 8 ∧ l.length = 256 ∧ sat E w (pts q (.cells (l.map bv).toArray 5 (0, 0)) * rlI m r F V size head full R)) 8 ⟨0, _, rfl, rfl, by omega, by simp [zeros], h⟩ ?_
  clear h
  rintro x σ w again ⟨i, l, rfl, rfl, hi, hl, h⟩ hag
  try simp only [↓o_nil, ↓o_field, ↓o_add, ↓o_sub, ↓o_mul, ↓o_lss, ↓o_leq, ↓o_gtr, ↓o_geq, ↓o_not, ↓o_pick, ↓o_eqInt, ↓o_neInt, ↓o_eqBool, ↓o_neBool, ↓o_eqPtr, ↓o_nePtr, ↓o_eqPtr', ↓o_eqSl, ↓o_neSl, ↓o_eqStr, ↓o_neStr, ↓o_len, ↓o_lenS, ↓o_min, ↓o_max, ↓o_extract, ↓o_convInt, ↓cd_true, ↓cd_false, ↓gate_tt, ↓gate_ff, ↓gate_tf, ↓gate_ft, ↓gate_undef, ↓o_bind, ↓stay_v, ↓pop_cons, ↓fin_nil, Option.isNone_none, Option.isNone_some, Bool.not_true, Bool.not_false, Nat.zero_add, decide_true, decide_false, if_true, if_false, Bool.false_eq_true, ↓reduceIte]
  unfold rlI rcells at h
  refine cd_dec (fun hlt => ?_) (fun hge => ?_)
  · refine ld_at h ?_
    rw [i64_of (n := 2 + (i : Int)) (by omega) (by omega), i64_of (n := 8 * (i : Int)) (by omega) (by omega), i64_of (by omega) (by omega), show (56 : Int) - 8 * (i : Int) = ((56 - 8 * i : Nat) : Int) by omega, o_shr (by show 56 - 8 * i ≤ 64; omega)]
    try simp only [↓o_nil, ↓o_field, ↓o_add, ↓o_sub, ↓o_mul, ↓o_lss, ↓o_leq, ↓o_gtr, ↓o_geq, ↓o_not, ↓o_pick, ↓o_eqInt, ↓o_neInt, ↓o_eqBool, ↓o_neBool, ↓o_eqPtr, ↓o_nePtr, ↓o_eqPtr', ↓o_eqSl, ↓o_neSl, ↓o_eqStr, ↓o_neStr, ↓o_len, ↓o_lenS, ↓o_min, ↓o_max, ↓o_extract, ↓o_convInt, ↓cd_true, ↓cd_false, ↓gate_tt, ↓gate_ff, ↓gate_tf, ↓gate_ft, ↓gate_undef, ↓o_bind, ↓stay_v, ↓pop_cons, ↓fin_nil, Option.isNone_none, Option.isNone_some, Bool.not_true, Bool.not_false, Nat.zero_add, decide_true, decide_false, if_true, if_false, Bool.false_eq_true, ↓reduceIte]
    rw [bv_of, show (2 : Int) + (i : Int) = ((2 + i : Nat) : Int) by omega, o_index (by omega) (by omega)]
    simp only [Int.toNat_natCast, Nat.mul_one, Nat.zero_add]
    refine store_sl (b := q) h rfl (by rw [List.length_map]; omega) fun w h => ?_
    rw [← List.map_set] at h
    rw [i64_of (by omega) (by omega)]
    exact hag (8 - (i + 1)) _ _ (by omega) ⟨i + 1, _, rfl, rfl, by omega, by rw [List.length_set]; exact hl, h⟩
  · refine dr_sl h fun w h _ => ?_
    try simp only [↓o_nil, ↓o_field, ↓o_add, ↓o_sub, ↓o_mul, ↓o_lss, ↓o_leq, ↓o_gtr, ↓o_geq, ↓o_not, ↓o_pick, ↓o_eqInt, ↓o_neInt, ↓o_eqBool, ↓o_neBool, ↓o_eqPtr, ↓o_nePtr, ↓o_eqPtr', ↓o_eqSl, ↓o_neSl, ↓o_eqStr, ↓o_neStr, ↓o_len, ↓o_lenS, ↓o_min, ↓o_max, ↓o_extract, ↓o_convInt, ↓cd_true, ↓cd_false, ↓gate_tt, ↓gate_ff, ↓gate_tf, ↓gate_ft, ↓gate_undef, ↓o_bind, ↓stay_v, ↓pop_cons, ↓fin_nil, Option.isNone_none, Option.isNone_some, Bool.not_true, Bool.not_false, Nat.zero_add, decide_true, decide_false, if_true, if_false, Bool.false_eq_true, ↓reduceIte]
    refine ld_at h ?_
    rw [show (8 : Int) = ((8 : Nat) : Int) from rfl, o_shr (by decide)]
    try simp only [↓o_nil, ↓o_field, ↓o_add, ↓o_sub, ↓o_mul, ↓o_lss, ↓o_leq, ↓o_gtr, ↓o_geq, ↓o_not, ↓o_pick, ↓o_eqInt, ↓o_neInt, ↓o_eqBool, ↓o_neBool, ↓o_eqPtr, ↓o_nePtr, ↓o_eqPtr', ↓o_eqSl, ↓o_neSl, ↓o_eqStr, ↓o_neStr, ↓o_len, ↓o_lenS, ↓o_min, ↓o_max, ↓o_extract, ↓o_convInt, ↓cd_true, ↓cd_false, ↓gate_tt, ↓gate_ff, ↓gate_tf, ↓gate_ft, ↓gate_undef, ↓o_bind, ↓stay_v, ↓pop_cons, ↓fin_nil, Option.isNone_none, Option.isNone_some, Bool.not_true, Bool.not_false, Nat.zero_add, decide_true, decide_false, if_true, if_false, Bool.false_eq_true, ↓reduceIte]
    rw [bv_of]
    refine ld_at h ?_
    try simp only [↓o_nil, ↓o_field, ↓o_add, ↓o_sub, ↓o_mul, ↓o_lss, ↓o_leq, ↓o_gtr, ↓o_geq, ↓o_not, ↓o_pick, ↓o_eqInt, ↓o_neInt, ↓o_eqBool, ↓o_neBool, ↓o_eqPtr, ↓o_nePtr, ↓o_eqPtr', ↓o_eqSl, ↓o_neSl, ↓o_eqStr, ↓o_neStr, ↓o_len, ↓o_lenS, ↓o_min, ↓o_max, ↓o_extract, ↓o_convInt, ↓cd_true, ↓cd_false, ↓gate_tt, ↓gate_ff, ↓gate_tf, ↓gate_ft, ↓gate_undef, ↓o_bind, ↓stay_v, ↓pop_cons, ↓fin_nil, Option.isNone_none, Option.isNone_some, Bool.not_true, Bool.not_false, Nat.zero_add, decide_true, decide_false, if_true, if_false, Bool.false_eq_true, ↓reduceIte]
    rw [bv_of, o_index (by omega) (by omega)]
    try simp only [show (10 : Int).toNat * 1 = 10 from rfl, Nat.zero_add]
    refine store_sl (b := q) h rfl (by rw [List.length_map]; omega) fun w h => ?_
    rw [o_index (by omega) (by omega)]
    try simp only [show (11 : Int).toNat * 1 = 11 from rfl, Nat.zero_add]
    refine store_sl (b := q) h rfl (by rw [List.length_set, List.length_map]; omega) fun w h => ?_
    rw [← List.map_set, ← List.map_set] at h
    try simp only [↓o_nil, ↓o_field, ↓o_add, ↓o_sub, ↓o_mul, ↓o_lss, ↓o_leq, ↓o_gtr, ↓o_geq, ↓o_not, ↓o_pick, ↓o_eqInt, ↓o_neInt, ↓o_eqBool, ↓o_neBool, ↓o_eqPtr, ↓o_nePtr, ↓o_eqPtr', ↓o_eqSl, ↓o_neSl, ↓o_eqStr, ↓o_neStr, ↓o_len, ↓o_lenS, ↓o_min, ↓o_max, ↓o_extract, ↓o_convInt, ↓cd_true, ↓cd_false, ↓gate_tt, ↓gate_ff, ↓gate_tf, ↓gate_ft, ↓gate_undef, ↓o_bind, ↓stay_v, ↓pop_cons, ↓fin_nil, Option.isNone_none, Option.isNone_some, Bool.not_true, Bool.not_false, Nat.zero_add, decide_true, decide_false, if_true, if_false, Bool.false_eq_true, ↓reduceIte]
    refine ld_at h ?_
    have h := osl_of (n := 256) (sz := 1) h (by rw [List.length_map, List.length_set, List.length_set]; omega) (by omega)
    generalize hl2 : (l.set 10 _).set 11 _ = l2 at h
    have hl2l : l2.length = 256 := by rw [← hl2, List.length_set, List.length_set]; exact hl
    refine rWrite_weak h wf hV (l := l2) (n := 0) (by omega) (by rw [hl2l]; exact Rds.own) fun x V' w wf' hV' h => ?_
    refine k V' w wf' hV' ?_
    unfold rlI rcells
    exact (h.perm (show _ = osl 5 1 (.slice (some ⟨q, 0, none⟩) 256 256) 256 (l2.map bv) * (pts m (.cells [Value.pointer (some ⟨r, 0, none⟩), .int .i64 size, .int .i64 head, .int .i64 full].toArray 108 (0, 0)) * (rdsk r F V' * R)) by ac_rfl)).drop
theorem rTouched_weak {m r size head full : Nat} {F : List Bs} {V : List (Int × Bs)} (h : sat E w (rlI m r F V size head full R)) (i : RInv F V size full) (hV : V.length ≤ 1000000)
    (k : ∀ (u : Value) (g : List Int) w', g.length ≤ 1024 → (∀ x ∈ g, 0 ≤ x ∧ x ≤ 1024) → sat E w' (osl 3 1 u g.length (g.map iv) * rlI m r F V size head full R) → K u w') :
    Calls prog 66 #[.pointer (some ⟨m, 0, none⟩)] w (Ret K) := by
  have h1 := i.sz; have h2 := i.le; have h3 := i.fu
  refine c66 ?_
  unfold B66
  refine lp_nat (fun q σ w => ∃ (p : Nat) (u : Value) (g : List Int), σ = [u, .int .i64 p] ∧ q = 1024 - p ∧ p ≤ 1024 ∧ g.length ≤ p ∧ (∀ x ∈ g, 0 ≤ x ∧ x ≤ 1024) ∧ sat E w (osl 3 1 u g.length (g.map iv) * rlI m r F V size head full R)) 1024 ⟨0, _, [], rfl, rfl, by omega, by simp, by simp, osl_nil h 3 1⟩ ?_
  clear h
  rintro q σ w again ⟨p, u, g, rfl, rfl, hp, hgl, hga, h⟩ hag
  try simp only [↓o_nil, ↓o_field, ↓o_add, ↓o_sub, ↓o_mul, ↓o_lss, ↓o_leq, ↓o_gtr, ↓o_geq, ↓o_not, ↓o_pick, ↓o_eqInt, ↓o_neInt, ↓o_eqBool, ↓o_neBool, ↓o_eqPtr, ↓o_nePtr, ↓o_eqPtr', ↓o_eqSl, ↓o_neSl, ↓o_eqStr, ↓o_neStr, ↓o_len, ↓o_lenS, ↓o_min, ↓o_max, ↓o_extract, ↓o_convInt, ↓cd_true, ↓cd_false, ↓gate_tt, ↓gate_ff, ↓gate_tf, ↓gate_ft, ↓gate_undef, ↓o_bind, ↓stay_v, ↓pop_cons, ↓fin_nil, Option.isNone_none, Option.isNone_some, Bool.not_true, Bool.not_false, Nat.zero_add, decide_true, decide_false, if_true, if_false, Bool.false_eq_true, ↓reduceIte]
  refine rPages_spec (rl_in h) i fun w h => ?_
  have h := rl_out h
  try simp only [↓o_nil, ↓o_field, ↓o_add, ↓o_sub, ↓o_mul, ↓o_lss, ↓o_leq, ↓o_gtr, ↓o_geq, ↓o_not, ↓o_pick, ↓o_eqInt, ↓o_neInt, ↓o_eqBool, ↓o_neBool, ↓o_eqPtr, ↓o_nePtr, ↓o_eqPtr', ↓o_eqSl, ↓o_neSl, ↓o_eqStr, ↓o_neStr, ↓o_len, ↓o_lenS, ↓o_min, ↓o_max, ↓o_extract, ↓o_convInt, ↓cd_true, ↓cd_false, ↓gate_tt, ↓gate_ff, ↓gate_tf, ↓gate_ft, ↓gate_undef, ↓o_bind, ↓stay_v, ↓pop_cons, ↓fin_nil, Option.isNone_none, Option.isNone_some, Bool.not_true, Bool.not_false, Nat.zero_add, decide_true, decide_false, if_true, if_false, Bool.false_eq_true, ↓reduceIte]
  refine cd_dec (fun hlt => ?_) (fun hge => ?_)
  · refine jn_cut (fun σ w => ∃ (u : Value) (g : List Int), σ = [u] ∧ g.length ≤ p + 1 ∧ (∀ x ∈ g, 0 ≤ x ∧ x ≤ 1024) ∧ sat E w (osl 3 1 u g.length (g.map iv) * rlI m r F V size head full R)) ?_ ?_
    · intro kk hk
      unfold rlI rcells at h
      refine dr_sl h fun w h _ => ?_
      try simp only [↓o_nil, ↓o_field, ↓o_add, ↓o_sub, ↓o_mul, ↓o_lss, ↓o_leq, ↓o_gtr, ↓o_geq, ↓o_not, ↓o_pick, ↓o_eqInt, ↓o_neInt, ↓o_eqBool, ↓o_neBool, ↓o_eqPtr, ↓o_nePtr, ↓o_eqPtr', ↓o_eqSl, ↓o_neSl, ↓o_eqStr, ↓o_neStr, ↓o_len, ↓o_lenS, ↓o_min, ↓o_max, ↓o_extract, ↓o_convInt, ↓cd_true, ↓cd_false, ↓gate_tt, ↓gate_ff, ↓gate_tf, ↓gate_ft, ↓gate_undef, ↓o_bind, ↓stay_v, ↓pop_cons, ↓fin_nil, Option.isNone_none, Option.isNone_some, Bool.not_true, Bool.not_false, Nat.zero_add, decide_true, decide_false, if_true, if_false, Bool.false_eq_true, ↓reduceIte]
      refine ld_at h ?_
      have h : sat E w (rlI m r F V size head full (osl 3 1 u g.length (g.map iv) * R)) := by
        unfold rlI rcells
        exact h.perm (by ac_rfl)
      refine rPlace_weak h i hV hp fun x w hx h => ?_
      unfold rlI rcells at h
      refine st_at h ?_
      have h : sat E w (osl 3 1 u g.length (g.map iv) * rlI m r F V size head full R) := by
        unfold rlI rcells
        exact h.perm (by ac_rfl)
      try simp only [↓o_nil, ↓o_field, ↓o_add, ↓o_sub, ↓o_mul, ↓o_lss, ↓o_leq, ↓o_gtr, ↓o_geq, ↓o_not, ↓o_pick, ↓o_eqInt, ↓o_neInt, ↓o_eqBool, ↓o_neBool, ↓o_eqPtr, ↓o_nePtr, ↓o_eqPtr', ↓o_eqSl, ↓o_neSl, ↓o_eqStr, ↓o_neStr, ↓o_len, ↓o_lenS, ↓o_min, ↓o_max, ↓o_extract, ↓o_convInt, ↓cd_true, ↓cd_false, ↓gate_tt, ↓gate_ff, ↓gate_tf, ↓gate_ft, ↓gate_undef, ↓o_bind, ↓stay_v, ↓pop_cons, ↓fin_nil, Option.isNone_none, Option.isNone_some, Bool.not_true, Bool.not_false, Nat.zero_add, decide_true, decide_false, if_true, if_false, Bool.false_eq_true, ↓reduceIte]
      by_cases e : (x : Int) ≤ (size : Int)
      · simp only [e, ↓o_nil, ↓o_field, ↓o_add, ↓o_sub, ↓o_mul, ↓o_lss, ↓o_leq, ↓o_gtr, ↓o_geq, ↓o_not, ↓o_pick, ↓o_eqInt, ↓o_neInt, ↓o_eqBool, ↓o_neBool, ↓o_eqPtr, ↓o_nePtr, ↓o_eqPtr', ↓o_eqSl, ↓o_neSl, ↓o_eqStr, ↓o_neStr, ↓o_len, ↓o_lenS, ↓o_min, ↓o_max, ↓o_extract, ↓o_convInt, ↓cd_true, ↓cd_false, ↓gate_tt, ↓gate_ff, ↓gate_tf, ↓gate_ft, ↓gate_undef, ↓o_bind, ↓stay_v, ↓pop_cons, ↓fin_nil, Option.isNone_none, Option.isNone_some, Bool.not_true, Bool.not_false, Nat.zero_add, decide_true, decide_false, if_true, if_false, Bool.false_eq_true, ↓reduceIte]
        have h := h.owns u
        refine push_sl (v := u) h rfl rfl (by omega) (by omega) fun v2 w h => ?_
        refine hk _ w ⟨v2, g ++ [(p : Int)], rfl, by simp; omega, fun x hx => ?_, ?_⟩
        · rcases List.mem_append.1 hx with hx | hx
          · exact hga x hx
          · simp at hx; omega
        · rw [List.length_append, List.map_append]; exact h
      · simp only [e, ↓o_nil, ↓o_field, ↓o_add, ↓o_sub, ↓o_mul, ↓o_lss, ↓o_leq, ↓o_gtr, ↓o_geq, ↓o_not, ↓o_pick, ↓o_eqInt, ↓o_neInt, ↓o_eqBool, ↓o_neBool, ↓o_eqPtr, ↓o_nePtr, ↓o_eqPtr', ↓o_eqSl, ↓o_neSl, ↓o_eqStr, ↓o_neStr, ↓o_len, ↓o_lenS, ↓o_min, ↓o_max, ↓o_extract, ↓o_convInt, ↓cd_true, ↓cd_false, ↓gate_tt, ↓gate_ff, ↓gate_tf, ↓gate_ft, ↓gate_undef, ↓o_bind, ↓stay_v, ↓pop_cons, ↓fin_nil, Option.isNone_none, Option.isNone_some, Bool.not_true, Bool.not_false, Nat.zero_add, decide_true, decide_false, if_true, if_false, Bool.false_eq_true, ↓reduceIte]
        exact hk _ w ⟨u, g, rfl, by omega, hga, h⟩
    · rintro σ w ⟨u, g, rfl, hgl, hga, h⟩
      try simp only [↓o_nil, ↓o_field, ↓o_add, ↓o_sub, ↓o_mul, ↓o_lss, ↓o_leq, ↓o_gtr, ↓o_geq, ↓o_not, ↓o_pick, ↓o_eqInt, ↓o_neInt, ↓o_eqBool, ↓o_neBool, ↓o_eqPtr, ↓o_nePtr, ↓o_eqPtr', ↓o_eqSl, ↓o_neSl, ↓o_eqStr, ↓o_neStr, ↓o_len, ↓o_lenS, ↓o_min, ↓o_max, ↓o_extract, ↓o_convInt, ↓cd_true, ↓cd_false, ↓gate_tt, ↓gate_ff, ↓gate_tf, ↓gate_ft, ↓gate_undef, ↓o_bind, ↓stay_v, ↓pop_cons, ↓fin_nil, Option.isNone_none, Option.isNone_some, Bool.not_true, Bool.not_false, Nat.zero_add, decide_true, decide_false, if_true, if_false, Bool.false_eq_true, ↓reduceIte]
      rw [i64_of (by omega) (by omega)]
      exact hag (1024 - (p + 1)) _ _ (by omega) ⟨p + 1, u, g, rfl, rfl, by omega, hgl, hga, h⟩
  · exact k u g w (by omega) hga h
theorem rCheck_weak {m r size head full : Nat} {F : List Bs} {V : List (Int × Bs)} (h : sat E w (rlI m r F V size head full R)) (i : RInv F V size full) (hV : V.length ≤ 800000)
    (k : ∀ V' w', RInv F V' size 0 → V'.length ≤ V.length + 1100 → sat E w' (rlI m r F V' size head 0 R) → K (.int .i64 0) w') : Calls prog 31 #[.pointer (some ⟨m, 0, none⟩)] w (Ret K) := by
  have h1 := i.sz; have h2 := i.le; have h3 := i.fu
  refine c31 ?_
  unfold B31
  simp only [↓o_nil, ↓o_field, ↓o_add, ↓o_sub, ↓o_mul, ↓o_lss, ↓o_leq, ↓o_gtr, ↓o_geq, ↓o_not, ↓o_pick, ↓o_eqInt, ↓o_neInt, ↓o_eqBool, ↓o_neBool, ↓o_eqPtr, ↓o_nePtr, ↓o_eqPtr', ↓o_eqSl, ↓o_neSl, ↓o_eqStr, ↓o_neStr, ↓o_len, ↓o_lenS, ↓o_min, ↓o_max, ↓o_extract, ↓o_convInt, ↓cd_true, ↓cd_false, ↓gate_tt, ↓gate_ff, ↓gate_tf, ↓gate_ft, ↓gate_undef, ↓o_bind, ↓stay_v, ↓pop_cons, ↓fin_nil, Option.isNone_none, Option.isNone_some, Bool.not_true, Bool.not_false, Nat.zero_add, decide_true, decide_false, if_true, if_false, Bool.false_eq_true, ↓reduceIte]
  have h0 := h
  unfold rlI rcells at h
  refine ld_at h ?_
  try simp only [↓o_nil, ↓o_field, ↓o_add, ↓o_sub, ↓o_mul, ↓o_lss, ↓o_leq, ↓o_gtr, ↓o_geq, ↓o_not, ↓o_pick, ↓o_eqInt, ↓o_neInt, ↓o_eqBool, ↓o_neBool, ↓o_eqPtr, ↓o_nePtr, ↓o_eqPtr', ↓o_eqSl, ↓o_neSl, ↓o_eqStr, ↓o_neStr, ↓o_len, ↓o_lenS, ↓o_min, ↓o_max, ↓o_extract, ↓o_convInt, ↓cd_true, ↓cd_false, ↓gate_tt, ↓gate_ff, ↓gate_tf, ↓gate_ft, ↓gate_undef, ↓o_bind, ↓stay_v, ↓pop_cons, ↓fin_nil, Option.isNone_none, Option.isNone_some, Bool.not_true, Bool.not_false, Nat.zero_add, decide_true, decide_false, if_true, if_false, Bool.false_eq_true, ↓reduceIte]
  by_cases hf : full = 0
  · subst hf
    simp only [Int.natCast_zero, ↓o_nil, ↓o_field, ↓o_add, ↓o_sub, ↓o_mul, ↓o_lss, ↓o_leq, ↓o_gtr, ↓o_geq, ↓o_not, ↓o_pick, ↓o_eqInt, ↓o_neInt, ↓o_eqBool, ↓o_neBool, ↓o_eqPtr, ↓o_nePtr, ↓o_eqPtr', ↓o_eqSl, ↓o_neSl, ↓o_eqStr, ↓o_neStr, ↓o_len, ↓o_lenS, ↓o_min, ↓o_max, ↓o_extract, ↓o_convInt, ↓cd_true, ↓cd_false, ↓gate_tt, ↓gate_ff, ↓gate_tf, ↓gate_ft, ↓gate_undef, ↓o_bind, ↓stay_v, ↓pop_cons, ↓fin_nil, Option.isNone_none, Option.isNone_some, Bool.not_true, Bool.not_false, Nat.zero_add, decide_true, decide_false, if_true, if_false, Bool.false_eq_true, ↓reduceIte]
    exact k V w i (by omega) h0
  have hf' : ¬ (full : Int) = 0 := by omega
  simp only [hf', ↓o_nil, ↓o_field, ↓o_add, ↓o_sub, ↓o_mul, ↓o_lss, ↓o_leq, ↓o_gtr, ↓o_geq, ↓o_not, ↓o_pick, ↓o_eqInt, ↓o_neInt, ↓o_eqBool, ↓o_neBool, ↓o_eqPtr, ↓o_nePtr, ↓o_eqPtr', ↓o_eqSl, ↓o_neSl, ↓o_eqStr, ↓o_neStr, ↓o_len, ↓o_lenS, ↓o_min, ↓o_max, ↓o_extract, ↓o_convInt, ↓cd_true, ↓cd_false, ↓gate_tt, ↓gate_ff, ↓gate_tf, ↓gate_ft, ↓gate_undef, ↓o_bind, ↓stay_v, ↓pop_cons, ↓fin_nil, Option.isNone_none, Option.isNone_some, Bool.not_true, Bool.not_false, Nat.zero_add, decide_true, decide_false, if_true, if_false, Bool.false_eq_true, ↓reduceIte]
  clear h
  refine rTouched_weak h0 i (by omega) fun u g w hgl hga h => ?_
  clear h0
  obtain ⟨au, cu, rfl, _, _, _⟩ := osl_shape h
  refine lp_nat (fun q σ w => ∃ (j : Nat) (V' : List (Int × Bs)), σ = [.int .i64 j] ∧ q = g.length - j ∧ j ≤ g.length ∧ Wf F V' ∧ V'.length ≤ V.length + j ∧ sat E w (osl 3 1 (.slice au g.length cu) g.length (g.map iv) * rlI m r F V' size head full R)) g.length ⟨0, V, rfl, rfl, by omega, i.wf, by omega, h⟩ ?_
  clear h
  rintro q σ w again ⟨j, V', rfl, rfl, hj, wf', hV', h⟩ hag
  try simp only [↓o_nil, ↓o_field, ↓o_add, ↓o_sub, ↓o_mul, ↓o_lss, ↓o_leq, ↓o_gtr, ↓o_geq, ↓o_not, ↓o_pick, ↓o_eqInt, ↓o_neInt, ↓o_eqBool, ↓o_neBool, ↓o_eqPtr, ↓o_nePtr, ↓o_eqPtr', ↓o_eqSl, ↓o_neSl, ↓o_eqStr, ↓o_neStr, ↓o_len, ↓o_lenS, ↓o_min, ↓o_max, ↓o_extract, ↓o_convInt, ↓cd_true, ↓cd_false, ↓gate_tt, ↓gate_ff, ↓gate_tf, ↓gate_ft, ↓gate_undef, ↓o_bind, ↓stay_v, ↓pop_cons, ↓fin_nil, Option.isNone_none, Option.isNone_some, Bool.not_true, Bool.not_false, Nat.zero_add, decide_true, decide_false, if_true, if_false, Bool.false_eq_true, ↓reduceIte]
  have i' : RInv F V' size full := ⟨wf', i.s2, i.sz, i.fu⟩
  refine cd_dec (fun hlt => ?_) (fun hge => ?_)
  · have hlt : j < g.length := by omega
    have hx := hga _ (List.getElem_mem hlt)
    have hrd : Rds (osl 3 1 (.slice au g.length cu) g.length (g.map iv) * R) (.slice au g.length cu) g.length (g.map iv) := Rds.osl.left
    have hgm : (g.map iv)[j]? = some (iv g[j]) := by rw [List.getElem?_map, List.getElem?_eq_getElem hlt]; rfl
    have hcell : ∀ {w : World} {Y : HP}, sat E w (osl 3 1 (.slice au g.length cu) g.length (g.map iv) * Y) → ∀ b1 o1, au = some ⟨b1, o1, none⟩ → w.cell? ⟨b1, o1 + j, none⟩ = some (.int .i64 ((g[j]).toNat : Int)) := fun {w Y} h b1 o1 e => by
      subst e
      have := ((Rds.osl).win h.drop').cell b1 o1 rfl j _ hgm
      rw [Int.toNat_of_nonneg hx.1]; exact this
    obtain ⟨b1, o1, e1, _⟩ := win_cell ((Rds.osl).win h.drop') (j := j) (by simpa using hlt)
    subst e1
    refine dr_sl h fun w h _ => ?_
    try simp only [↓o_nil, ↓o_field, ↓o_add, ↓o_sub, ↓o_mul, ↓o_lss, ↓o_leq, ↓o_gtr, ↓o_geq, ↓o_not, ↓o_pick, ↓o_eqInt, ↓o_neInt, ↓o_eqBool, ↓o_neBool, ↓o_eqPtr, ↓o_nePtr, ↓o_eqPtr', ↓o_eqSl, ↓o_neSl, ↓o_eqStr, ↓o_neStr, ↓o_len, ↓o_lenS, ↓o_min, ↓o_max, ↓o_extract, ↓o_convInt, ↓cd_true, ↓cd_false, ↓gate_tt, ↓gate_ff, ↓gate_tf, ↓gate_ft, ↓gate_undef, ↓o_bind, ↓stay_v, ↓pop_cons, ↓fin_nil, Option.isNone_none, Option.isNone_some, Bool.not_true, Bool.not_false, Nat.zero_add, decide_true, decide_false, if_true, if_false, Bool.false_eq_true, ↓reduceIte]
    rw [o_index (by omega) (by omega), o_index (by omega) (by omega)]
    simp only [Int.toNat_natCast, Nat.mul_one]
    have hc := hcell h b1 o1 rfl
    unfold rlI rcells at h
    refine ld_at h ?_
    refine ld_at h ?_
    try simp only [↓o_nil, ↓o_field, ↓o_add, ↓o_sub, ↓o_mul, ↓o_lss, ↓o_leq, ↓o_gtr, ↓o_geq, ↓o_not, ↓o_pick, ↓o_eqInt, ↓o_neInt, ↓o_eqBool, ↓o_neBool, ↓o_eqPtr, ↓o_nePtr, ↓o_eqPtr', ↓o_eqSl, ↓o_neSl, ↓o_eqStr, ↓o_neStr, ↓o_len, ↓o_lenS, ↓o_min, ↓o_max, ↓o_extract, ↓o_convInt, ↓cd_true, ↓cd_false, ↓gate_tt, ↓gate_ff, ↓gate_tf, ↓gate_ft, ↓gate_undef, ↓o_bind, ↓stay_v, ↓pop_cons, ↓fin_nil, Option.isNone_none, Option.isNone_some, Bool.not_true, Bool.not_false, Nat.zero_add, decide_true, decide_false, if_true, if_false, Bool.false_eq_true, ↓reduceIte]
    refine ld_cell hc ?_
    rw [i64_of (n := (size : Int) + 1) (by omega) (by omega)]
    try simp only [↓o_nil, ↓o_field, ↓o_add, ↓o_sub, ↓o_mul, ↓o_lss, ↓o_leq, ↓o_gtr, ↓o_geq, ↓o_not, ↓o_pick, ↓o_eqInt, ↓o_neInt, ↓o_eqBool, ↓o_neBool, ↓o_eqPtr, ↓o_nePtr, ↓o_eqPtr', ↓o_eqSl, ↓o_neSl, ↓o_eqStr, ↓o_neStr, ↓o_len, ↓o_lenS, ↓o_min, ↓o_max, ↓o_extract, ↓o_convInt, ↓cd_true, ↓cd_false, ↓gate_tt, ↓gate_ff, ↓gate_tf, ↓gate_ft, ↓gate_undef, ↓o_bind, ↓stay_v, ↓pop_cons, ↓fin_nil, Option.isNone_none, Option.isNone_some, Bool.not_true, Bool.not_false, Nat.zero_add, decide_true, decide_false, if_true, if_false, Bool.false_eq_true, ↓reduceIte]
    rw [i64_of (by omega) (by omega), show (size : Int) + 1 + ((g[j]).toNat : Int) = ((size + 1 + (g[j]).toNat : Nat) : Int) by omega]
    refine ld_cell hc ?_
    have h : sat E w (rlI m r F V' size head full (osl 3 1 (.slice (some ⟨b1, o1, none⟩) g.length cu) g.length (g.map iv) * R)) := by
      unfold rlI rcells
      exact h.perm (by ac_rfl)
    refine rPlace_weak h i' (by omega) (by omega) fun x w hx2 h => ?_
    have h := rl_out h
    have hc := hcell h b1 o1 rfl
    unfold rlI rcells at h
    refine st_cell hc ?_
    refine st_at h ?_
    refine st_at h ?_
    have h : sat E w (rlI m r F V' size head full (osl 3 1 (.slice (some ⟨b1, o1, none⟩) g.length cu) g.length (g.map iv) * R)) := by
      unfold rlI rcells
      exact h.perm (by ac_rfl)
    refine rBlock_any h wf' (by omega) fun v l w hl h => ?_
    have h : sat E w (osl 3 1 (.slice (some ⟨b1, o1, none⟩) g.length cu) g.length (g.map iv) * (osl 5 1 v l.length (l.map bv) * rlI m r F V' size head full R)) := by
      unfold rlI at h ⊢
      exact h.perm (by ac_rfl)
    have hc := hcell h b1 o1 rfl
    unfold rlI rcells at h
    refine st_cell hc ?_
    refine st_cell hc ?_
    refine st_at h ?_
    refine st_at h ?_
    refine rWrite_weak h wf' (by omega) (l := l) (by omega) Rds.own fun y V2 w wf2 hV2 h => ?_
    have h : sat E w (osl 3 1 (.slice (some ⟨b1, o1, none⟩) g.length cu) g.length (g.map iv) * (osl 5 1 v l.length (l.map bv) * rlI m r F V2 size head full R)) := by
      unfold rlI rcells
      exact h.perm (by ac_rfl)
    have hc := hcell h b1 o1 rfl
    have h1 := h
    unfold rlI rcells at h1
    refine st_cell hc ?_
    refine st_cell hc ?_
    refine st_at h1 ?_
    try simp only [↓o_nil, ↓o_field, ↓o_add, ↓o_sub, ↓o_mul, ↓o_lss, ↓o_leq, ↓o_gtr, ↓o_geq, ↓o_not, ↓o_pick, ↓o_eqInt, ↓o_neInt, ↓o_eqBool, ↓o_neBool, ↓o_eqPtr, ↓o_nePtr, ↓o_eqPtr', ↓o_eqSl, ↓o_neSl, ↓o_eqStr, ↓o_neStr, ↓o_len, ↓o_lenS, ↓o_min, ↓o_max, ↓o_extract, ↓o_convInt, ↓cd_true, ↓cd_false, ↓gate_tt, ↓gate_ff, ↓gate_tf, ↓gate_ft, ↓gate_undef, ↓o_bind, ↓stay_v, ↓pop_cons, ↓fin_nil, Option.isNone_none, Option.isNone_some, Bool.not_true, Bool.not_false, Nat.zero_add, decide_true, decide_false, if_true, if_false, Bool.false_eq_true, ↓reduceIte]
    rw [i64_of (by omega) (by omega)]
    exact hag (g.length - (j + 1)) _ _ (by omega) ⟨j + 1, V2, rfl, rfl, by omega, wf2, by omega, (h.perm (star_left_comm _ _ _)).drop⟩
  · have h := h.drop
    unfold rlI rcells at h
    try simp only [↓o_nil, ↓o_field, ↓o_add, ↓o_sub, ↓o_mul, ↓o_lss, ↓o_leq, ↓o_gtr, ↓o_geq, ↓o_not, ↓o_pick, ↓o_eqInt, ↓o_neInt, ↓o_eqBool, ↓o_neBool, ↓o_eqPtr, ↓o_nePtr, ↓o_eqPtr', ↓o_eqSl, ↓o_neSl, ↓o_eqStr, ↓o_neStr, ↓o_len, ↓o_lenS, ↓o_min, ↓o_max, ↓o_extract, ↓o_convInt, ↓cd_true, ↓cd_false, ↓gate_tt, ↓gate_ff, ↓gate_tf, ↓gate_ft, ↓gate_undef, ↓o_bind, ↓stay_v, ↓pop_cons, ↓fin_nil, Option.isNone_none, Option.isNone_some, Bool.not_true, Bool.not_false, Nat.zero_add, decide_true, decide_false, if_true, if_false, Bool.false_eq_true, ↓reduceIte]
    refine store_at h rfl (by simp) fun w h => ?_
    refine rHead_weak (E := E) (m := m) (r := r) (size := size) (head := head) (full := 0) (F := F) (V := V') (R := R) ?_ wf' (by omega) fun V2 w wf2 hV2 h => ?_
    · unfold rlI rcells
      exact h
    · exact k V2 w ⟨wf2, i.s2, i.sz, Nat.zero_le _⟩ (by omega) h
end Go.Proofs.YtgkeplodfkmnlaaGreat

/-
  The reference's groups: their errors are the log's.
-/
set_option linter.all false
set_option maxRecDepth 100000
namespace Go.Proofs.YtgkeplodfkmnlaaGreat
open Go Hold
variable {E : World0} {w : World} {H R X : HP} {K : Value → World → Prop}
theorem pg_cells (h : sat E w X) {b o n c : Nat} {qs : List (Int × Value)} (hr : Rds X (.slice (some ⟨b, o, none⟩) n c) n (wcells qs)) {j : Nat} (hj : j < qs.length) :
    w.cell? ⟨b, o + j * 2, none⟩ = some (.int .i64 (qs[j]).1) ∧ w.cell? ⟨b, o + (j * 2 + 1), none⟩ = some (qs[j]).2 := by
  obtain ⟨g1, g2⟩ := wcells_get qs j hj
  exact ⟨(hr.win h).cell b o rfl _ _ g1, (hr.win h).cell b o rfl _ _ g2⟩
theorem RdP.el {R : HP} {v : Value} {qs : List (Int × Value)} {ps : List (Int × Bs)} (h : RdP R v qs ps) {i : Nat} (hi : i < ps.length) (hq : i < qs.length) : (qs[i]).1 = (ps[i]).1 ∧ Rds R (qs[i]).2 (ps[i]).2.length ((ps[i]).2.map bv) := by
  obtain ⟨q, e, h1, h2⟩ := h.at_ hi
  have e2 : qs[i] = q := by rw [List.getElem?_eq_getElem hq, Option.some.injEq] at e; exact e
  rw [e2]
  exact ⟨h1, h2⟩
theorem count_split (qs : List (Int × Value)) (n : Int) : qs.countP (fun q => decide (0 ≤ q.1 ∧ q.1 < n + 1)) = qs.countP (fun q => decide (0 ≤ q.1 ∧ q.1 < n)) + qs.countP (fun q => decide (0 ≤ q.1 ∧ q.1 = n)) := by
  induction qs with
  | nil => rfl
  | cons q qs ih =>
    simp only [List.countP_cons, ih, decide_eq_true_eq]
    by_cases h1 : 0 ≤ q.1 ∧ q.1 < n
    · rw [if_pos h1, if_pos (by omega), if_neg (by omega)]; omega
    · by_cases h2 : 0 ≤ q.1 ∧ q.1 = n
      · rw [if_neg h1, if_pos h2, if_pos (by omega)]; omega
      · rw [if_neg h1, if_neg h2, if_neg (by omega)]; rfl
theorem rNeed_spec {n : Int} (k : K (.int .i64 (if n < 1 ∨ 100 < n then 0 else n + 1)) w) : Calls prog 71 #[.int .i64 n] w (Ret K) := by
  refine c71 ?_
  unfold B71
  rw [o_lss]
  by_cases h1 : n < 1
  · simp only [h1, true_or, if_true] at k
    simp only [h1, ↓o_nil, ↓o_field, ↓o_add, ↓o_sub, ↓o_mul, ↓o_lss, ↓o_leq, ↓o_gtr, ↓o_geq, ↓o_not, ↓o_pick, ↓o_eqInt, ↓o_neInt, ↓o_eqBool, ↓o_neBool, ↓o_eqPtr, ↓o_nePtr, ↓o_eqPtr', ↓o_eqSl, ↓o_neSl, ↓o_eqStr, ↓o_neStr, ↓o_len, ↓o_lenS, ↓o_min, ↓o_max, ↓o_extract, ↓o_convInt, ↓cd_true, ↓cd_false, ↓gate_tt, ↓gate_ff, ↓gate_tf, ↓gate_ft, ↓gate_undef, ↓o_bind, ↓stay_v, ↓pop_cons, ↓fin_nil, Option.isNone_none, Option.isNone_some, Bool.not_true, Bool.not_false, Nat.zero_add, decide_true, decide_false, if_true, if_false, Bool.false_eq_true, ↓reduceIte]
    exact k
  · by_cases h2 : 100 < n
    · simp only [h2, or_true, if_true] at k
      simp only [h1, h2, ↓o_nil, ↓o_field, ↓o_add, ↓o_sub, ↓o_mul, ↓o_lss, ↓o_leq, ↓o_gtr, ↓o_geq, ↓o_not, ↓o_pick, ↓o_eqInt, ↓o_neInt, ↓o_eqBool, ↓o_neBool, ↓o_eqPtr, ↓o_nePtr, ↓o_eqPtr', ↓o_eqSl, ↓o_neSl, ↓o_eqStr, ↓o_neStr, ↓o_len, ↓o_lenS, ↓o_min, ↓o_max, ↓o_extract, ↓o_convInt, ↓cd_true, ↓cd_false, ↓gate_tt, ↓gate_ff, ↓gate_tf, ↓gate_ft, ↓gate_undef, ↓o_bind, ↓stay_v, ↓pop_cons, ↓fin_nil, Option.isNone_none, Option.isNone_some, Bool.not_true, Bool.not_false, Nat.zero_add, decide_true, decide_false, if_true, if_false, Bool.false_eq_true, ↓reduceIte]
      exact k
    · simp only [h1, h2, or_self, if_false] at k
      simp only [h1, h2, ↓o_nil, ↓o_field, ↓o_add, ↓o_sub, ↓o_mul, ↓o_lss, ↓o_leq, ↓o_gtr, ↓o_geq, ↓o_not, ↓o_pick, ↓o_eqInt, ↓o_neInt, ↓o_eqBool, ↓o_neBool, ↓o_eqPtr, ↓o_nePtr, ↓o_eqPtr', ↓o_eqSl, ↓o_neSl, ↓o_eqStr, ↓o_neStr, ↓o_len, ↓o_lenS, ↓o_min, ↓o_max, ↓o_extract, ↓o_convInt, ↓cd_true, ↓cd_false, ↓gate_tt, ↓gate_ff, ↓gate_tf, ↓gate_ft, ↓gate_undef, ↓o_bind, ↓stay_v, ↓pop_cons, ↓fin_nil, Option.isNone_none, Option.isNone_some, Bool.not_true, Bool.not_false, Nat.zero_add, decide_true, decide_false, if_true, if_false, Bool.false_eq_true, ↓reduceIte]
      rw [i64_of (by omega) (by omega)]
      exact k
theorem rCommit_weak {m r size head full : Nat} {F : List Bs} {V : List (Int × Bs)} (h : sat E w (rlI m r F V size head full R)) (i : RInv F V size full) {v : Value} {qs : List (Int × Value)} {ps : List (Int × Bs)} (hv : RdP R v qs ps) (hV : V.length ≤ 800000) (hh : head < 2 ^ 40)
    {S : Lg} (e1 : S.pages = F.length - size - 1) (e2 : S.size = size) (e3 : S.used = full)
    (k : ∀ V' head' full' w', RInv F V' size full' → V'.length ≤ V.length + 110 → head' ≤ head + 1 → full' = (commitS S ps).used → sat E w' (rlI m r F V' size head' full' R) → K (.int .i64 (errC S ps)) w') :
    Calls prog 32 #[.pointer (some ⟨m, 0, none⟩), v] w (Ret K) := by
  have hs1 := i.sz; have hs2 := i.le; have hs3 := i.fu
  have hlen := hv.len
  have hwl := wcells_length qs
  have hrd : Rds (rlI m r F V size head full R) v ps.length (wcells qs) := hv.rd.right.right
  obtain ⟨av, cv, rfl, _, hrd, _⟩ := hrd.shape h
  refine c32 ?_
  unfold B32
  simp only [↓o_nil, ↓o_field, ↓o_add, ↓o_sub, ↓o_mul, ↓o_lss, ↓o_leq, ↓o_gtr, ↓o_geq, ↓o_not, ↓o_pick, ↓o_eqInt, ↓o_neInt, ↓o_eqBool, ↓o_neBool, ↓o_eqPtr, ↓o_nePtr, ↓o_eqPtr', ↓o_eqSl, ↓o_neSl, ↓o_eqStr, ↓o_neStr, ↓o_len, ↓o_lenS, ↓o_min, ↓o_max, ↓o_extract, ↓o_convInt, ↓cd_true, ↓cd_false, ↓gate_tt, ↓gate_ff, ↓gate_tf, ↓gate_ft, ↓gate_undef, ↓o_bind, ↓stay_v, ↓pop_cons, ↓fin_nil, Option.isNone_none, Option.isNone_some, Bool.not_true, Bool.not_false, Nat.zero_add, decide_true, decide_false, if_true, if_false, Bool.false_eq_true, ↓reduceIte]
  by_cases h0 : ps.length = 0
  · have he : errC S ps = 0 := by unfold errC; rw [if_pos h0]
    have hc : commitS S ps = S := by unfold commitS; rw [if_neg (fun e => e.2 (List.length_eq_zero_iff.1 h0))]
    rw [he, hc] at k
    simp only [h0, Int.natCast_zero, ↓o_nil, ↓o_field, ↓o_add, ↓o_sub, ↓o_mul, ↓o_lss, ↓o_leq, ↓o_gtr, ↓o_geq, ↓o_not, ↓o_pick, ↓o_eqInt, ↓o_neInt, ↓o_eqBool, ↓o_neBool, ↓o_eqPtr, ↓o_nePtr, ↓o_eqPtr', ↓o_eqSl, ↓o_neSl, ↓o_eqStr, ↓o_neStr, ↓o_len, ↓o_lenS, ↓o_min, ↓o_max, ↓o_extract, ↓o_convInt, ↓cd_true, ↓cd_false, ↓gate_tt, ↓gate_ff, ↓gate_tf, ↓gate_ft, ↓gate_undef, ↓o_bind, ↓stay_v, ↓pop_cons, ↓fin_nil, Option.isNone_none, Option.isNone_some, Bool.not_true, Bool.not_false, Nat.zero_add, decide_true, decide_false, if_true, if_false, Bool.false_eq_true, ↓reduceIte]
    exact k V head full w i (by omega) (by omega) e3.symm h
  have h0' : ¬ (ps.length : Int) = 0 := by omega
  simp only [h0', ↓o_nil, ↓o_field, ↓o_add, ↓o_sub, ↓o_mul, ↓o_lss, ↓o_leq, ↓o_gtr, ↓o_geq, ↓o_not, ↓o_pick, ↓o_eqInt, ↓o_neInt, ↓o_eqBool, ↓o_neBool, ↓o_eqPtr, ↓o_nePtr, ↓o_eqPtr', ↓o_eqSl, ↓o_neSl, ↓o_eqStr, ↓o_neStr, ↓o_len, ↓o_lenS, ↓o_min, ↓o_max, ↓o_extract, ↓o_convInt, ↓cd_true, ↓cd_false, ↓gate_tt, ↓gate_ff, ↓gate_tf, ↓gate_ft, ↓gate_undef, ↓o_bind, ↓stay_v, ↓pop_cons, ↓fin_nil, Option.isNone_none, Option.isNone_some, Bool.not_true, Bool.not_false, Nat.zero_add, decide_true, decide_false, if_true, if_false, Bool.false_eq_true, ↓reduceIte]
  have hbad : ∀ e : Int, errC S ps = e → e ≠ 0 → ∀ w', sat E w' (rlI m r F V size head full R) → K (.int .i64 e) w' := fun e he hne w' h' => by
    have hc : commitS S ps = S := by unfold commitS; rw [if_neg (fun x => hne (by rw [← he]; exact x.1))]
    rw [he, hc] at k
    exact k V head full w' i (by omega) (by omega) e3.symm h'
  by_cases h1 : (100 : Int) < (ps.length : Int)
  · simp only [h1, ↓o_nil, ↓o_field, ↓o_add, ↓o_sub, ↓o_mul, ↓o_lss, ↓o_leq, ↓o_gtr, ↓o_geq, ↓o_not, ↓o_pick, ↓o_eqInt, ↓o_neInt, ↓o_eqBool, ↓o_neBool, ↓o_eqPtr, ↓o_nePtr, ↓o_eqPtr', ↓o_eqSl, ↓o_neSl, ↓o_eqStr, ↓o_neStr, ↓o_len, ↓o_lenS, ↓o_min, ↓o_max, ↓o_extract, ↓o_convInt, ↓cd_true, ↓cd_false, ↓gate_tt, ↓gate_ff, ↓gate_tf, ↓gate_ft, ↓gate_undef, ↓o_bind, ↓stay_v, ↓pop_cons, ↓fin_nil, Option.isNone_none, Option.isNone_some, Bool.not_true, Bool.not_false, Nat.zero_add, decide_true, decide_false, if_true, if_false, Bool.false_eq_true, ↓reduceIte]
    exact hbad 6 (by unfold errC; rw [if_neg h0, if_pos (by omega)]) (by decide) w h
  simp only [h1, ↓o_nil, ↓o_field, ↓o_add, ↓o_sub, ↓o_mul, ↓o_lss, ↓o_leq, ↓o_gtr, ↓o_geq, ↓o_not, ↓o_pick, ↓o_eqInt, ↓o_neInt, ↓o_eqBool, ↓o_neBool, ↓o_eqPtr, ↓o_nePtr, ↓o_eqPtr', ↓o_eqSl, ↓o_neSl, ↓o_eqStr, ↓o_neStr, ↓o_len, ↓o_lenS, ↓o_min, ↓o_max, ↓o_extract, ↓o_convInt, ↓cd_true, ↓cd_false, ↓gate_tt, ↓gate_ff, ↓gate_tf, ↓gate_ft, ↓gate_undef, ↓o_bind, ↓stay_v, ↓pop_cons, ↓fin_nil, Option.isNone_none, Option.isNone_some, Bool.not_true, Bool.not_false, Nat.zero_add, decide_true, decide_false, if_true, if_false, Bool.false_eq_true, ↓reduceIte]
  have hnum : ∀ (j : Nat) (hj : j < ps.length), (qs[j]'(by omega)).1 = (ps[j]).1 := fun j hj => by
    obtain ⟨q, hq, hqn, _⟩ := hv.at_ hj
    rw [List.getElem?_eq_getElem (by omega), Option.some.injEq] at hq
    rw [hq]; exact hqn
  obtain ⟨bv_, ov_, rfl, _⟩ := win_cell (hrd.win h) (j := 0) (by omega)
  -- the numbers
  refine lp_nat (fun q σ w => ∃ j : Nat, σ = [.int .i64 j] ∧ q = ps.length - j ∧ j ≤ ps.length ∧ (ps.take j).any (rangeP S) = false ∧ sat E w (rlI m r F V size head full R)) ps.length ⟨0, rfl, rfl, by omega, by simp, h⟩ ?_
  clear h
  rintro q σ w again ⟨j, rfl, rfl, hj, hz, h⟩ hag
  try simp only [↓o_nil, ↓o_field, ↓o_add, ↓o_sub, ↓o_mul, ↓o_lss, ↓o_leq, ↓o_gtr, ↓o_geq, ↓o_not, ↓o_pick, ↓o_eqInt, ↓o_neInt, ↓o_eqBool, ↓o_neBool, ↓o_eqPtr, ↓o_nePtr, ↓o_eqPtr', ↓o_eqSl, ↓o_neSl, ↓o_eqStr, ↓o_neStr, ↓o_len, ↓o_lenS, ↓o_min, ↓o_max, ↓o_extract, ↓o_convInt, ↓cd_true, ↓cd_false, ↓gate_tt, ↓gate_ff, ↓gate_tf, ↓gate_ft, ↓gate_undef, ↓o_bind, ↓stay_v, ↓pop_cons, ↓fin_nil, Option.isNone_none, Option.isNone_some, Bool.not_true, Bool.not_false, Nat.zero_add, decide_true, decide_false, if_true, if_false, Bool.false_eq_true, ↓reduceIte]
  refine cd_dec (fun hlt => ?_) (fun hge => ?_)
  · have hlt : j < ps.length := by omega
    refine dr_sl h fun w h _ => ?_
    rw [o_index (by omega) (by omega)]
    simp only [Int.toNat_natCast, ↓o_nil, ↓o_field, ↓o_add, ↓o_sub, ↓o_mul, ↓o_lss, ↓o_leq, ↓o_gtr, ↓o_geq, ↓o_not, ↓o_pick, ↓o_eqInt, ↓o_neInt, ↓o_eqBool, ↓o_neBool, ↓o_eqPtr, ↓o_nePtr, ↓o_eqPtr', ↓o_eqSl, ↓o_neSl, ↓o_eqStr, ↓o_neStr, ↓o_len, ↓o_lenS, ↓o_min, ↓o_max, ↓o_extract, ↓o_convInt, ↓cd_true, ↓cd_false, ↓gate_tt, ↓gate_ff, ↓gate_tf, ↓gate_ft, ↓gate_undef, ↓o_bind, ↓stay_v, ↓pop_cons, ↓fin_nil, Option.isNone_none, Option.isNone_some, Bool.not_true, Bool.not_false, Nat.zero_add, decide_true, decide_false, if_true, if_false, Bool.false_eq_true, ↓reduceIte]
    refine ld_cell (pg_cells h hrd (show j < qs.length by omega)).1 ?_
    rw [hnum j hlt]
    try simp only [↓o_nil, ↓o_field, ↓o_add, ↓o_sub, ↓o_mul, ↓o_lss, ↓o_leq, ↓o_gtr, ↓o_geq, ↓o_not, ↓o_pick, ↓o_eqInt, ↓o_neInt, ↓o_eqBool, ↓o_neBool, ↓o_eqPtr, ↓o_nePtr, ↓o_eqPtr', ↓o_eqSl, ↓o_neSl, ↓o_eqStr, ↓o_neStr, ↓o_len, ↓o_lenS, ↓o_min, ↓o_max, ↓o_extract, ↓o_convInt, ↓cd_true, ↓cd_false, ↓gate_tt, ↓gate_ff, ↓gate_tf, ↓gate_ft, ↓gate_undef, ↓o_bind, ↓stay_v, ↓pop_cons, ↓fin_nil, Option.isNone_none, Option.isNone_some, Bool.not_true, Bool.not_false, Nat.zero_add, decide_true, decide_false, if_true, if_false, Bool.false_eq_true, ↓reduceIte]
    have hbad2 : rangeP S ps[j] = true → ∀ w', sat E w' (rlI m r F V size head full R) → K (.int .i64 2) w' := fun hr w' h' =>
      hbad 2 (by unfold errC; rw [if_neg h0, if_neg (by omega), if_pos (List.any_eq_true.2 ⟨ps[j], List.getElem_mem hlt, hr⟩)]) (by decide) w' h'
    by_cases hneg : (ps[j]).1 < 0
    · simp only [hneg, ↓o_nil, ↓o_field, ↓o_add, ↓o_sub, ↓o_mul, ↓o_lss, ↓o_leq, ↓o_gtr, ↓o_geq, ↓o_not, ↓o_pick, ↓o_eqInt, ↓o_neInt, ↓o_eqBool, ↓o_neBool, ↓o_eqPtr, ↓o_nePtr, ↓o_eqPtr', ↓o_eqSl, ↓o_neSl, ↓o_eqStr, ↓o_neStr, ↓o_len, ↓o_lenS, ↓o_min, ↓o_max, ↓o_extract, ↓o_convInt, ↓cd_true, ↓cd_false, ↓gate_tt, ↓gate_ff, ↓gate_tf, ↓gate_ft, ↓gate_undef, ↓o_bind, ↓stay_v, ↓pop_cons, ↓fin_nil, Option.isNone_none, Option.isNone_some, Bool.not_true, Bool.not_false, Nat.zero_add, decide_true, decide_false, if_true, if_false, Bool.false_eq_true, ↓reduceIte]
      exact hbad2 (by unfold rangeP; simp [hneg]) w h
    · simp only [hneg, ↓o_nil, ↓o_field, ↓o_add, ↓o_sub, ↓o_mul, ↓o_lss, ↓o_leq, ↓o_gtr, ↓o_geq, ↓o_not, ↓o_pick, ↓o_eqInt, ↓o_neInt, ↓o_eqBool, ↓o_neBool, ↓o_eqPtr, ↓o_nePtr, ↓o_eqPtr', ↓o_eqSl, ↓o_neSl, ↓o_eqStr, ↓o_neStr, ↓o_len, ↓o_lenS, ↓o_min, ↓o_max, ↓o_extract, ↓o_convInt, ↓cd_true, ↓cd_false, ↓gate_tt, ↓gate_ff, ↓gate_tf, ↓gate_ft, ↓gate_undef, ↓o_bind, ↓stay_v, ↓pop_cons, ↓fin_nil, Option.isNone_none, Option.isNone_some, Bool.not_true, Bool.not_false, Nat.zero_add, decide_true, decide_false, if_true, if_false, Bool.false_eq_true, ↓reduceIte]
      try rw [o_index (by omega) (by omega)]
      simp only [Int.toNat_natCast, ↓o_nil, ↓o_field, ↓o_add, ↓o_sub, ↓o_mul, ↓o_lss, ↓o_leq, ↓o_gtr, ↓o_geq, ↓o_not, ↓o_pick, ↓o_eqInt, ↓o_neInt, ↓o_eqBool, ↓o_neBool, ↓o_eqPtr, ↓o_nePtr, ↓o_eqPtr', ↓o_eqSl, ↓o_neSl, ↓o_eqStr, ↓o_neStr, ↓o_len, ↓o_lenS, ↓o_min, ↓o_max, ↓o_extract, ↓o_convInt, ↓cd_true, ↓cd_false, ↓gate_tt, ↓gate_ff, ↓gate_tf, ↓gate_ft, ↓gate_undef, ↓o_bind, ↓stay_v, ↓pop_cons, ↓fin_nil, Option.isNone_none, Option.isNone_some, Bool.not_true, Bool.not_false, Nat.zero_add, decide_true, decide_false, if_true, if_false, Bool.false_eq_true, ↓reduceIte]
      refine ld_cell (pg_cells h hrd (show j < qs.length by omega)).1 ?_
      refine rPages_spec h i fun w h => ?_
      refine st_cell (pg_cells h hrd (show j < qs.length by omega)).1 ?_
      rw [← hnum j hlt]
      refine st_cell (pg_cells h hrd (show j < qs.length by omega)).1 ?_
      rw [hnum j hlt, ← e1]
      try simp only [↓o_nil, ↓o_field, ↓o_add, ↓o_sub, ↓o_mul, ↓o_lss, ↓o_leq, ↓o_gtr, ↓o_geq, ↓o_not, ↓o_pick, ↓o_eqInt, ↓o_neInt, ↓o_eqBool, ↓o_neBool, ↓o_eqPtr, ↓o_nePtr, ↓o_eqPtr', ↓o_eqSl, ↓o_neSl, ↓o_eqStr, ↓o_neStr, ↓o_len, ↓o_lenS, ↓o_min, ↓o_max, ↓o_extract, ↓o_convInt, ↓cd_true, ↓cd_false, ↓gate_tt, ↓gate_ff, ↓gate_tf, ↓gate_ft, ↓gate_undef, ↓o_bind, ↓stay_v, ↓pop_cons, ↓fin_nil, Option.isNone_none, Option.isNone_some, Bool.not_true, Bool.not_false, Nat.zero_add, decide_true, decide_false, if_true, if_false, Bool.false_eq_true, ↓reduceIte]
      by_cases hge : (S.pages : Int) ≤ (ps[j]).1
      · simp only [hge, ↓o_nil, ↓o_field, ↓o_add, ↓o_sub, ↓o_mul, ↓o_lss, ↓o_leq, ↓o_gtr, ↓o_geq, ↓o_not, ↓o_pick, ↓o_eqInt, ↓o_neInt, ↓o_eqBool, ↓o_neBool, ↓o_eqPtr, ↓o_nePtr, ↓o_eqPtr', ↓o_eqSl, ↓o_neSl, ↓o_eqStr, ↓o_neStr, ↓o_len, ↓o_lenS, ↓o_min, ↓o_max, ↓o_extract, ↓o_convInt, ↓cd_true, ↓cd_false, ↓gate_tt, ↓gate_ff, ↓gate_tf, ↓gate_ft, ↓gate_undef, ↓o_bind, ↓stay_v, ↓pop_cons, ↓fin_nil, Option.isNone_none, Option.isNone_some, Bool.not_true, Bool.not_false, Nat.zero_add, decide_true, decide_false, if_true, if_false, Bool.false_eq_true, ↓reduceIte]
        exact hbad2 (by unfold rangeP; simp [hge]) w h
      · simp only [hge, ↓o_nil, ↓o_field, ↓o_add, ↓o_sub, ↓o_mul, ↓o_lss, ↓o_leq, ↓o_gtr, ↓o_geq, ↓o_not, ↓o_pick, ↓o_eqInt, ↓o_neInt, ↓o_eqBool, ↓o_neBool, ↓o_eqPtr, ↓o_nePtr, ↓o_eqPtr', ↓o_eqSl, ↓o_neSl, ↓o_eqStr, ↓o_neStr, ↓o_len, ↓o_lenS, ↓o_min, ↓o_max, ↓o_extract, ↓o_convInt, ↓cd_true, ↓cd_false, ↓gate_tt, ↓gate_ff, ↓gate_tf, ↓gate_ft, ↓gate_undef, ↓o_bind, ↓stay_v, ↓pop_cons, ↓fin_nil, Option.isNone_none, Option.isNone_some, Bool.not_true, Bool.not_false, Nat.zero_add, decide_true, decide_false, if_true, if_false, Bool.false_eq_true, ↓reduceIte]
        rw [i64_of (by omega) (by omega)]
        refine hag (ps.length - (j + 1)) _ _ (by omega) ⟨j + 1, rfl, rfl, by omega, ?_, h⟩
        rw [List.take_succ_eq_append_getElem hlt, List.any_append, hz]
        simp [rangeP, hneg, hge]
  have hjj : j = ps.length := by omega
  subst hjj
  rw [List.take_length] at hz
  -- their forms
  refine lp_nat (fun q σ w => ∃ j : Nat, σ = [.int .i64 j] ∧ q = ps.length - j ∧ j ≤ ps.length ∧ FormP (ps.take j) ∧ sat E w (rlI m r F V size head full R)) ps.length ⟨0, rfl, rfl, by omega, ⟨by simp, by simp⟩, h⟩ ?_
  clear h hag
  rintro q σ w again ⟨j, rfl, rfl, hj, hf, h⟩ hag
  try simp only [↓o_nil, ↓o_field, ↓o_add, ↓o_sub, ↓o_mul, ↓o_lss, ↓o_leq, ↓o_gtr, ↓o_geq, ↓o_not, ↓o_pick, ↓o_eqInt, ↓o_neInt, ↓o_eqBool, ↓o_neBool, ↓o_eqPtr, ↓o_nePtr, ↓o_eqPtr', ↓o_eqSl, ↓o_neSl, ↓o_eqStr, ↓o_neStr, ↓o_len, ↓o_lenS, ↓o_min, ↓o_max, ↓o_extract, ↓o_convInt, ↓cd_true, ↓cd_false, ↓gate_tt, ↓gate_ff, ↓gate_tf, ↓gate_ft, ↓gate_undef, ↓o_bind, ↓stay_v, ↓pop_cons, ↓fin_nil, Option.isNone_none, Option.isNone_some, Bool.not_true, Bool.not_false, Nat.zero_add, decide_true, decide_false, if_true, if_false, Bool.false_eq_true, ↓reduceIte]
  have hbad3 : ¬ FormP ps → ∀ w', sat E w' (rlI m r F V size head full R) → K (.int .i64 3) w' := fun hn w' h' => hbad 3 (errC_form (by omega) (by omega) hz hn) (by decide) w' h'
  refine cd_dec (fun hlt => ?_) (fun hge => ?_)
  · have hlt : j < ps.length := by omega
    refine lp_nat (fun q σ w => ∃ a : Nat, σ = [.int .i64 a] ∧ q = j - a ∧ a ≤ j ∧ (∀ b, (hb : b < a) → (hb2 : b < ps.length) → (ps[b]).1 ≠ (ps[j]).1) ∧ sat E w (rlI m r F V size head full R)) j ⟨0, rfl, rfl, by omega, fun b hb => by omega, h⟩ ?_
    clear h
    rintro q σ w again2 ⟨a, rfl, rfl, ha, hna, h⟩ hag2
    try simp only [↓o_nil, ↓o_field, ↓o_add, ↓o_sub, ↓o_mul, ↓o_lss, ↓o_leq, ↓o_gtr, ↓o_geq, ↓o_not, ↓o_pick, ↓o_eqInt, ↓o_neInt, ↓o_eqBool, ↓o_neBool, ↓o_eqPtr, ↓o_nePtr, ↓o_eqPtr', ↓o_eqSl, ↓o_neSl, ↓o_eqStr, ↓o_neStr, ↓o_len, ↓o_lenS, ↓o_min, ↓o_max, ↓o_extract, ↓o_convInt, ↓cd_true, ↓cd_false, ↓gate_tt, ↓gate_ff, ↓gate_tf, ↓gate_ft, ↓gate_undef, ↓o_bind, ↓stay_v, ↓pop_cons, ↓fin_nil, Option.isNone_none, Option.isNone_some, Bool.not_true, Bool.not_false, Nat.zero_add, decide_true, decide_false, if_true, if_false, Bool.false_eq_true, ↓reduceIte]
    refine cd_dec (fun hlt2 => ?_) (fun hge2 => ?_)
    · have hlt2 : a < j := by omega
      refine dr_sl h fun w h _ => ?_
      rw [o_index (by omega) (by omega)]
      simp only [Int.toNat_natCast, ↓o_nil, ↓o_field, ↓o_add, ↓o_sub, ↓o_mul, ↓o_lss, ↓o_leq, ↓o_gtr, ↓o_geq, ↓o_not, ↓o_pick, ↓o_eqInt, ↓o_neInt, ↓o_eqBool, ↓o_neBool, ↓o_eqPtr, ↓o_nePtr, ↓o_eqPtr', ↓o_eqSl, ↓o_neSl, ↓o_eqStr, ↓o_neStr, ↓o_len, ↓o_lenS, ↓o_min, ↓o_max, ↓o_extract, ↓o_convInt, ↓cd_true, ↓cd_false, ↓gate_tt, ↓gate_ff, ↓gate_tf, ↓gate_ft, ↓gate_undef, ↓o_bind, ↓stay_v, ↓pop_cons, ↓fin_nil, Option.isNone_none, Option.isNone_some, Bool.not_true, Bool.not_false, Nat.zero_add, decide_true, decide_false, if_true, if_false, Bool.false_eq_true, ↓reduceIte]
      rw [o_index (by omega) (by omega)]
      simp only [Int.toNat_natCast, ↓o_nil, ↓o_field, ↓o_add, ↓o_sub, ↓o_mul, ↓o_lss, ↓o_leq, ↓o_gtr, ↓o_geq, ↓o_not, ↓o_pick, ↓o_eqInt, ↓o_neInt, ↓o_eqBool, ↓o_neBool, ↓o_eqPtr, ↓o_nePtr, ↓o_eqPtr', ↓o_eqSl, ↓o_neSl, ↓o_eqStr, ↓o_neStr, ↓o_len, ↓o_lenS, ↓o_min, ↓o_max, ↓o_extract, ↓o_convInt, ↓cd_true, ↓cd_false, ↓gate_tt, ↓gate_ff, ↓gate_tf, ↓gate_ft, ↓gate_undef, ↓o_bind, ↓stay_v, ↓pop_cons, ↓fin_nil, Option.isNone_none, Option.isNone_some, Bool.not_true, Bool.not_false, Nat.zero_add, decide_true, decide_false, if_true, if_false, Bool.false_eq_true, ↓reduceIte]
      refine ld_cell (pg_cells h hrd (show a < qs.length by omega)).1 ?_
      refine ld_cell (pg_cells h hrd (show j < qs.length by omega)).1 ?_
      rw [hnum a (by omega), hnum j hlt]
      try simp only [↓o_nil, ↓o_field, ↓o_add, ↓o_sub, ↓o_mul, ↓o_lss, ↓o_leq, ↓o_gtr, ↓o_geq, ↓o_not, ↓o_pick, ↓o_eqInt, ↓o_neInt, ↓o_eqBool, ↓o_neBool, ↓o_eqPtr, ↓o_nePtr, ↓o_eqPtr', ↓o_eqSl, ↓o_neSl, ↓o_eqStr, ↓o_neStr, ↓o_len, ↓o_lenS, ↓o_min, ↓o_max, ↓o_extract, ↓o_convInt, ↓cd_true, ↓cd_false, ↓gate_tt, ↓gate_ff, ↓gate_tf, ↓gate_ft, ↓gate_undef, ↓o_bind, ↓stay_v, ↓pop_cons, ↓fin_nil, Option.isNone_none, Option.isNone_some, Bool.not_true, Bool.not_false, Nat.zero_add, decide_true, decide_false, if_true, if_false, Bool.false_eq_true, ↓reduceIte]
      by_cases he : (ps[a]).1 = (ps[j]).1
      · simp only [he, ↓o_nil, ↓o_field, ↓o_add, ↓o_sub, ↓o_mul, ↓o_lss, ↓o_leq, ↓o_gtr, ↓o_geq, ↓o_not, ↓o_pick, ↓o_eqInt, ↓o_neInt, ↓o_eqBool, ↓o_neBool, ↓o_eqPtr, ↓o_nePtr, ↓o_eqPtr', ↓o_eqSl, ↓o_neSl, ↓o_eqStr, ↓o_neStr, ↓o_len, ↓o_lenS, ↓o_min, ↓o_max, ↓o_extract, ↓o_convInt, ↓cd_true, ↓cd_false, ↓gate_tt, ↓gate_ff, ↓gate_tf, ↓gate_ft, ↓gate_undef, ↓o_bind, ↓stay_v, ↓pop_cons, ↓fin_nil, Option.isNone_none, Option.isNone_some, Bool.not_true, Bool.not_false, Nat.zero_add, decide_true, decide_false, if_true, if_false, Bool.false_eq_true, ↓reduceIte]
        refine hbad3 (fun hF => ?_) w h
        have hnd := hF.1
        rw [List.nodup_iff_pairwise_ne, List.pairwise_iff_getElem] at hnd
        refine hnd a j (by simp; omega) (by simp; omega) hlt2 ?_
        simpa using he
      · simp only [he, ↓o_nil, ↓o_field, ↓o_add, ↓o_sub, ↓o_mul, ↓o_lss, ↓o_leq, ↓o_gtr, ↓o_geq, ↓o_not, ↓o_pick, ↓o_eqInt, ↓o_neInt, ↓o_eqBool, ↓o_neBool, ↓o_eqPtr, ↓o_nePtr, ↓o_eqPtr', ↓o_eqSl, ↓o_neSl, ↓o_eqStr, ↓o_neStr, ↓o_len, ↓o_lenS, ↓o_min, ↓o_max, ↓o_extract, ↓o_convInt, ↓cd_true, ↓cd_false, ↓gate_tt, ↓gate_ff, ↓gate_tf, ↓gate_ft, ↓gate_undef, ↓o_bind, ↓stay_v, ↓pop_cons, ↓fin_nil, Option.isNone_none, Option.isNone_some, Bool.not_true, Bool.not_false, Nat.zero_add, decide_true, decide_false, if_true, if_false, Bool.false_eq_true, ↓reduceIte]
        rw [i64_of (by omega) (by omega)]
        refine hag2 (j - (a + 1)) _ _ (by omega) ⟨a + 1, rfl, rfl, by omega, fun b hb hb2 => ?_, h⟩
        by_cases e : b = a
        · subst e; exact he
        · exact hna b (by omega) hb2
    · have haj : a = j := by omega
      subst haj
      rw [o_index (by omega) (by omega)]
      simp only [Int.toNat_natCast, ↓o_nil, ↓o_field, ↓o_add, ↓o_sub, ↓o_mul, ↓o_lss, ↓o_leq, ↓o_gtr, ↓o_geq, ↓o_not, ↓o_pick, ↓o_eqInt, ↓o_neInt, ↓o_eqBool, ↓o_neBool, ↓o_eqPtr, ↓o_nePtr, ↓o_eqPtr', ↓o_eqSl, ↓o_neSl, ↓o_eqStr, ↓o_neStr, ↓o_len, ↓o_lenS, ↓o_min, ↓o_max, ↓o_extract, ↓o_convInt, ↓cd_true, ↓cd_false, ↓gate_tt, ↓gate_ff, ↓gate_tf, ↓gate_ft, ↓gate_undef, ↓o_bind, ↓stay_v, ↓pop_cons, ↓fin_nil, Option.isNone_none, Option.isNone_some, Bool.not_true, Bool.not_false, Nat.zero_add, decide_true, decide_false, if_true, if_false, Bool.false_eq_true, ↓reduceIte]
      refine ld_cell (pg_cells h hrd (show a < qs.length by omega)).2 ?_
      have hqr := (hv.el hlt (show a < qs.length by omega)).2
      obtain ⟨aq, cq, hqv, _, _, _⟩ := hqr.shape (show sat E w R from h.drop.drop)
      rw [hqv]
      try simp only [↓o_nil, ↓o_field, ↓o_add, ↓o_sub, ↓o_mul, ↓o_lss, ↓o_leq, ↓o_gtr, ↓o_geq, ↓o_not, ↓o_pick, ↓o_eqInt, ↓o_neInt, ↓o_eqBool, ↓o_neBool, ↓o_eqPtr, ↓o_nePtr, ↓o_eqPtr', ↓o_eqSl, ↓o_neSl, ↓o_eqStr, ↓o_neStr, ↓o_len, ↓o_lenS, ↓o_min, ↓o_max, ↓o_extract, ↓o_convInt, ↓cd_true, ↓cd_false, ↓gate_tt, ↓gate_ff, ↓gate_tf, ↓gate_ft, ↓gate_undef, ↓o_bind, ↓stay_v, ↓pop_cons, ↓fin_nil, Option.isNone_none, Option.isNone_some, Bool.not_true, Bool.not_false, Nat.zero_add, decide_true, decide_false, if_true, if_false, Bool.false_eq_true, ↓reduceIte]
      by_cases h256 : (ps[a]).2.length = 256
      · have h256' : ((ps[a]).2.length : Int) = 256 := by omega
        simp only [h256', ↓o_nil, ↓o_field, ↓o_add, ↓o_sub, ↓o_mul, ↓o_lss, ↓o_leq, ↓o_gtr, ↓o_geq, ↓o_not, ↓o_pick, ↓o_eqInt, ↓o_neInt, ↓o_eqBool, ↓o_neBool, ↓o_eqPtr, ↓o_nePtr, ↓o_eqPtr', ↓o_eqSl, ↓o_neSl, ↓o_eqStr, ↓o_neStr, ↓o_len, ↓o_lenS, ↓o_min, ↓o_max, ↓o_extract, ↓o_convInt, ↓cd_true, ↓cd_false, ↓gate_tt, ↓gate_ff, ↓gate_tf, ↓gate_ft, ↓gate_undef, ↓o_bind, ↓stay_v, ↓pop_cons, ↓fin_nil, Option.isNone_none, Option.isNone_some, Bool.not_true, Bool.not_false, Nat.zero_add, decide_true, decide_false, if_true, if_false, Bool.false_eq_true, ↓reduceIte]
        rw [i64_of (by omega) (by omega)]
        refine hag (ps.length - (a + 1)) _ _ (by omega) ⟨a + 1, rfl, rfl, by omega, ?_, h⟩
        rw [List.take_succ_eq_append_getElem hlt]
        refine ⟨?_, fun x hx => ?_⟩
        · rw [List.map_append, List.nodup_append]
          refine ⟨hf.1, by simp, ?_⟩
          intro x hx c hc e
          simp only [List.map_cons, List.map_nil, List.mem_singleton] at hc
          subst e
          obtain ⟨y, hy, rfl⟩ := List.mem_map.1 hx
          obtain ⟨b, hb, rfl⟩ := List.mem_iff_getElem.1 hy
          rw [List.length_take] at hb
          rw [List.getElem_take] at hc
          exact hna b (by omega) (by omega) hc
        · rcases List.mem_append.1 hx with hx | hx
          · exact hf.2 x hx
          · simp at hx; rw [hx]; exact h256
      · have h256' : ¬ ((ps[a]).2.length : Int) = 256 := by omega
        simp only [h256', ↓o_nil, ↓o_field, ↓o_add, ↓o_sub, ↓o_mul, ↓o_lss, ↓o_leq, ↓o_gtr, ↓o_geq, ↓o_not, ↓o_pick, ↓o_eqInt, ↓o_neInt, ↓o_eqBool, ↓o_neBool, ↓o_eqPtr, ↓o_nePtr, ↓o_eqPtr', ↓o_eqSl, ↓o_neSl, ↓o_eqStr, ↓o_neStr, ↓o_len, ↓o_lenS, ↓o_min, ↓o_max, ↓o_extract, ↓o_convInt, ↓cd_true, ↓cd_false, ↓gate_tt, ↓gate_ff, ↓gate_tf, ↓gate_ft, ↓gate_undef, ↓o_bind, ↓stay_v, ↓pop_cons, ↓fin_nil, Option.isNone_none, Option.isNone_some, Bool.not_true, Bool.not_false, Nat.zero_add, decide_true, decide_false, if_true, if_false, Bool.false_eq_true, ↓reduceIte]
        exact hbad3 (fun hF => h256 (hF.2 _ (List.getElem_mem hlt))) w h
  have hjj : j = ps.length := by omega
  subst hjj
  rw [List.take_length] at hf
  have h0h := h
  unfold rlI rcells at h
  refine dr_sl h fun w h _ => ?_
  try simp only [↓o_nil, ↓o_field, ↓o_add, ↓o_sub, ↓o_mul, ↓o_lss, ↓o_leq, ↓o_gtr, ↓o_geq, ↓o_not, ↓o_pick, ↓o_eqInt, ↓o_neInt, ↓o_eqBool, ↓o_neBool, ↓o_eqPtr, ↓o_nePtr, ↓o_eqPtr', ↓o_eqSl, ↓o_neSl, ↓o_eqStr, ↓o_neStr, ↓o_len, ↓o_lenS, ↓o_min, ↓o_max, ↓o_extract, ↓o_convInt, ↓cd_true, ↓cd_false, ↓gate_tt, ↓gate_ff, ↓gate_tf, ↓gate_ft, ↓gate_undef, ↓o_bind, ↓stay_v, ↓pop_cons, ↓fin_nil, Option.isNone_none, Option.isNone_some, Bool.not_true, Bool.not_false, Nat.zero_add, decide_true, decide_false, if_true, if_false, Bool.false_eq_true, ↓reduceIte]
  refine ld_at h ?_
  refine ld_at h ?_
  rw [o_sub, i64_of (by omega) (by omega)]
  refine rNeed_spec ?_
  rw [if_neg (by omega)]
  refine st_at h ?_
  refine st_at h ?_
  try simp only [↓o_nil, ↓o_field, ↓o_add, ↓o_sub, ↓o_mul, ↓o_lss, ↓o_leq, ↓o_gtr, ↓o_geq, ↓o_not, ↓o_pick, ↓o_eqInt, ↓o_neInt, ↓o_eqBool, ↓o_neBool, ↓o_eqPtr, ↓o_nePtr, ↓o_eqPtr', ↓o_eqSl, ↓o_neSl, ↓o_eqStr, ↓o_neStr, ↓o_len, ↓o_lenS, ↓o_min, ↓o_max, ↓o_extract, ↓o_convInt, ↓cd_true, ↓cd_false, ↓gate_tt, ↓gate_ff, ↓gate_tf, ↓gate_ft, ↓gate_undef, ↓o_bind, ↓stay_v, ↓pop_cons, ↓fin_nil, Option.isNone_none, Option.isNone_some, Bool.not_true, Bool.not_false, Nat.zero_add, decide_true, decide_false, if_true, if_false, Bool.false_eq_true, ↓reduceIte]
  by_cases hfit : (size : Int) - (full : Int) < (ps.length : Int) + 1
  · simp only [hfit, ↓o_nil, ↓o_field, ↓o_add, ↓o_sub, ↓o_mul, ↓o_lss, ↓o_leq, ↓o_gtr, ↓o_geq, ↓o_not, ↓o_pick, ↓o_eqInt, ↓o_neInt, ↓o_eqBool, ↓o_neBool, ↓o_eqPtr, ↓o_nePtr, ↓o_eqPtr', ↓o_eqSl, ↓o_neSl, ↓o_eqStr, ↓o_neStr, ↓o_len, ↓o_lenS, ↓o_min, ↓o_max, ↓o_extract, ↓o_convInt, ↓cd_true, ↓cd_false, ↓gate_tt, ↓gate_ff, ↓gate_tf, ↓gate_ft, ↓gate_undef, ↓o_bind, ↓stay_v, ↓pop_cons, ↓fin_nil, Option.isNone_none, Option.isNone_some, Bool.not_true, Bool.not_false, Nat.zero_add, decide_true, decide_false, if_true, if_false, Bool.false_eq_true, ↓reduceIte]
    exact hbad 7 (by unfold errC; rw [if_neg h0, if_neg (by omega), if_neg (by simp [hz]), if_neg (by simpa using hf), if_pos (by omega)]) (by decide) w h
  simp only [hfit, ↓o_nil, ↓o_field, ↓o_add, ↓o_sub, ↓o_mul, ↓o_lss, ↓o_leq, ↓o_gtr, ↓o_geq, ↓o_not, ↓o_pick, ↓o_eqInt, ↓o_neInt, ↓o_eqBool, ↓o_neBool, ↓o_eqPtr, ↓o_nePtr, ↓o_eqPtr', ↓o_eqSl, ↓o_neSl, ↓o_eqStr, ↓o_neStr, ↓o_len, ↓o_lenS, ↓o_min, ↓o_max, ↓o_extract, ↓o_convInt, ↓cd_true, ↓cd_false, ↓gate_tt, ↓gate_ff, ↓gate_tf, ↓gate_ft, ↓gate_undef, ↓o_bind, ↓stay_v, ↓pop_cons, ↓fin_nil, Option.isNone_none, Option.isNone_some, Bool.not_true, Bool.not_false, Nat.zero_add, decide_true, decide_false, if_true, if_false, Bool.false_eq_true, ↓reduceIte]
  have herr : errC S ps = 0 := by
    unfold errC; rw [if_neg h0, if_neg (by omega), if_neg (by simp [hz]), if_neg (by simpa using hf), if_neg (by omega)]
  have hne : ps ≠ [] := fun e => h0 (by rw [e]; rfl)
  have t := errC_zero herr hne
  have hc : (commitS S ps).used = full + (ps.length + 1) := by unfold commitS; rw [if_pos ⟨herr, hne⟩, commitT_used, e3]
  rw [herr, hc] at k
  refine make_sl h rfl (by omega) (by omega) (by omega) (by omega) fun q w h => ?_
  have e3' : (256 : Int).toNat = 256 := rfl
  rw [e3'] at h ⊢
  rw [zeros_map] at h
  rw [show (8 : Int) = ((8 : Nat) : Int) from rfl, o_shr (by decide)]
  try simp only [↓o_nil, ↓o_field, ↓o_add, ↓o_sub, ↓o_mul, ↓o_lss, ↓o_leq, ↓o_gtr, ↓o_geq, ↓o_not, ↓o_pick, ↓o_eqInt, ↓o_neInt, ↓o_eqBool, ↓o_neBool, ↓o_eqPtr, ↓o_nePtr, ↓o_eqPtr', ↓o_eqSl, ↓o_neSl, ↓o_eqStr, ↓o_neStr, ↓o_len, ↓o_lenS, ↓o_min, ↓o_max, ↓o_extract, ↓o_convInt, ↓cd_true, ↓cd_false, ↓gate_tt, ↓gate_ff, ↓gate_tf, ↓gate_ft, ↓gate_undef, ↓o_bind, ↓stay_v, ↓pop_cons, ↓fin_nil, Option.isNone_none, Option.isNone_some, Bool.not_true, Bool.not_false, Nat.zero_add, decide_true, decide_false, if_true, if_false, Bool.false_eq_true, ↓reduceIte]
  rw [bv_of, bv_of, o_index (by omega) (by omega)]
  try simp only [Int.toNat_zero, Nat.zero_mul, Nat.add_zero]
  refine store_sl h rfl (by simp [zeros]) fun w h => ?_
  rw [o_index (by omega) (by omega)]
  try simp only [show (1 : Int).toNat * 1 = 1 from rfl, Nat.zero_add]
  refine store_sl h rfl (by simp [zeros]) fun w h => ?_
  rw [← List.map_set, ← List.map_set] at h
  generalize hb0 : (zeros.set 0 _).set 1 _ = b0 at h
  have hb0l : b0.length = 256 := by rw [← hb0]; simp [zeros]
  have hin : ∀ {Y : HP}, Rds R (.slice (some ⟨bv_, ov_, none⟩) ps.length cv) ps.length (wcells qs) := hv.rd
  have hcnt : ∀ n : Nat, qs.countP (fun q => decide (0 ≤ q.1 ∧ q.1 < (n : Int))) ≤ ps.length := fun n => by rw [← hlen]; exact List.countP_le_length
  -- the pages in their order
  refine lp_nat (fun x σ w => ∃ (n : Nat) (lv : Value) (l2 : List (Int × Value)) (b : Bs), σ = [lv, .int .i64 n] ∧ x = 2000 - n ∧ n ≤ 1024 ∧ b.length = 256 ∧ l2.length = qs.countP (fun q => decide (0 ≤ q.1 ∧ q.1 < (n : Int))) ∧ (∀ y ∈ l2, y ∈ qs) ∧
    sat E w (pts q (.cells (b.map bv).toArray 5 (0, 0)) * (osl 65 2 lv l2.length (wcells l2) * rlI m r F V size head full R))) 2000
    ⟨0, .slice none 0 0, [], b0, rfl, rfl, by omega, hb0l, ?_, by simp, ?_⟩ ?_
  · rw [List.length_nil, eq_comm, List.countP_eq_zero]
    intro y _
    simp only [decide_eq_true_eq]
    omega
  · exact (osl_nil h 65 2).perm (star_left_comm _ _ _)
  clear h hag h0h
  rintro x σ w again ⟨n, lv, l2, b, rfl, rfl, hn, hb, hl2, hmem, h⟩ hag
  try simp only [↓o_nil, ↓o_field, ↓o_add, ↓o_sub, ↓o_mul, ↓o_lss, ↓o_leq, ↓o_gtr, ↓o_geq, ↓o_not, ↓o_pick, ↓o_eqInt, ↓o_neInt, ↓o_eqBool, ↓o_neBool, ↓o_eqPtr, ↓o_nePtr, ↓o_eqPtr', ↓o_eqSl, ↓o_neSl, ↓o_eqStr, ↓o_neStr, ↓o_len, ↓o_lenS, ↓o_min, ↓o_max, ↓o_extract, ↓o_convInt, ↓cd_true, ↓cd_false, ↓gate_tt, ↓gate_ff, ↓gate_tf, ↓gate_ft, ↓gate_undef, ↓o_bind, ↓stay_v, ↓pop_cons, ↓fin_nil, Option.isNone_none, Option.isNone_some, Bool.not_true, Bool.not_false, Nat.zero_add, decide_true, decide_false, if_true, if_false, Bool.false_eq_true, ↓reduceIte]
  have hsw : ∀ {w : World} {l2 : List (Int × Value)} {lv : Value} {b : Bs}, sat E w (pts q (.cells (b.map bv).toArray 5 (0, 0)) * (osl 65 2 lv l2.length (wcells l2) * rlI m r F V size head full R)) ↔ sat E w (rlI m r F V size head full (pts q (.cells (b.map bv).toArray 5 (0, 0)) * (osl 65 2 lv l2.length (wcells l2) * R))) := fun {w l2 lv b} => by
    unfold rlI
    exact ⟨fun h => h.perm (by ac_rfl), fun h => h.perm (by ac_rfl)⟩
  refine rPages_spec (hsw.1 h) i fun w h => ?_
  have h := hsw.2 h
  try simp only [↓o_nil, ↓o_field, ↓o_add, ↓o_sub, ↓o_mul, ↓o_lss, ↓o_leq, ↓o_gtr, ↓o_geq, ↓o_not, ↓o_pick, ↓o_eqInt, ↓o_neInt, ↓o_eqBool, ↓o_neBool, ↓o_eqPtr, ↓o_nePtr, ↓o_eqPtr', ↓o_eqSl, ↓o_neSl, ↓o_eqStr, ↓o_neStr, ↓o_len, ↓o_lenS, ↓o_min, ↓o_max, ↓o_extract, ↓o_convInt, ↓cd_true, ↓cd_false, ↓gate_tt, ↓gate_ff, ↓gate_tf, ↓gate_ft, ↓gate_undef, ↓o_bind, ↓stay_v, ↓pop_cons, ↓fin_nil, Option.isNone_none, Option.isNone_some, Bool.not_true, Bool.not_false, Nat.zero_add, decide_true, decide_false, if_true, if_false, Bool.false_eq_true, ↓reduceIte]
  refine cd_dec (fun hlt => ?_) (fun hge => ?_)
  · have hsp := count_split qs n
    refine lp_nat (fun x σ w => ∃ (a : Nat) (lv : Value) (l2 : List (Int × Value)) (b : Bs), σ = [lv, .int .i64 a] ∧ x = ps.length - a ∧ a ≤ ps.length ∧ b.length = 256 ∧ l2.length = qs.countP (fun q => decide (0 ≤ q.1 ∧ q.1 < (n : Int))) + (qs.take a).countP (fun q => decide (0 ≤ q.1 ∧ q.1 = (n : Int))) ∧ (∀ y ∈ l2, y ∈ qs) ∧
      sat E w (pts q (.cells (b.map bv).toArray 5 (0, 0)) * (osl 65 2 lv l2.length (wcells l2) * rlI m r F V size head full R))) ps.length ⟨0, lv, l2, b, rfl, rfl, by omega, hb, by simpa using hl2, hmem, h⟩ ?_
    clear h
    rintro x σ w again2 ⟨a, lv, l2, b, rfl, rfl, ha, hb, hl2, hmem, h⟩ hag2
    try simp only [↓o_nil, ↓o_field, ↓o_add, ↓o_sub, ↓o_mul, ↓o_lss, ↓o_leq, ↓o_gtr, ↓o_geq, ↓o_not, ↓o_pick, ↓o_eqInt, ↓o_neInt, ↓o_eqBool, ↓o_neBool, ↓o_eqPtr, ↓o_nePtr, ↓o_eqPtr', ↓o_eqSl, ↓o_neSl, ↓o_eqStr, ↓o_neStr, ↓o_len, ↓o_lenS, ↓o_min, ↓o_max, ↓o_extract, ↓o_convInt, ↓cd_true, ↓cd_false, ↓gate_tt, ↓gate_ff, ↓gate_tf, ↓gate_ft, ↓gate_undef, ↓o_bind, ↓stay_v, ↓pop_cons, ↓fin_nil, Option.isNone_none, Option.isNone_some, Bool.not_true, Bool.not_false, Nat.zero_add, decide_true, decide_false, if_true, if_false, Bool.false_eq_true, ↓reduceIte]
    have hrd2 : Rds (pts q (.cells (b.map bv).toArray 5 (0, 0)) * (osl 65 2 lv l2.length (wcells l2) * rlI m r F V size head full R)) (.slice (some ⟨bv_, ov_, none⟩) ps.length cv) ps.length (wcells qs) := hv.rd.right.right.right.right
    refine cd_dec (fun hlt2 => ?_) (fun hge2 => ?_)
    · have hlt2 : a < ps.length := by omega
      have hqa : qs[a]? = some (qs[a]'(by omega)) := List.getElem?_eq_getElem (by omega)
      have htk : qs.take (a + 1) = qs.take a ++ [qs[a]'(by omega)] := List.take_succ_eq_append_getElem (by omega)
      refine jn_cut (fun σ w => ∃ (lv : Value) (l2 : List (Int × Value)) (b : Bs), σ = [lv] ∧ b.length = 256 ∧ l2.length = qs.countP (fun q => decide (0 ≤ q.1 ∧ q.1 < (n : Int))) + (qs.take (a + 1)).countP (fun q => decide (0 ≤ q.1 ∧ q.1 = (n : Int))) ∧ (∀ y ∈ l2, y ∈ qs) ∧
        sat E w (pts q (.cells (b.map bv).toArray 5 (0, 0)) * (osl 65 2 lv l2.length (wcells l2) * rlI m r F V size head full R))) ?_ ?_
      · intro kk hk
        rw [o_index (by omega) (by omega)]
        simp only [Int.toNat_natCast, ↓o_nil, ↓o_field, ↓o_add, ↓o_sub, ↓o_mul, ↓o_lss, ↓o_leq, ↓o_gtr, ↓o_geq, ↓o_not, ↓o_pick, ↓o_eqInt, ↓o_neInt, ↓o_eqBool, ↓o_neBool, ↓o_eqPtr, ↓o_nePtr, ↓o_eqPtr', ↓o_eqSl, ↓o_neSl, ↓o_eqStr, ↓o_neStr, ↓o_len, ↓o_lenS, ↓o_min, ↓o_max, ↓o_extract, ↓o_convInt, ↓cd_true, ↓cd_false, ↓gate_tt, ↓gate_ff, ↓gate_tf, ↓gate_ft, ↓gate_undef, ↓o_bind, ↓stay_v, ↓pop_cons, ↓fin_nil, Option.isNone_none, Option.isNone_some, Bool.not_true, Bool.not_false, Nat.zero_add, decide_true, decide_false, if_true, if_false, Bool.false_eq_true, ↓reduceIte]
        refine ld_cell (pg_cells h hrd2 (show a < qs.length by omega)).1 ?_
        try simp only [↓o_nil, ↓o_field, ↓o_add, ↓o_sub, ↓o_mul, ↓o_lss, ↓o_leq, ↓o_gtr, ↓o_geq, ↓o_not, ↓o_pick, ↓o_eqInt, ↓o_neInt, ↓o_eqBool, ↓o_neBool, ↓o_eqPtr, ↓o_nePtr, ↓o_eqPtr', ↓o_eqSl, ↓o_neSl, ↓o_eqStr, ↓o_neStr, ↓o_len, ↓o_lenS, ↓o_min, ↓o_max, ↓o_extract, ↓o_convInt, ↓cd_true, ↓cd_false, ↓gate_tt, ↓gate_ff, ↓gate_tf, ↓gate_ft, ↓gate_undef, ↓o_bind, ↓stay_v, ↓pop_cons, ↓fin_nil, Option.isNone_none, Option.isNone_some, Bool.not_true, Bool.not_false, Nat.zero_add, decide_true, decide_false, if_true, if_false, Bool.false_eq_true, ↓reduceIte]
        by_cases he : (qs[a]'(by omega)).1 = (n : Int)
        · simp only [he, ↓o_nil, ↓o_field, ↓o_add, ↓o_sub, ↓o_mul, ↓o_lss, ↓o_leq, ↓o_gtr, ↓o_geq, ↓o_not, ↓o_pick, ↓o_eqInt, ↓o_neInt, ↓o_eqBool, ↓o_neBool, ↓o_eqPtr, ↓o_nePtr, ↓o_eqPtr', ↓o_eqSl, ↓o_neSl, ↓o_eqStr, ↓o_neStr, ↓o_len, ↓o_lenS, ↓o_min, ↓o_max, ↓o_extract, ↓o_convInt, ↓cd_true, ↓cd_false, ↓gate_tt, ↓gate_ff, ↓gate_tf, ↓gate_ft, ↓gate_undef, ↓o_bind, ↓stay_v, ↓pop_cons, ↓fin_nil, Option.isNone_none, Option.isNone_some, Bool.not_true, Bool.not_false, Nat.zero_add, decide_true, decide_false, if_true, if_false, Bool.false_eq_true, ↓reduceIte]
          have hcl : l2.length < 100 := by
            have h9 : (qs.take (a + 1)).countP (fun q => decide (0 ≤ q.1 ∧ q.1 = (n : Int))) = (qs.take a).countP (fun q => decide (0 ≤ q.1 ∧ q.1 = (n : Int))) + 1 := by
              rw [htk, List.countP_append]; simp [he]
            have h8 : (qs.take (a + 1)).countP (fun q => decide (0 ≤ q.1 ∧ q.1 = (n : Int))) ≤ qs.countP (fun q => decide (0 ≤ q.1 ∧ q.1 = (n : Int))) := List.Sublist.countP_le (List.take_sublist _ _)
            have h7 := hcnt (n + 1)
            rw [show ((n + 1 : Nat) : Int) = (n : Int) + 1 by omega, hsp] at h7
            omega
          obtain ⟨al, cl, rfl, _, _, _⟩ := osl_shape h.drop
          try simp only [↓o_nil, ↓o_field, ↓o_add, ↓o_sub, ↓o_mul, ↓o_lss, ↓o_leq, ↓o_gtr, ↓o_geq, ↓o_not, ↓o_pick, ↓o_eqInt, ↓o_neInt, ↓o_eqBool, ↓o_neBool, ↓o_eqPtr, ↓o_nePtr, ↓o_eqPtr', ↓o_eqSl, ↓o_neSl, ↓o_eqStr, ↓o_neStr, ↓o_len, ↓o_lenS, ↓o_min, ↓o_max, ↓o_extract, ↓o_convInt, ↓cd_true, ↓cd_false, ↓gate_tt, ↓gate_ff, ↓gate_tf, ↓gate_ft, ↓gate_undef, ↓o_bind, ↓stay_v, ↓pop_cons, ↓fin_nil, Option.isNone_none, Option.isNone_some, Bool.not_true, Bool.not_false, Nat.zero_add, decide_true, decide_false, if_true, if_false, Bool.false_eq_true, ↓reduceIte]
          rw [i64_of (n := 2 * (l2.length : Int)) (by omega) (by omega), i64_of (n := 2 + 2 * (l2.length : Int)) (by omega) (by omega), i64_of (n := 3 + 2 * (l2.length : Int)) (by omega) (by omega)]
          try rw [show (8 : Int) = ((8 : Nat) : Int) from rfl]
          rw [o_shr (by decide)]
          try simp only [↓o_nil, ↓o_field, ↓o_add, ↓o_sub, ↓o_mul, ↓o_lss, ↓o_leq, ↓o_gtr, ↓o_geq, ↓o_not, ↓o_pick, ↓o_eqInt, ↓o_neInt, ↓o_eqBool, ↓o_neBool, ↓o_eqPtr, ↓o_nePtr, ↓o_eqPtr', ↓o_eqSl, ↓o_neSl, ↓o_eqStr, ↓o_neStr, ↓o_len, ↓o_lenS, ↓o_min, ↓o_max, ↓o_extract, ↓o_convInt, ↓cd_true, ↓cd_false, ↓gate_tt, ↓gate_ff, ↓gate_tf, ↓gate_ft, ↓gate_undef, ↓o_bind, ↓stay_v, ↓pop_cons, ↓fin_nil, Option.isNone_none, Option.isNone_some, Bool.not_true, Bool.not_false, Nat.zero_add, decide_true, decide_false, if_true, if_false, Bool.false_eq_true, ↓reduceIte]
          rw [bv_of, bv_of, o_index (by omega) (by omega)]
          simp only [Nat.mul_one, Nat.zero_add]
          refine store_sl (b := q) h rfl (by rw [List.length_map]; omega) fun w h => ?_
          rw [o_index (by omega) (by omega)]
          simp only [Nat.mul_one, Nat.zero_add]
          refine store_sl (b := q) h rfl (by rw [List.length_set, List.length_map]; omega) fun w h => ?_
          rw [← List.map_set, ← List.map_set] at h
          generalize hb2 : (b.set _ _).set _ _ = b2 at h
          have hb2l : b2.length = 256 := by rw [← hb2, List.length_set, List.length_set]; exact hb
          have hrd3 : Rds (pts q (.cells (b2.map bv).toArray 5 (0, 0)) * (osl 65 2 (.slice al l2.length cl) l2.length (wcells l2) * rlI m r F V size head full R)) (.slice (some ⟨bv_, ov_, none⟩) ps.length cv) ps.length (wcells qs) := hv.rd.right.right.right.right
          try rw [o_index (by omega) (by omega)]
          try simp only [Int.toNat_natCast, ↓o_nil, ↓o_field, ↓o_add, ↓o_sub, ↓o_mul, ↓o_lss, ↓o_leq, ↓o_gtr, ↓o_geq, ↓o_not, ↓o_pick, ↓o_eqInt, ↓o_neInt, ↓o_eqBool, ↓o_neBool, ↓o_eqPtr, ↓o_nePtr, ↓o_eqPtr', ↓o_eqSl, ↓o_neSl, ↓o_eqStr, ↓o_neStr, ↓o_len, ↓o_lenS, ↓o_min, ↓o_max, ↓o_extract, ↓o_convInt, ↓cd_true, ↓cd_false, ↓gate_tt, ↓gate_ff, ↓gate_tf, ↓gate_ft, ↓gate_undef, ↓o_bind, ↓stay_v, ↓pop_cons, ↓fin_nil, Option.isNone_none, Option.isNone_some, Bool.not_true, Bool.not_false, Nat.zero_add, decide_true, decide_false, if_true, if_false, Bool.false_eq_true, ↓reduceIte]
          refine ld_el h hrd3 (a * 2) rfl [.int .i64 (qs[a]'(by omega)).1, (qs[a]'(by omega)).2] rfl (wcells_el hqa) ?_
          have hone : (qs[a]'(by omega)).2.oneCell' = true := by
            have hq2 := (hv.el hlt2 (show a < qs.length by omega)).2
            obtain ⟨_, _, e, _⟩ := hq2.shape (show sat E w R from h.drop.drop.drop.drop)
            rw [e]; rfl
          obtain ⟨aq, cq, nq, hqv⟩ : ∃ aq cq nq, (qs[a]'(by omega)).2 = .slice aq nq cq := by
            have hq2 := (hv.el hlt2 (show a < qs.length by omega)).2
            obtain ⟨_, _, e, _⟩ := hq2.shape (show sat E w R from h.drop.drop.drop.drop)
            exact ⟨_, _, _, e⟩
          rw [hqv]
          refine buildSlice_sl (e := 65) (cs := #[.int .i64 (qs[a]'(by omega)).1, .slice aq nq cq]) h (fun w => by kernel_rfl) fun b4 w h => ?_
          have h := h.owns (.slice al l2.length cl)
          refine append_sl h [.int .i64 (qs[a]'(by omega)).1, .slice aq nq cq] rfl (.inr ⟨b4, 0, _, 65, (0, 0), rfl, h.drop.pts_get, fun j u hj => by simpa using hj⟩) (by simp [Value.oneCell']) (by omega) (by omega) fun v2 w h => ?_
          refine hk _ w ⟨v2, l2 ++ [qs[a]'(by omega)], b2, rfl, hb2l, ?_, fun y hy => ?_, ?_⟩
          · rw [List.length_append, hl2, htk, List.countP_append]
            simp [he]; omega
          · rcases List.mem_append.1 hy with hy | hy
            · exact hmem y hy
            · simp at hy; rw [hy]; exact List.getElem_mem _
          · have e9 : wcells (l2 ++ [qs[a]'(by omega)]) = wcells l2 ++ [.int .i64 (qs[a]'(by omega)).1, .slice aq nq cq] := by
              rw [← hqv]; exact wcells_snoc l2 _ _
            rw [e9, List.length_append]
            exact (h.perm (show _ = pts b4 (.cells #[.int .i64 (qs[a]'(by omega)).1, .slice aq nq cq] 65 (0, 0)) * (pts q (.cells (b2.map bv).toArray 5 (0, 0)) * (osl 65 2 v2 (l2.length + 1) (wcells l2 ++ [.int .i64 (qs[a]'(by omega)).1, .slice aq nq cq]) * rlI m r F V size head full R)) by ac_rfl)).drop
        · simp only [he, ↓o_nil, ↓o_field, ↓o_add, ↓o_sub, ↓o_mul, ↓o_lss, ↓o_leq, ↓o_gtr, ↓o_geq, ↓o_not, ↓o_pick, ↓o_eqInt, ↓o_neInt, ↓o_eqBool, ↓o_neBool, ↓o_eqPtr, ↓o_nePtr, ↓o_eqPtr', ↓o_eqSl, ↓o_neSl, ↓o_eqStr, ↓o_neStr, ↓o_len, ↓o_lenS, ↓o_min, ↓o_max, ↓o_extract, ↓o_convInt, ↓cd_true, ↓cd_false, ↓gate_tt, ↓gate_ff, ↓gate_tf, ↓gate_ft, ↓gate_undef, ↓o_bind, ↓stay_v, ↓pop_cons, ↓fin_nil, Option.isNone_none, Option.isNone_some, Bool.not_true, Bool.not_false, Nat.zero_add, decide_true, decide_false, if_true, if_false, Bool.false_eq_true, ↓reduceIte]
          refine hk _ w ⟨lv, l2, b, rfl, hb, ?_, hmem, h⟩
          rw [hl2, htk, List.countP_append]
          simp [he]
      · rintro σ w ⟨lv, l2, b, rfl, hb, hl2, hmem, h⟩
        try simp only [↓o_nil, ↓o_field, ↓o_add, ↓o_sub, ↓o_mul, ↓o_lss, ↓o_leq, ↓o_gtr, ↓o_geq, ↓o_not, ↓o_pick, ↓o_eqInt, ↓o_neInt, ↓o_eqBool, ↓o_neBool, ↓o_eqPtr, ↓o_nePtr, ↓o_eqPtr', ↓o_eqSl, ↓o_neSl, ↓o_eqStr, ↓o_neStr, ↓o_len, ↓o_lenS, ↓o_min, ↓o_max, ↓o_extract, ↓o_convInt, ↓cd_true, ↓cd_false, ↓gate_tt, ↓gate_ff, ↓gate_tf, ↓gate_ft, ↓gate_undef, ↓o_bind, ↓stay_v, ↓pop_cons, ↓fin_nil, Option.isNone_none, Option.isNone_some, Bool.not_true, Bool.not_false, Nat.zero_add, decide_true, decide_false, if_true, if_false, Bool.false_eq_true, ↓reduceIte]
        rw [i64_of (by omega) (by omega)]
        exact hag2 (ps.length - (a + 1)) _ _ (by omega) ⟨a + 1, lv, l2, b, rfl, rfl, by omega, hb, hl2, hmem, h⟩
    · have : a = ps.length := by omega
      subst this
      rw [i64_of (by omega) (by omega)]
      refine hag (2000 - (n + 1)) _ _ (by omega) ⟨n + 1, lv, l2, b, rfl, rfl, by omega, hb, ?_, hmem, h⟩
      rw [hl2, ← hlen, List.take_length, show ((n + 1 : Nat) : Int) = (n : Int) + 1 by omega, hsp]
  · -- the blocks are written
    have hl2n : l2.length ≤ ps.length := by rw [hl2]; exact hcnt n
    unfold rlI rcells at h
    refine dr_sl h fun w h _ => ?_
    try simp only [↓o_nil, ↓o_field, ↓o_add, ↓o_sub, ↓o_mul, ↓o_lss, ↓o_leq, ↓o_gtr, ↓o_geq, ↓o_not, ↓o_pick, ↓o_eqInt, ↓o_neInt, ↓o_eqBool, ↓o_neBool, ↓o_eqPtr, ↓o_nePtr, ↓o_eqPtr', ↓o_eqSl, ↓o_neSl, ↓o_eqStr, ↓o_neStr, ↓o_len, ↓o_lenS, ↓o_min, ↓o_max, ↓o_extract, ↓o_convInt, ↓cd_true, ↓cd_false, ↓gate_tt, ↓gate_ff, ↓gate_tf, ↓gate_ft, ↓gate_undef, ↓o_bind, ↓stay_v, ↓pop_cons, ↓fin_nil, Option.isNone_none, Option.isNone_some, Bool.not_true, Bool.not_false, Nat.zero_add, decide_true, decide_false, if_true, if_false, Bool.false_eq_true, ↓reduceIte]
    refine ld_at h ?_
    refine ld_at h ?_
    try simp only [↓o_nil, ↓o_field, ↓o_add, ↓o_sub, ↓o_mul, ↓o_lss, ↓o_leq, ↓o_gtr, ↓o_geq, ↓o_not, ↓o_pick, ↓o_eqInt, ↓o_neInt, ↓o_eqBool, ↓o_neBool, ↓o_eqPtr, ↓o_nePtr, ↓o_eqPtr', ↓o_eqSl, ↓o_neSl, ↓o_eqStr, ↓o_neStr, ↓o_len, ↓o_lenS, ↓o_min, ↓o_max, ↓o_extract, ↓o_convInt, ↓cd_true, ↓cd_false, ↓gate_tt, ↓gate_ff, ↓gate_tf, ↓gate_ft, ↓gate_undef, ↓o_bind, ↓stay_v, ↓pop_cons, ↓fin_nil, Option.isNone_none, Option.isNone_some, Bool.not_true, Bool.not_false, Nat.zero_add, decide_true, decide_false, if_true, if_false, Bool.false_eq_true, ↓reduceIte]
    rw [i64_of (by omega) (by omega), show (full : Int) + 1 = ((full + 1 : Nat) : Int) by omega]
    obtain ⟨al, cl, rfl, _, _, _⟩ := osl_shape h.drop
    have h := osl_of (n := 256) (sz := 1) h (by rw [List.length_map, hb]) (by omega)
    refine rWrite_weak h i.wf (by omega) (l := b) (by omega) (by rw [hb]; exact Rds.own) fun y V1 w wf1 hV1 h => ?_
    refine st_at h ?_
    have h : sat E w (osl 65 2 (.slice al l2.length cl) l2.length (wcells l2) * rlI m r F V1 size head full R) := by
      unfold rlI rcells
      exact (h.perm (show _ = osl 5 1 (.slice (some ⟨q, 0, none⟩) 256 256) 256 (b.map bv) * (osl 65 2 (.slice al l2.length cl) l2.length (wcells l2) * (pts m (.cells [Value.pointer (some ⟨r, 0, none⟩), .int .i64 size, .int .i64 head, .int .i64 full].toArray 108 (0, 0)) * (rdsk r F V1 * R))) by ac_rfl)).drop
    have hwl2 := wcells_length l2
    refine lp_nat (fun x σ w => ∃ (a : Nat) (V' : List (Int × Bs)), σ = [.int .i64 a] ∧ x = l2.length - a ∧ a ≤ l2.length ∧ Wf F V' ∧ V'.length ≤ V.length + 1 + a ∧ sat E w (osl 65 2 (.slice al l2.length cl) l2.length (wcells l2) * rlI m r F V' size head full R)) l2.length ⟨0, V1, rfl, rfl, by omega, wf1, by omega, h⟩ ?_
    clear h hag
    rintro x σ w again ⟨a, V', rfl, rfl, ha, wf', hV', h⟩ hag
    try simp only [↓o_nil, ↓o_field, ↓o_add, ↓o_sub, ↓o_mul, ↓o_lss, ↓o_leq, ↓o_gtr, ↓o_geq, ↓o_not, ↓o_pick, ↓o_eqInt, ↓o_neInt, ↓o_eqBool, ↓o_neBool, ↓o_eqPtr, ↓o_nePtr, ↓o_eqPtr', ↓o_eqSl, ↓o_neSl, ↓o_eqStr, ↓o_neStr, ↓o_len, ↓o_lenS, ↓o_min, ↓o_max, ↓o_extract, ↓o_convInt, ↓cd_true, ↓cd_false, ↓gate_tt, ↓gate_ff, ↓gate_tf, ↓gate_ft, ↓gate_undef, ↓o_bind, ↓stay_v, ↓pop_cons, ↓fin_nil, Option.isNone_none, Option.isNone_some, Bool.not_true, Bool.not_false, Nat.zero_add, decide_true, decide_false, if_true, if_false, Bool.false_eq_true, ↓reduceIte]
    refine cd_dec (fun hlt => ?_) (fun hge => ?_)
    · have hlt : a < l2.length := by omega
      have hrdl : ∀ {Y : HP}, Rds (osl 65 2 (.slice al l2.length cl) l2.length (wcells l2) * Y) (.slice al l2.length cl) l2.length (wcells l2) := Rds.osl.left
      obtain ⟨b5, o5, rfl, _⟩ := win_cell ((hrdl).win h) (j := a * 2) (by omega)
      refine dr_sl h fun w h _ => ?_
      try simp only [↓o_nil, ↓o_field, ↓o_add, ↓o_sub, ↓o_mul, ↓o_lss, ↓o_leq, ↓o_gtr, ↓o_geq, ↓o_not, ↓o_pick, ↓o_eqInt, ↓o_neInt, ↓o_eqBool, ↓o_neBool, ↓o_eqPtr, ↓o_nePtr, ↓o_eqPtr', ↓o_eqSl, ↓o_neSl, ↓o_eqStr, ↓o_neStr, ↓o_len, ↓o_lenS, ↓o_min, ↓o_max, ↓o_extract, ↓o_convInt, ↓cd_true, ↓cd_false, ↓gate_tt, ↓gate_ff, ↓gate_tf, ↓gate_ft, ↓gate_undef, ↓o_bind, ↓stay_v, ↓pop_cons, ↓fin_nil, Option.isNone_none, Option.isNone_some, Bool.not_true, Bool.not_false, Nat.zero_add, decide_true, decide_false, if_true, if_false, Bool.false_eq_true, ↓reduceIte]
      rw [o_index (by omega) (by omega)]
      simp only [Int.toNat_natCast, ↓o_nil, ↓o_field, ↓o_add, ↓o_sub, ↓o_mul, ↓o_lss, ↓o_leq, ↓o_gtr, ↓o_geq, ↓o_not, ↓o_pick, ↓o_eqInt, ↓o_neInt, ↓o_eqBool, ↓o_neBool, ↓o_eqPtr, ↓o_nePtr, ↓o_eqPtr', ↓o_eqSl, ↓o_neSl, ↓o_eqStr, ↓o_neStr, ↓o_len, ↓o_lenS, ↓o_min, ↓o_max, ↓o_extract, ↓o_convInt, ↓cd_true, ↓cd_false, ↓gate_tt, ↓gate_ff, ↓gate_tf, ↓gate_ft, ↓gate_undef, ↓o_bind, ↓stay_v, ↓pop_cons, ↓fin_nil, Option.isNone_none, Option.isNone_some, Bool.not_true, Bool.not_false, Nat.zero_add, decide_true, decide_false, if_true, if_false, Bool.false_eq_true, ↓reduceIte]
      have hcc := (pg_cells h hrdl hlt).2
      unfold rlI rcells at h
      refine ld_at h ?_
      refine ld_at h ?_
      try simp only [↓o_nil, ↓o_field, ↓o_add, ↓o_sub, ↓o_mul, ↓o_lss, ↓o_leq, ↓o_gtr, ↓o_geq, ↓o_not, ↓o_pick, ↓o_eqInt, ↓o_neInt, ↓o_eqBool, ↓o_neBool, ↓o_eqPtr, ↓o_nePtr, ↓o_eqPtr', ↓o_eqSl, ↓o_neSl, ↓o_eqStr, ↓o_neStr, ↓o_len, ↓o_lenS, ↓o_min, ↓o_max, ↓o_extract, ↓o_convInt, ↓cd_true, ↓cd_false, ↓gate_tt, ↓gate_ff, ↓gate_tf, ↓gate_ft, ↓gate_undef, ↓o_bind, ↓stay_v, ↓pop_cons, ↓fin_nil, Option.isNone_none, Option.isNone_some, Bool.not_true, Bool.not_false, Nat.zero_add, decide_true, decide_false, if_true, if_false, Bool.false_eq_true, ↓reduceIte]
      rw [i64_of (n := (full : Int) + 2) (by omega) (by omega), i64_of (by omega) (by omega), show (full : Int) + 2 + (a : Int) = ((full + 2 + a : Nat) : Int) by omega]
      refine ld_cell hcc ?_
      obtain ⟨j2, hj2, ej2⟩ := List.mem_iff_getElem.1 (hmem _ (List.getElem_mem hlt))
      have hq2 := (hv.el (show j2 < ps.length by omega) hj2).2
      rw [ej2] at hq2
      have h256 : (ps[j2]'(by omega)).2.length = 256 := hf.2 _ (List.getElem_mem _)
      refine rWrite_weak (R := osl 65 2 (.slice (some ⟨b5, o5, none⟩) l2.length cl) l2.length (wcells l2) * (pts m (.cells (rcells r size head full).toArray 108 (0, 0)) * R)) (s := ⟨by unfold rcells; ac_rfl⟩) h wf' (by omega) (l := (ps[j2]'(by omega)).2) (by omega) hq2.right.right fun y V2 w wf2 hV2 h => ?_
      unfold rcells at h
      refine st_at h ?_
      try simp only [↓o_nil, ↓o_field, ↓o_add, ↓o_sub, ↓o_mul, ↓o_lss, ↓o_leq, ↓o_gtr, ↓o_geq, ↓o_not, ↓o_pick, ↓o_eqInt, ↓o_neInt, ↓o_eqBool, ↓o_neBool, ↓o_eqPtr, ↓o_nePtr, ↓o_eqPtr', ↓o_eqSl, ↓o_neSl, ↓o_eqStr, ↓o_neStr, ↓o_len, ↓o_lenS, ↓o_min, ↓o_max, ↓o_extract, ↓o_convInt, ↓cd_true, ↓cd_false, ↓gate_tt, ↓gate_ff, ↓gate_tf, ↓gate_ft, ↓gate_undef, ↓o_bind, ↓stay_v, ↓pop_cons, ↓fin_nil, Option.isNone_none, Option.isNone_some, Bool.not_true, Bool.not_false, Nat.zero_add, decide_true, decide_false, if_true, if_false, Bool.false_eq_true, ↓reduceIte]
      rw [i64_of (by omega) (by omega)]
      refine hag (l2.length - (a + 1)) _ _ (by omega) ⟨a + 1, V2, rfl, rfl, by omega, wf2, by omega, ?_⟩
      unfold rlI rcells
      exact h.perm (by ac_rfl)
    · have h := h.drop
      unfold rlI rcells at h
      refine dr_sl h fun w h _ => ?_
      try simp only [↓o_nil, ↓o_field, ↓o_add, ↓o_sub, ↓o_mul, ↓o_lss, ↓o_leq, ↓o_gtr, ↓o_geq, ↓o_not, ↓o_pick, ↓o_eqInt, ↓o_neInt, ↓o_eqBool, ↓o_neBool, ↓o_eqPtr, ↓o_nePtr, ↓o_eqPtr', ↓o_eqSl, ↓o_neSl, ↓o_eqStr, ↓o_neStr, ↓o_len, ↓o_lenS, ↓o_min, ↓o_max, ↓o_extract, ↓o_convInt, ↓cd_true, ↓cd_false, ↓gate_tt, ↓gate_ff, ↓gate_tf, ↓gate_ft, ↓gate_undef, ↓o_bind, ↓stay_v, ↓pop_cons, ↓fin_nil, Option.isNone_none, Option.isNone_some, Bool.not_true, Bool.not_false, Nat.zero_add, decide_true, decide_false, if_true, if_false, Bool.false_eq_true, ↓reduceIte]
      refine ld_at h ?_
      refine rNeed_spec ?_
      rw [if_neg (by omega)]
      refine st_at h ?_
      try simp only [↓o_nil, ↓o_field, ↓o_add, ↓o_sub, ↓o_mul, ↓o_lss, ↓o_leq, ↓o_gtr, ↓o_geq, ↓o_not, ↓o_pick, ↓o_eqInt, ↓o_neInt, ↓o_eqBool, ↓o_neBool, ↓o_eqPtr, ↓o_nePtr, ↓o_eqPtr', ↓o_eqSl, ↓o_neSl, ↓o_eqStr, ↓o_neStr, ↓o_len, ↓o_lenS, ↓o_min, ↓o_max, ↓o_extract, ↓o_convInt, ↓cd_true, ↓cd_false, ↓gate_tt, ↓gate_ff, ↓gate_tf, ↓gate_ft, ↓gate_undef, ↓o_bind, ↓stay_v, ↓pop_cons, ↓fin_nil, Option.isNone_none, Option.isNone_some, Bool.not_true, Bool.not_false, Nat.zero_add, decide_true, decide_false, if_true, if_false, Bool.false_eq_true, ↓reduceIte]
      rw [i64_of (n := (full : Int) + ((ps.length : Int) + 1)) (by omega) (by omega)]
      refine store_at h rfl (by simp) fun w h => ?_
      refine ld_at h ?_
      try simp only [↓o_nil, ↓o_field, ↓o_add, ↓o_sub, ↓o_mul, ↓o_lss, ↓o_leq, ↓o_gtr, ↓o_geq, ↓o_not, ↓o_pick, ↓o_eqInt, ↓o_neInt, ↓o_eqBool, ↓o_neBool, ↓o_eqPtr, ↓o_nePtr, ↓o_eqPtr', ↓o_eqSl, ↓o_neSl, ↓o_eqStr, ↓o_neStr, ↓o_len, ↓o_lenS, ↓o_min, ↓o_max, ↓o_extract, ↓o_convInt, ↓cd_true, ↓cd_false, ↓gate_tt, ↓gate_ff, ↓gate_tf, ↓gate_ft, ↓gate_undef, ↓o_bind, ↓stay_v, ↓pop_cons, ↓fin_nil, Option.isNone_none, Option.isNone_some, Bool.not_true, Bool.not_false, Nat.zero_add, decide_true, decide_false, if_true, if_false, Bool.false_eq_true, ↓reduceIte]
      rw [i64_of (n := (head : Int) + 1) (by omega) (by omega)]
      refine store_at h rfl (by simp) fun w h => ?_
      refine rHead_weak (E := E) (m := m) (r := r) (size := size) (head := head + 1) (full := full + (ps.length + 1)) (F := F) (V := V') (R := R) ?_ wf' (by omega) fun V2 w wf2 hV2 h => ?_
      · unfold rlI rcells
        rw [show ((head + 1 : Nat) : Int) = (head : Int) + 1 by omega, show ((full + (ps.length + 1) : Nat) : Int) = (full : Int) + ((ps.length : Int) + 1) by omega]
        exact h
      · exact k V2 (head + 1) _ w ⟨wf2, i.s2, i.sz, by omega⟩ (by omega) (by omega) rfl h
end Go.Proofs.YtgkeplodfkmnlaaGreat

/-
  Rows of bytes compared.
-/
set_option linter.all false
set_option maxRecDepth 100000
namespace Go.Proofs.YtgkeplodfkmnlaaGreat
open Go Hold
variable {E : World0} {w : World} {H R : HP} {K : Value → World → Prop}
/-- SameBytes. -/
theorem SameBytes_spec (h : sat E w H) {v u : Value} {l m : List UInt8} (hv : Rds H v l.length (l.map bv)) (hu : Rds H u m.length (m.map bv)) (hl : l.length ≤ 140737488355328)
    (k : ∀ w', sat E w' H → K (.bool (decide (l = m))) w') : Calls prog 39 #[v, u] w (Ret K) := by
  obtain ⟨a, c, rfl, hc, hv, ha⟩ := hv.shape h
  obtain ⟨a', c', rfl, hc', hu, ha'⟩ := hu.shape h
  refine c39 ?_
  unfold B39
  simp only [↓o_nil, ↓o_field, ↓o_add, ↓o_sub, ↓o_mul, ↓o_lss, ↓o_leq, ↓o_gtr, ↓o_geq, ↓o_not, ↓o_pick, ↓o_eqInt, ↓o_neInt, ↓o_eqBool, ↓o_neBool, ↓o_eqPtr, ↓o_nePtr, ↓o_eqPtr', ↓o_eqSl, ↓o_neSl, ↓o_eqStr, ↓o_neStr, ↓o_len, ↓o_lenS, ↓o_min, ↓o_max, ↓o_extract, ↓o_convInt, ↓cd_true, ↓cd_false, ↓gate_tt, ↓gate_ff, ↓gate_tf, ↓gate_ft, ↓gate_undef, ↓o_bind, ↓stay_v, ↓pop_cons, ↓fin_nil, Option.isNone_none, Option.isNone_some, Bool.not_true, Bool.not_false, Nat.zero_add, decide_true, decide_false, if_true, if_false, Bool.false_eq_true, ↓reduceIte]
  refine cd_dec' (fun he => ?_) (fun hne => ?_)
  · have he : l.length = m.length := by omega
    refine lp_nat (fun n σ w => ∃ i : Nat, σ = [.int .i64 i] ∧ n = l.length - i ∧ i ≤ l.length ∧ l.take i = m.take i ∧ sat E w H) l.length ⟨0, rfl, rfl, by omega, rfl, h⟩ ?_
    rintro n σ w again ⟨i, rfl, rfl, hi, heq, h⟩ hag
    simp only [↓o_nil, ↓o_field, ↓o_add, ↓o_sub, ↓o_mul, ↓o_lss, ↓o_leq, ↓o_gtr, ↓o_geq, ↓o_not, ↓o_pick, ↓o_eqInt, ↓o_neInt, ↓o_eqBool, ↓o_neBool, ↓o_eqPtr, ↓o_nePtr, ↓o_eqPtr', ↓o_eqSl, ↓o_neSl, ↓o_eqStr, ↓o_neStr, ↓o_len, ↓o_lenS, ↓o_min, ↓o_max, ↓o_extract, ↓o_convInt, ↓cd_true, ↓cd_false, ↓gate_tt, ↓gate_ff, ↓gate_tf, ↓gate_ft, ↓gate_undef, ↓o_bind, ↓stay_v, ↓pop_cons, ↓fin_nil, Option.isNone_none, Option.isNone_some, Bool.not_true, Bool.not_false, Nat.zero_add, decide_true, decide_false, if_true, if_false, Bool.false_eq_true, ↓reduceIte]
    refine cd_dec (fun hlt => ?_) (fun hge => ?_)
    · have hlt : i < l.length := by simpa using hlt
      refine dr_sl h fun w h _ => ?_
      obtain ⟨b, o, rfl, hb⟩ := win_cell (hv.win h) (j := i) (by simpa using hlt)
      obtain ⟨b', o', rfl, hb'⟩ := win_cell (hu.win h) (j := i) (by simp; omega)
      rw [o_index (by omega) (by omega), o_index (by omega) (by omega)]
      simp only [Int.toNat_natCast, Nat.mul_one]
      refine ld_cell hb ?_
      refine ld_cell hb' ?_
      simp only [List.getElem_map, bv, ↓o_nil, ↓o_field, ↓o_add, ↓o_sub, ↓o_mul, ↓o_lss, ↓o_leq, ↓o_gtr, ↓o_geq, ↓o_not, ↓o_pick, ↓o_eqInt, ↓o_neInt, ↓o_eqBool, ↓o_neBool, ↓o_eqPtr, ↓o_nePtr, ↓o_eqPtr', ↓o_eqSl, ↓o_neSl, ↓o_eqStr, ↓o_neStr, ↓o_len, ↓o_lenS, ↓o_min, ↓o_max, ↓o_extract, ↓o_convInt, ↓cd_true, ↓cd_false, ↓gate_tt, ↓gate_ff, ↓gate_tf, ↓gate_ft, ↓gate_undef, ↓o_bind, ↓stay_v, ↓pop_cons, ↓fin_nil, Option.isNone_none, Option.isNone_some, Bool.not_true, Bool.not_false, Nat.zero_add, decide_true, decide_false, if_true, if_false, Bool.false_eq_true, ↓reduceIte]
      refine cd_dec' (fun hx => ?_) (fun hx => ?_)
      · rw [i64_of (by omega) (by omega)]
        have hx' : l[i] = m[i] := UInt8.toNat_inj.1 (by omega)
        refine hag (l.length - (i + 1)) _ _ (by omega) ⟨i + 1, rfl, rfl, by omega, ?_, h⟩
        rw [List.take_succ_eq_append_getElem hlt, List.take_succ_eq_append_getElem (by omega), heq, hx']
      · have : ¬ l = m := by rintro rfl; exact hx rfl
        have := k w h
        simpa [*] using this
    · have hge : i = l.length := by omega
      subst hge
      have : l = m := by rw [List.take_length] at heq; rw [heq]; rw [he]; simp
      have hk := k w h
      simpa [this] using hk
  · have : ¬ l = m := by rintro rfl; exact hne rfl
    have hk := k w h
    simpa [this] using hk
theorem SameAll_spec (h : sat E w H) {v u : Value} {L M : List (List UInt8)} (hv : Rdd H v L) (hu : Rdd H u M) (hL : L.length ≤ 1000000) (hl : ∀ l ∈ L, l.length ≤ 140737488355328) (k : ∀ w', sat E w' H → K (.bool (decide (L = M))) w') :
    Calls prog 15 #[v, u] w (Ret K) := by
  obtain ⟨vs, hv, hvl, hva⟩ := hv
  obtain ⟨us, hu, hul, hua⟩ := hu
  obtain ⟨a, c, rfl, hc, hv, _⟩ := hv.shape h
  obtain ⟨a', c', rfl, hc', hu, _⟩ := hu.shape h
  refine c15 ?_
  unfold B15
  simp only [↓o_nil, ↓o_field, ↓o_add, ↓o_sub, ↓o_mul, ↓o_lss, ↓o_leq, ↓o_gtr, ↓o_geq, ↓o_not, ↓o_pick, ↓o_eqInt, ↓o_neInt, ↓o_eqBool, ↓o_neBool, ↓o_eqPtr, ↓o_nePtr, ↓o_eqPtr', ↓o_eqSl, ↓o_neSl, ↓o_eqStr, ↓o_neStr, ↓o_len, ↓o_lenS, ↓o_min, ↓o_max, ↓o_extract, ↓o_convInt, ↓cd_true, ↓cd_false, ↓gate_tt, ↓gate_ff, ↓gate_tf, ↓gate_ft, ↓gate_undef, ↓o_bind, ↓stay_v, ↓pop_cons, ↓fin_nil, Option.isNone_none, Option.isNone_some, Bool.not_true, Bool.not_false, Nat.zero_add, decide_true, decide_false, if_true, if_false, Bool.false_eq_true, ↓reduceIte]
  refine cd_dec' (fun he => ?_) (fun hne => ?_)
  · have he : L.length = M.length := by omega
    refine lp_nat (fun n σ w => ∃ i : Nat, σ = [.int .i64 i] ∧ n = L.length - i ∧ i ≤ L.length ∧ L.take i = M.take i ∧ sat E w H) L.length ⟨0, rfl, rfl, by omega, rfl, h⟩ ?_
    rintro n σ w again ⟨i, rfl, rfl, hi, heq, h⟩ hag
    simp only [↓o_nil, ↓o_field, ↓o_add, ↓o_sub, ↓o_mul, ↓o_lss, ↓o_leq, ↓o_gtr, ↓o_geq, ↓o_not, ↓o_pick, ↓o_eqInt, ↓o_neInt, ↓o_eqBool, ↓o_neBool, ↓o_eqPtr, ↓o_nePtr, ↓o_eqPtr', ↓o_eqSl, ↓o_neSl, ↓o_eqStr, ↓o_neStr, ↓o_len, ↓o_lenS, ↓o_min, ↓o_max, ↓o_extract, ↓o_convInt, ↓cd_true, ↓cd_false, ↓gate_tt, ↓gate_ff, ↓gate_tf, ↓gate_ft, ↓gate_undef, ↓o_bind, ↓stay_v, ↓pop_cons, ↓fin_nil, Option.isNone_none, Option.isNone_some, Bool.not_true, Bool.not_false, Nat.zero_add, decide_true, decide_false, if_true, if_false, Bool.false_eq_true, ↓reduceIte]
    refine cd_dec (fun hlt => ?_) (fun hge => ?_)
    · have hlt : i < L.length := by omega
      refine dr_sl h fun w h _ => ?_
      obtain ⟨b1, o1, rfl, hb1⟩ := win_cell (hv.win h) (j := i) (by omega)
      obtain ⟨b2, o2, rfl, hb2⟩ := win_cell (hu.win h) (j := i) (by omega)
      rw [o_index (by omega) (by omega)]
      simp only [Int.toNat_natCast, Nat.mul_one]
      rw [o_index (by omega) (by omega)]
      simp only [Int.toNat_natCast, Nat.mul_one]
      refine ld_cell hb1 ?_
      refine ld_cell hb2 ?_
      refine SameBytes_spec h (hva i vs[i] L[i] (List.getElem?_eq_getElem (by omega)) (List.getElem?_eq_getElem hlt)) (hua i us[i] M[i] (List.getElem?_eq_getElem (by omega)) (List.getElem?_eq_getElem (by omega))) (hl _ (List.getElem_mem _)) fun w h => ?_
      simp only [↓o_nil, ↓o_field, ↓o_add, ↓o_sub, ↓o_mul, ↓o_lss, ↓o_leq, ↓o_gtr, ↓o_geq, ↓o_not, ↓o_pick, ↓o_eqInt, ↓o_neInt, ↓o_eqBool, ↓o_neBool, ↓o_eqPtr, ↓o_nePtr, ↓o_eqPtr', ↓o_eqSl, ↓o_neSl, ↓o_eqStr, ↓o_neStr, ↓o_len, ↓o_lenS, ↓o_min, ↓o_max, ↓o_extract, ↓o_convInt, ↓cd_true, ↓cd_false, ↓gate_tt, ↓gate_ff, ↓gate_tf, ↓gate_ft, ↓gate_undef, ↓o_bind, ↓stay_v, ↓pop_cons, ↓fin_nil, Option.isNone_none, Option.isNone_some, Bool.not_true, Bool.not_false, Nat.zero_add, decide_true, decide_false, if_true, if_false, Bool.false_eq_true, ↓reduceIte]
      refine cd_dec' (fun he2 => ?_) (fun hne => ?_)
      · rw [i64_of (by omega) (by omega)]
        refine hag _ _ _ (by omega) ⟨i + 1, rfl, rfl, by omega, ?_, h⟩
        rw [List.take_succ_eq_append_getElem hlt, List.take_succ_eq_append_getElem (by omega), heq, he2]
      · have : L ≠ M := by rintro rfl; exact hne rfl
        have := k w h
        simpa [*] using this
    · have : L = M := by
        have hi2 : i = L.length := by omega
        rw [hi2, List.take_length, he, List.take_length] at heq
        exact heq
      subst this
      simpa using k w h
  · have : L ≠ M := by rintro rfl; exact hne rfl
    simpa [this] using k w h
end Go.Proofs.YtgkeplodfkmnlaaGreat
