/-
  AuditTells: the walk.
-/
import Derived.Test.YtjeiojibnmfibaaGreatDoorNumOrd
import Derived.Test.YtjeiojibnmfibaaGreatDoorAudU
import Derived.Test.YtjeiojibnmfibaaGreatDoorAudL
set_option linter.all false
set_option maxRecDepth 100000
namespace Go.Proofs.YtjeiojibnmfibaaGreatDoor.Tells
open Go Hold Go.ChangeShapes Go.WideShapes Go.ChangeAt Go.RowKit
variable {E : World0} {w : World} {H R : HP} {K : Value → World → Prop}
section
variable {W : World} {H : Type} {enc : TypeId × Value → H} {r : Reach} {b0 : Nat} {v : Value} {d : DataW H} {p : List MemPlace}
theorem open_deed (hv : Value.okWide prog W r b0 24 v) (h : DataW.Trod enc prog W 0 (fun _ => true) true 24 v d p) (_hw : ∀ n ∈ d.weights prog 24, n ≤ 140737488351232) : ∃ x : Deed, v = .agg (dcells x).toArray := by
  obtain ⟨_, _, _, _, _, hu, _⟩ := flds30
  obtain ⟨cs, rfl, _⟩ := okWide_struct hu hv
  obtain ⟨fuel, hf⟩ := h
  obtain ⟨x, e⟩ := deed_of hf
  simp only [Value.cells] at e
  exact ⟨x, by rw [← e]⟩
end
/-- One event says something else. -/
def chg (s : Ch) (j : Nat) (y : Evt) : Ch := { s with l := s.l.set j y }
theorem chg_ok {s : Ch} {m j : Nat} {y : Evt} (ok : Ok s m) : Ok (chg s j y) m := by
  have e : (chg s j y).l.length = s.l.length := by simp [chg]
  exact ⟨ok.b, ok.a, ok.h, ok.b0, ok.a0, by rw [e]; exact ok.le, by rw [e]; exact ok.top, by rw [e]; exact ok.few⟩
theorem chg_get {s : Ch} {j : Nat} {x y : Evt} (hx : s.l[j]? = some x) {i : Nat} {z : Evt} (h : (chg s j y).l[i]? = some z) : (i = j ∧ z = y) ∨ (i ≠ j ∧ s.l[i]? = some z) := by
  unfold chg at h
  simp only [List.getElem?_set] at h
  by_cases e : j = i
  · subst e
    have hj := (List.getElem?_eq_some_iff.1 hx).1
    rw [if_pos rfl, if_pos hj] at h
    exact .inl ⟨rfl, (Option.some.inj h).symm⟩
  · rw [if_neg e] at h
    exact .inr ⟨fun e2 => e e2.symm, h⟩
theorem chg_risen {s : Ch} {j : Nat} {x y : Evt} (rn : Risen s) (hx : s.l[j]? = some x) (hn : y.n = x.n) (ht : y.t = x.t) : Risen (chg s j y) := by
  refine ⟨fun i z hz => ?_, fun i a b ha hb => ?_⟩
  · rcases chg_get hx hz with ⟨rfl, rfl⟩ | ⟨_, h⟩
    · rw [hn, ht]; exact rn.num _ _ hx
    · exact rn.num _ _ h
  · rcases chg_get hx ha with ⟨e1, e2⟩ | ⟨_, h1⟩ <;> rcases chg_get hx hb with ⟨e3, e4⟩ | ⟨_, h2⟩
    · omega
    · rw [e2, ht]; subst e1; exact rn.up _ _ _ hx h2
    · rw [e4, ht]; subst e3; exact rn.up _ _ _ h1 hx
    · exact rn.up _ _ _ h1 h2
theorem chg_small {s : Ch} {j : Nat} {x y : Evt} (sm : Small s) (hx : s.l[j]? = some x) (ht : y.t = x.t) (h1 : y.what.length ≤ 12) (h2 : y.who.length ≤ 30) : Small (chg s j y) := by
  refine ⟨sm.l0, sm.l1, fun z hz => ?_⟩
  obtain ⟨i, hi, rfl⟩ := List.mem_iff_getElem.1 hz
  rcases chg_get hx (List.getElem?_eq_getElem hi) with ⟨_, e⟩ | ⟨_, h⟩
  · rw [e]; exact ⟨by rw [ht]; exact (sm.ev x (List.mem_of_getElem? hx)).1, h1, h2⟩
  · exact sm.ev _ (List.mem_of_getElem? h)
theorem rvs_set {l : List RV} {i : Nat} (hi : i < l.length) (y : RV) (sp : List Value) : (rvs l ++ sp).take (i * 2) ++ rvc y ++ (rvs l ++ sp).drop (i * 2 + 2) = rvs (l.set i y) ++ sp := by
  have e : rvs l = rvs (l.take i) ++ (rvc l[i] ++ rvs (l.drop (i + 1))) := by
    have e := congrArg rvs (List.take_append_drop i l)
    rw [List.drop_eq_getElem_cons hi, rvs_append] at e
    rw [← e]
    unfold rvs
    rw [List.flatMap_cons]
  refine part_put (rvs (l.take i)) (rvc l[i]) (rvs (l.drop (i + 1)) ++ sp) (rvc y) (by rw [e]; simp only [List.append_assoc]) (by rw [rvs_length, List.length_take]; omega) rfl ?_
  rw [List.set_eq_take_append_cons_drop, if_pos hi]
  simp [rvs]
theorem said_set {l : List RV} {s : Ch} {j : Nat} {x y : Evt} {u : Value} (hs : l.map RV.said = rowsOf s) (hx : s.l[j]? = some x) (hn : y.n = x.n) (ht : y.t = x.t) : (l.set (4 + j) ⟨110 :: numT x.n, u, [numT x.t, y.what, y.who]⟩).map RV.said = rowsOf (chg s j y) := by
  rw [List.map_set, hs]
  unfold rowsOf
  rw [List.set_append_right _ _ (by simp [heads])]
  show heads s ++ _ = heads s ++ _
  congr 1
  rw [show 4 + j - (heads s).length = j by simp [heads]]
  show _ = (s.l.set j y).map evRow
  rw [List.map_set]
  congr 1
  simp only [evRow, RV.said, hn, ht]
theorem Tells_spec (h : sat E w H) (hd : Dbt H) {v : Value} (l : List Deed) (hl : Rds H v l.length (l.flatMap dcells)) (ml : l.length ≤ 9223372036854775807) (n8 : UInt8) (x : Deed)
    (k : ∀ w', sat E w' H → K (.bool true) w') : Calls prog 3 #[v, bv n8, .agg (dcells x).toArray] w (Ret K) := by
  obtain ⟨va, vc, rfl, hvc, hl, _⟩ := hl.shape h
  refine c3 ?_
  unfold B3
  refine box_sl h fun xb w h => ?_
  have h : sat E w (pts xb (.cells (dcells x).toArray 24 (0, 0)) * H) := h
  have hd := hd.up (H0 := pts xb (.cells (dcells x).toArray 24 (0, 0)) * H)
  refine New_spec h fun p w h => ?_
  refine RNew_spec h fun q w h => ?_
  have h := swapRI h
  refine live_spec h hd.up fun w h => ?_
  simp only [↓o_not, Bool.not_true, ↓cd_false]
  refine lp_nat (fun r σ w => ∃ (i : Nat) (s : Ch) (v1 v2 : Value), σ = [.int .i64 (i : Int)] ∧ r = 60 - i ∧ i ≤ 60 ∧ Ok s i ∧ Risen s ∧ Small s ∧ sat E w (chI p s v1 (chR q s v2 (pts xb (.cells (dcells x).toArray 24 (0, 0)) * H)))) 60
    ⟨0, newS, _, _, rfl, rfl, by omega, ok_new, inv_new, small_new, h⟩ ?_
  clear h
  rintro r σ w again ⟨i, s, v1, v2, rfl, rfl, hi, ok, rn, sm, h⟩ hag
  rw [pop_cons, fin_nil, o_len, two_tests]
  refine cd_dec (fun hlt => ?_) (fun hge => ?_)
  · obtain ⟨hlt1, hlt2⟩ := hlt
    have hi2 : i < l.length := by omega
    have h0 : sat E w H := by unfold chI chR at h; exact h.drop.drop.drop.drop.drop
    obtain ⟨b, o, c', e, hc', hrd⟩ := hl.opened h0 (by rw [fm_length (k := 5) (fun _ => rfl)]; omega)
    cases e
    rw [o_index (by omega) (by omega)]
    refine ld_el h (Rds.under hrd) (i * 5) (by simp) (dcells l[i]) rfl (deeds_at (List.getElem?_eq_getElem hi2)) ?_
    refine do_spec ok (by omega) hd.up h fun v' u' w h => ?_
    rw [o_add, i64_of (by omega) (by omega)]
    exact hag (60 - (i + 1)) _ _ (by omega) ⟨i + 1, doS s l[i], v', u', rfl, rfl, by omega, ok_do ok, inv_do rn, small_do sm, h⟩
  clear hag
  have hfew := ok.few
  refine RRows_spec ok (by omega) rn (swapIR h) fun u rows w hs h => ?_
  have hlen : rows.length = 4 + s.l.length := by
    have := congrArg List.length hs
    simp [rowsOf, heads] at this
    omega
  have hend : ∀ {w : World} {X Y : HP}, sat E w (X * (Y * chR q s v2 (chI p s v1 (pts xb (.cells (dcells x).toArray 24 (0, 0)) * H)))) → sat E w H := fun h => by unfold chI chR at h; exact h.drop.drop.drop.drop.drop.drop.drop
  obtain ⟨ua, uc, rfl, huc, _, hpos⟩ := osl_shape h
  obtain ⟨ub, rfl⟩ := hpos (by omega)
  try simp only [↓o_nil, ↓o_field, ↓o_add, ↓o_sub, ↓o_mul, ↓o_lss, ↓o_leq, ↓o_gtr, ↓o_geq, ↓o_not, ↓o_pick, ↓o_eqInt, ↓o_neInt, ↓o_eqBool, ↓o_neBool, ↓o_eqPtr, ↓o_nePtr, ↓o_eqPtr', ↓o_eqSl, ↓o_neSl, ↓o_eqStr, ↓o_neStr, ↓o_len, ↓o_lenS, ↓o_min, ↓o_max, ↓o_extract, ↓o_convInt, ↓cd_true, ↓cd_false, ↓gate_tt, ↓gate_ff, ↓gate_tf, ↓gate_ft, ↓gate_undef, ↓o_bind, ↓stay_v, ↓pop_cons, ↓fin_nil, Option.isNone_none, Option.isNone_some, Bool.not_true, Bool.not_false, Nat.zero_add, decide_true, decide_false, if_true, if_false, Bool.false_eq_true, ↓reduceIte]
  by_cases h5 : (rows.length : Int) < 5
  · simp only [decide_eq_true h5, ↓o_nil, ↓o_field, ↓o_add, ↓o_sub, ↓o_mul, ↓o_lss, ↓o_leq, ↓o_gtr, ↓o_geq, ↓o_not, ↓o_pick, ↓o_eqInt, ↓o_neInt, ↓o_eqBool, ↓o_neBool, ↓o_eqPtr, ↓o_nePtr, ↓o_eqPtr', ↓o_eqSl, ↓o_neSl, ↓o_eqStr, ↓o_neStr, ↓o_len, ↓o_lenS, ↓o_min, ↓o_max, ↓o_extract, ↓o_convInt, ↓cd_true, ↓cd_false, ↓gate_tt, ↓gate_ff, ↓gate_tf, ↓gate_ft, ↓gate_undef, ↓o_bind, ↓stay_v, ↓pop_cons, ↓fin_nil, Option.isNone_none, Option.isNone_some, Bool.not_true, Bool.not_false, Nat.zero_add, decide_true, decide_false, if_true, if_false, Bool.false_eq_true, ↓reduceIte]
    exact k w (hend h)
  simp only [decide_eq_false h5, ↓o_nil, ↓o_field, ↓o_add, ↓o_sub, ↓o_mul, ↓o_lss, ↓o_leq, ↓o_gtr, ↓o_geq, ↓o_not, ↓o_pick, ↓o_eqInt, ↓o_neInt, ↓o_eqBool, ↓o_neBool, ↓o_eqPtr, ↓o_nePtr, ↓o_eqPtr', ↓o_eqSl, ↓o_neSl, ↓o_eqStr, ↓o_neStr, ↓o_len, ↓o_lenS, ↓o_min, ↓o_max, ↓o_extract, ↓o_convInt, ↓cd_true, ↓cd_false, ↓gate_tt, ↓gate_ff, ↓gate_tf, ↓gate_ft, ↓gate_undef, ↓o_bind, ↓stay_v, ↓pop_cons, ↓fin_nil, Option.isNone_none, Option.isNone_some, Bool.not_true, Bool.not_false, Nat.zero_add, decide_true, decide_false, if_true, if_false, Bool.false_eq_true, ↓reduceIte]
  refine ld_in (b := xb) (v := tv x.what) h rfl ?_
  simp only [↓o_lenT, ↓o_nil, ↓o_field, ↓o_add, ↓o_sub, ↓o_mul, ↓o_lss, ↓o_leq, ↓o_gtr, ↓o_geq, ↓o_not, ↓o_pick, ↓o_eqInt, ↓o_neInt, ↓o_eqBool, ↓o_neBool, ↓o_eqPtr, ↓o_nePtr, ↓o_eqPtr', ↓o_eqSl, ↓o_neSl, ↓o_eqStr, ↓o_neStr, ↓o_len, ↓o_lenS, ↓o_min, ↓o_max, ↓o_extract, ↓o_convInt, ↓cd_true, ↓cd_false, ↓gate_tt, ↓gate_ff, ↓gate_tf, ↓gate_ft, ↓gate_undef, ↓o_bind, ↓stay_v, ↓pop_cons, ↓fin_nil, Option.isNone_none, Option.isNone_some, Bool.not_true, Bool.not_false, Nat.zero_add, decide_true, decide_false, if_true, if_false, Bool.false_eq_true, ↓reduceIte]
  by_cases h12 : (12 : Int) < (x.what.length : Int)
  · simp only [decide_eq_true h12, ↓o_nil, ↓o_field, ↓o_add, ↓o_sub, ↓o_mul, ↓o_lss, ↓o_leq, ↓o_gtr, ↓o_geq, ↓o_not, ↓o_pick, ↓o_eqInt, ↓o_neInt, ↓o_eqBool, ↓o_neBool, ↓o_eqPtr, ↓o_nePtr, ↓o_eqPtr', ↓o_eqSl, ↓o_neSl, ↓o_eqStr, ↓o_neStr, ↓o_len, ↓o_lenS, ↓o_min, ↓o_max, ↓o_extract, ↓o_convInt, ↓cd_true, ↓cd_false, ↓gate_tt, ↓gate_ff, ↓gate_tf, ↓gate_ft, ↓gate_undef, ↓o_bind, ↓stay_v, ↓pop_cons, ↓fin_nil, Option.isNone_none, Option.isNone_some, Bool.not_true, Bool.not_false, Nat.zero_add, decide_true, decide_false, if_true, if_false, Bool.false_eq_true, ↓reduceIte]
    exact k w (hend h)
  simp only [decide_eq_false h12, ↓o_nil, ↓o_field, ↓o_add, ↓o_sub, ↓o_mul, ↓o_lss, ↓o_leq, ↓o_gtr, ↓o_geq, ↓o_not, ↓o_pick, ↓o_eqInt, ↓o_neInt, ↓o_eqBool, ↓o_neBool, ↓o_eqPtr, ↓o_nePtr, ↓o_eqPtr', ↓o_eqSl, ↓o_neSl, ↓o_eqStr, ↓o_neStr, ↓o_len, ↓o_lenS, ↓o_min, ↓o_max, ↓o_extract, ↓o_convInt, ↓cd_true, ↓cd_false, ↓gate_tt, ↓gate_ff, ↓gate_tf, ↓gate_ft, ↓gate_undef, ↓o_bind, ↓stay_v, ↓pop_cons, ↓fin_nil, Option.isNone_none, Option.isNone_some, Bool.not_true, Bool.not_false, Nat.zero_add, decide_true, decide_false, if_true, if_false, Bool.false_eq_true, ↓reduceIte]
  refine ld_in (b := xb) (v := tv x.who) h rfl ?_
  simp only [↓o_lenT, ↓o_nil, ↓o_field, ↓o_add, ↓o_sub, ↓o_mul, ↓o_lss, ↓o_leq, ↓o_gtr, ↓o_geq, ↓o_not, ↓o_pick, ↓o_eqInt, ↓o_neInt, ↓o_eqBool, ↓o_neBool, ↓o_eqPtr, ↓o_nePtr, ↓o_eqPtr', ↓o_eqSl, ↓o_neSl, ↓o_eqStr, ↓o_neStr, ↓o_len, ↓o_lenS, ↓o_min, ↓o_max, ↓o_extract, ↓o_convInt, ↓cd_true, ↓cd_false, ↓gate_tt, ↓gate_ff, ↓gate_tf, ↓gate_ft, ↓gate_undef, ↓o_bind, ↓stay_v, ↓pop_cons, ↓fin_nil, Option.isNone_none, Option.isNone_some, Bool.not_true, Bool.not_false, Nat.zero_add, decide_true, decide_false, if_true, if_false, Bool.false_eq_true, ↓reduceIte]
  by_cases h30 : (30 : Int) < (x.who.length : Int)
  · simp only [decide_eq_true h30, ↓o_nil, ↓o_field, ↓o_add, ↓o_sub, ↓o_mul, ↓o_lss, ↓o_leq, ↓o_gtr, ↓o_geq, ↓o_not, ↓o_pick, ↓o_eqInt, ↓o_neInt, ↓o_eqBool, ↓o_neBool, ↓o_eqPtr, ↓o_nePtr, ↓o_eqPtr', ↓o_eqSl, ↓o_neSl, ↓o_eqStr, ↓o_neStr, ↓o_len, ↓o_lenS, ↓o_min, ↓o_max, ↓o_extract, ↓o_convInt, ↓cd_true, ↓cd_false, ↓gate_tt, ↓gate_ff, ↓gate_tf, ↓gate_ft, ↓gate_undef, ↓o_bind, ↓stay_v, ↓pop_cons, ↓fin_nil, Option.isNone_none, Option.isNone_some, Bool.not_true, Bool.not_false, Nat.zero_add, decide_true, decide_false, if_true, if_false, Bool.false_eq_true, ↓reduceIte]
    exact k w (hend h)
  simp only [decide_eq_false h30, bv, ↓o_nil, ↓o_field, ↓o_add, ↓o_sub, ↓o_mul, ↓o_lss, ↓o_leq, ↓o_gtr, ↓o_geq, ↓o_not, ↓o_pick, ↓o_eqInt, ↓o_neInt, ↓o_eqBool, ↓o_neBool, ↓o_eqPtr, ↓o_nePtr, ↓o_eqPtr', ↓o_eqSl, ↓o_neSl, ↓o_eqStr, ↓o_neStr, ↓o_len, ↓o_lenS, ↓o_min, ↓o_max, ↓o_extract, ↓o_convInt, ↓cd_true, ↓cd_false, ↓gate_tt, ↓gate_ff, ↓gate_tf, ↓gate_ft, ↓gate_undef, ↓o_bind, ↓stay_v, ↓pop_cons, ↓fin_nil, Option.isNone_none, Option.isNone_some, Bool.not_true, Bool.not_false, Nat.zero_add, decide_true, decide_false, if_true, if_false, Bool.false_eq_true, ↓reduceIte]
  have hx8 := n8.toNat_lt
  rw [i64_of (n := (n8.toNat : Int)) (by omega) (by omega), i64_of (n := (rows.length : Int) - 4) (by omega) (by omega), o_rem (by omega)]
  have hmod : ((n8.toNat : Nat) : Int).tmod ((rows.length : Int) - 4) = ((n8.toNat % s.l.length : Nat) : Int) := by
    rw [show (rows.length : Int) - 4 = ((s.l.length : Nat) : Int) by omega, Int.tmod_eq_emod_of_nonneg (by omega)]; omega
  rw [hmod]
  have hj : n8.toNat % s.l.length < s.l.length := Nat.mod_lt _ (by omega)
  generalize n8.toNat % s.l.length = j at hj
  try simp only [↓o_nil, ↓o_field, ↓o_add, ↓o_sub, ↓o_mul, ↓o_lss, ↓o_leq, ↓o_gtr, ↓o_geq, ↓o_not, ↓o_pick, ↓o_eqInt, ↓o_neInt, ↓o_eqBool, ↓o_neBool, ↓o_eqPtr, ↓o_nePtr, ↓o_eqPtr', ↓o_eqSl, ↓o_neSl, ↓o_eqStr, ↓o_neStr, ↓o_len, ↓o_lenS, ↓o_min, ↓o_max, ↓o_extract, ↓o_convInt, ↓cd_true, ↓cd_false, ↓gate_tt, ↓gate_ff, ↓gate_tf, ↓gate_ft, ↓gate_undef, ↓o_bind, ↓stay_v, ↓pop_cons, ↓fin_nil, Option.isNone_none, Option.isNone_some, Bool.not_true, Bool.not_false, Nat.zero_add, decide_true, decide_false, if_true, if_false, Bool.false_eq_true, ↓reduceIte]
  rw [i64_of (by omega) (by omega), show (4 : Int) + (j : Int) = ((4 + j : Nat) : Int) by omega]
  have hx : s.l[j]? = some s.l[j] := List.getElem?_eq_getElem hj
  generalize s.l[j] = y at hx
  obtain ⟨z, hz, zs⟩ := said_row hs (i := 4 + j) (y := evRow y) (by
    unfold rowsOf
    rw [List.getElem?_append_right (by simp [heads]), show 4 + j - (heads s).length = j by simp [heads], List.getElem?_map, hx]
    rfl)
  obtain ⟨kz, vz, cz⟩ := z
  simp only [RV.said, evRow, Prod.mk.injEq] at zs
  obtain ⟨rfl, rfl⟩ := zs
  have hi4 : 4 + j < rows.length := by omega
  have ix : ∀ {w : World} {K : Value → World → Prop}, pvv prog (Instr.indexAt 31 (.slice (some ⟨ub, 0, none⟩) rows.length uc) (.int .i64 ((4 + j : Nat) : Int))) w K = K (.pointer (some ⟨ub, 0 + (4 + j) * 2, none⟩)) w := fun {w K} => by
    rw [o_index (by omega) (by omega), Int.toNat_natCast]
  refine dr_sl h fun w h _ => ?_
  simp only [ix, ↓o_nil, ↓o_field, ↓o_add, ↓o_sub, ↓o_mul, ↓o_lss, ↓o_leq, ↓o_gtr, ↓o_geq, ↓o_not, ↓o_pick, ↓o_eqInt, ↓o_neInt, ↓o_eqBool, ↓o_neBool, ↓o_eqPtr, ↓o_nePtr, ↓o_eqPtr', ↓o_eqSl, ↓o_neSl, ↓o_eqStr, ↓o_neStr, ↓o_len, ↓o_lenS, ↓o_min, ↓o_max, ↓o_extract, ↓o_convInt, ↓cd_true, ↓cd_false, ↓gate_tt, ↓gate_ff, ↓gate_tf, ↓gate_ft, ↓gate_undef, ↓o_bind, ↓stay_v, ↓pop_cons, ↓fin_nil, Option.isNone_none, Option.isNone_some, Bool.not_true, Bool.not_false, Nat.zero_add, decide_true, decide_false, if_true, if_false, Bool.false_eq_true, ↓reduceIte]
  have hcell : ∀ {i f : Nat} {x : RV} {val : Value}, rows[i]? = some x → (rvc x)[f]? = some val → (rvs rows)[i * 2 + f]? = some val := fun hx hf => take_cell (rvs_at hx) hf
  have hcol : Rds (pers (colsP rows)) vz 3 [tv (numT y.t), tv y.what, tv y.who] := fun E w hs => (hs.whole).pers_get _ (List.mem_of_getElem? hz)
  refine ld_rd h Rds.osl.left ((4 + j) * 2 + 0) (by omega) (hcell hz rfl) ?_
  refine ld_rd h Rds.osl.left ((4 + j) * 2 + 1) (by omega) (hcell hz rfl) ?_
  have hcol2 : Rds (osl 35 2 (.slice (some ⟨ub, 0, none⟩) rows.length uc) rows.length (rvs rows) * (pers (colsP rows) * chR q s v2 (chI p s v1 (pts xb (.cells (dcells x).toArray 24 (0, 0)) * H)))) vz 3 [tv (numT y.t), tv y.what, tv y.who] := hcol.left.right
  obtain ⟨zb, zo, zc, rfl, hzc, hzv⟩ := hcol2.opened h (by simp)
  rw [o_index (by decide) (by decide)]
  try simp only [↓o_nil, ↓o_field, ↓o_add, ↓o_sub, ↓o_mul, ↓o_lss, ↓o_leq, ↓o_gtr, ↓o_geq, ↓o_not, ↓o_pick, ↓o_eqInt, ↓o_neInt, ↓o_eqBool, ↓o_neBool, ↓o_eqPtr, ↓o_nePtr, ↓o_eqPtr', ↓o_eqSl, ↓o_neSl, ↓o_eqStr, ↓o_neStr, ↓o_len, ↓o_lenS, ↓o_min, ↓o_max, ↓o_extract, ↓o_convInt, ↓cd_true, ↓cd_false, ↓gate_tt, ↓gate_ff, ↓gate_tf, ↓gate_ft, ↓gate_undef, ↓o_bind, ↓stay_v, ↓pop_cons, ↓fin_nil, Option.isNone_none, Option.isNone_some, Bool.not_true, Bool.not_false, Nat.zero_add, decide_true, decide_false, if_true, if_false, Bool.false_eq_true, ↓reduceIte]
  refine ld_rd h hzv 0 rfl (v := tv (numT y.t)) rfl ?_
  refine ld_in (b := xb) (v := tv x.what) h rfl ?_
  refine ld_in (b := xb) (v := tv x.who) h rfl ?_
  refine buildSlice_sl (e := 9) (cs := #[tv (numT y.t), tv x.what, tv x.who]) h (fun w => by kernel_rfl) fun b5 w h => ?_
  try simp only [stay_v]
  refine st_rd h Rds.osl.left.right ((4 + j) * 2 + 1) (by omega) (hcell hz rfl) (st_rd h Rds.osl.left.right ((4 + j) * 2 + 0) (by omega) (hcell hz rfl) ?_)
  refine pvv_of (v := .agg (rvc ⟨110 :: numT y.n, .slice (some ⟨b5, 0, none⟩) 3 3, [numT y.t, x.what, x.who]⟩).toArray) (fun w => by kernel_rfl) ?_
  try simp only [ix, ↓o_nil, ↓o_field, ↓o_add, ↓o_sub, ↓o_mul, ↓o_lss, ↓o_leq, ↓o_gtr, ↓o_geq, ↓o_not, ↓o_pick, ↓o_eqInt, ↓o_neInt, ↓o_eqBool, ↓o_neBool, ↓o_eqPtr, ↓o_nePtr, ↓o_eqPtr', ↓o_eqSl, ↓o_neSl, ↓o_eqStr, ↓o_neStr, ↓o_len, ↓o_lenS, ↓o_min, ↓o_max, ↓o_extract, ↓o_convInt, ↓cd_true, ↓cd_false, ↓gate_tt, ↓gate_ff, ↓gate_tf, ↓gate_ft, ↓gate_undef, ↓o_bind, ↓stay_v, ↓pop_cons, ↓fin_nil, Option.isNone_none, Option.isNone_some, Bool.not_true, Bool.not_false, Nat.zero_add, decide_true, decide_false, if_true, if_false, Bool.false_eq_true, ↓reduceIte]
  have h := osl_of (n := 3) (sz := 1) (xs := [tv (numT y.t), tv x.what, tv x.who]) h rfl (by omega)
  have h := osl_freeze h
  have h := h.perm (show _ = osl 35 2 (.slice (some ⟨ub, 0, none⟩) rows.length uc) rows.length (rvs rows) * (pers (immS (.slice (some ⟨b5, 0, none⟩) 3 3) 3 [tv (numT y.t), tv x.what, tv x.who]) * (pers (colsP rows) * chR q s v2 (chI p s v1 (pts xb (.cells (dcells x).toArray 24 (0, 0)) * H)))) by ac_rfl)
  obtain ⟨b7, c7, sp, e7, _, _, hP, hcl⟩ := osl_open h (by omega)
  cases e7
  refine store_part (b := ub) hP (rvs (rows.set (4 + j) ⟨110 :: numT y.n, .slice (some ⟨b5, 0, none⟩) 3 3, [numT y.t, x.what, x.who]⟩) ++ sp) (vs := rvc ⟨110 :: numT y.n, .slice (some ⟨b5, 0, none⟩) 3 3, [numT y.t, x.what, x.who]⟩) rfl (by intro z hz; simp [rvc] at hz; rcases hz with rfl | rfl <;> rfl) (by rw [List.length_append, rvs_length]; show (4 + j) * 2 + 2 ≤ _; omega) (rvs_set hi4 _ sp) fun w h => ?_
  have h := hcl (by rw [rvs_length, rvs_length, List.length_set]) h
  have h := sat_imp2 h (immS (.slice (some ⟨b5, 0, none⟩) 3 3) 3 [tv (numT y.t), tv x.what, tv x.who]) (colsP rows) (χ := colsP (rows.set (4 + j) ⟨110 :: numT y.n, .slice (some ⟨b5, 0, none⟩) 3 3, [numT y.t, x.what, x.who]⟩)) fun I h1 h2 z hz => by
    rcases List.mem_or_eq_of_mem_set hz with hz | rfl
    · exact h2 z hz
    · exact h1
  have hs' := said_set (u := .slice (some ⟨b5, 0, none⟩) 3 3) (y := ⟨y.n, y.t, x.what, x.who⟩) hs hx rfl rfl
  have ok' : Ok (chg s j ⟨y.n, y.t, x.what, x.who⟩) i := chg_ok ok
  have rn' : Risen (chg s j ⟨y.n, y.t, x.what, x.who⟩) := chg_risen rn hx rfl rfl
  have sm' : Small (chg s j ⟨y.n, y.t, x.what, x.who⟩) := chg_small sm hx rfl (by simp only; omega) (by simp only; omega)
  have hhd : (chg s j ⟨y.n, y.t, x.what, x.who⟩).hd = s.hd := rfl
  generalize chg s j ⟨y.n, y.t, x.what, x.who⟩ = s' at hs' ok' rn' sm' hhd
  have hl' : (rows.set (4 + j) ⟨110 :: numT y.n, .slice (some ⟨b5, 0, none⟩) 3 3, [numT y.t, x.what, x.who]⟩).length = rows.length := by rw [List.length_set]
  generalize rows.set (4 + j) ⟨110 :: numT y.n, .slice (some ⟨b5, 0, none⟩) 3 3, [numT y.t, x.what, x.who]⟩ = rows' at h hs' hl'
  rw [← hl'] at h ⊢
  have h := h.perm (show _ = osl 35 2 (.slice (some ⟨ub, 0, none⟩) rows'.length uc) rows'.length (rvs rows') * (pers (colsP rows') * chR q s v2 (chI p s v1 (pts xb (.cells (dcells x).toArray 24 (0, 0)) * H))) by ac_rfl)
  have hdc : Dbt (chR q s v2 (chI p s v1 (pts xb (.cells (dcells x).toArray 24 (0, 0)) * H))) := hd.up
  refine Load_spec ok' (by omega) sm' rn' hdc hs' h fun d v3 w h => ?_
  try simp only [↓o_nil, ↓o_field, ↓o_add, ↓o_sub, ↓o_mul, ↓o_lss, ↓o_leq, ↓o_gtr, ↓o_geq, ↓o_not, ↓o_pick, ↓o_eqInt, ↓o_neInt, ↓o_eqBool, ↓o_neBool, ↓o_eqPtr, ↓o_nePtr, ↓o_eqPtr', ↓o_eqSl, ↓o_neSl, ↓o_eqStr, ↓o_neStr, ↓o_len, ↓o_lenS, ↓o_min, ↓o_max, ↓o_extract, ↓o_convInt, ↓cd_true, ↓cd_false, ↓gate_tt, ↓gate_ff, ↓gate_tf, ↓gate_ft, ↓gate_undef, ↓o_bind, ↓stay_v, ↓pop_cons, ↓fin_nil, Option.isNone_none, Option.isNone_some, Bool.not_true, Bool.not_false, Nat.zero_add, decide_true, decide_false, if_true, if_false, Bool.false_eq_true, ↓reduceIte]
  refine RLoad_spec ok' (by omega) sm' rn' hs' h (Rds.osl.left.right.right) (fun z hz => by
    have hc : Rds (pers (colsP rows')) z.v z.cols.length (z.cols.map tv) := fun E w hs => (hs.whole).pers_get _ hz
    exact hc.left.right.right.right) fun r v4 w h => ?_
  simp only [show decide ((0 : Int) = 0) = true from rfl, ↓o_nil, ↓o_field, ↓o_add, ↓o_sub, ↓o_mul, ↓o_lss, ↓o_leq, ↓o_gtr, ↓o_geq, ↓o_not, ↓o_pick, ↓o_eqInt, ↓o_neInt, ↓o_eqBool, ↓o_neBool, ↓o_eqPtr, ↓o_nePtr, ↓o_eqPtr', ↓o_eqSl, ↓o_neSl, ↓o_eqStr, ↓o_neStr, ↓o_len, ↓o_lenS, ↓o_min, ↓o_max, ↓o_extract, ↓o_convInt, ↓cd_true, ↓cd_false, ↓gate_tt, ↓gate_ff, ↓gate_tf, ↓gate_ft, ↓gate_undef, ↓o_bind, ↓stay_v, ↓pop_cons, ↓fin_nil, Option.isNone_none, Option.isNone_some, Bool.not_true, Bool.not_false, Nat.zero_add, decide_true, decide_false, if_true, if_false, Bool.false_eq_true, ↓reduceIte]
  have hend2 : ∀ {w : World}, sat E w (chR r s' v4 (chI d s' v3 (osl 35 2 (.slice (some ⟨ub, 0, none⟩) rows'.length uc) rows'.length (rvs rows') * (pers (colsP rows') * chR q s v2 (chI p s v1 (pts xb (.cells (dcells x).toArray 24 (0, 0)) * H)))))) → sat E w H := fun h => by
    unfold chR chI at h
    exact h.drop.drop.drop.drop.drop.drop.drop.drop.drop.drop.drop
  refine REvents_spec ok' h fun u3 w h => ?_
  obtain ⟨a3, c3, rfl, _, _, _⟩ := osl_shape h
  try simp only [↓o_nil, ↓o_field, ↓o_add, ↓o_sub, ↓o_mul, ↓o_lss, ↓o_leq, ↓o_gtr, ↓o_geq, ↓o_not, ↓o_pick, ↓o_eqInt, ↓o_neInt, ↓o_eqBool, ↓o_neBool, ↓o_eqPtr, ↓o_nePtr, ↓o_eqPtr', ↓o_eqSl, ↓o_neSl, ↓o_eqStr, ↓o_neStr, ↓o_len, ↓o_lenS, ↓o_min, ↓o_max, ↓o_extract, ↓o_convInt, ↓cd_true, ↓cd_false, ↓gate_tt, ↓gate_ff, ↓gate_tf, ↓gate_ft, ↓gate_undef, ↓o_bind, ↓stay_v, ↓pop_cons, ↓fin_nil, Option.isNone_none, Option.isNone_some, Bool.not_true, Bool.not_false, Nat.zero_add, decide_true, decide_false, if_true, if_false, Bool.false_eq_true, ↓reduceIte]
  have h := h.drop
  refine At_spec ok' (Nat.le_refl _) h fun w h => ?_
  rw [List.take_length]
  refine RHead_spec (p := r) ok' h fun w h => ?_
  rw [eq36 (links_length _ ok'.b) ok'.h]
  have hdI : Dbt (osl 35 2 (.slice (some ⟨ub, 0, none⟩) rows'.length uc) rows'.length (rvs rows') * (pers (colsP rows') * chR q s v2 (chI p s v1 (pts xb (.cells (dcells x).toArray 24 (0, 0)) * H)))) := hdc.up
  have hdR : Dbt (chR r s' v4 (osl 35 2 (.slice (some ⟨ub, 0, none⟩) rows'.length uc) rows'.length (rvs rows') * (pers (colsP rows') * chR q s v2 (chI p s v1 (pts xb (.cells (dcells x).toArray 24 (0, 0)) * H))))) := hdI.up
  by_cases hk : links s'.bh s'.l = s'.hd
  · rw [show (links s'.bh s'.l == s'.hd) = true by simpa using hk, cd_true]
    refine Verify_spec ok' (by omega) hdR (swapRI h) fun w h => ?_
    refine RVerify_spec ok' (by omega) (swapIR h) fun w h => ?_
    try simp only [↓o_nil, ↓o_field, ↓o_add, ↓o_sub, ↓o_mul, ↓o_lss, ↓o_leq, ↓o_gtr, ↓o_geq, ↓o_not, ↓o_pick, ↓o_eqInt, ↓o_neInt, ↓o_eqBool, ↓o_neBool, ↓o_eqPtr, ↓o_nePtr, ↓o_eqPtr', ↓o_eqSl, ↓o_neSl, ↓o_eqStr, ↓o_neStr, ↓o_len, ↓o_lenS, ↓o_min, ↓o_max, ↓o_extract, ↓o_convInt, ↓cd_true, ↓cd_false, ↓gate_tt, ↓gate_ff, ↓gate_tf, ↓gate_ft, ↓gate_undef, ↓o_bind, ↓stay_v, ↓pop_cons, ↓fin_nil, Option.isNone_none, Option.isNone_some, Bool.not_true, Bool.not_false, Nat.zero_add, decide_true, decide_false, if_true, if_false, Bool.false_eq_true, ↓reduceIte]
    try rw [decide_eq_true rfl]
    exact k w (hend2 h)
  · rw [show (links s'.bh s'.l == s'.hd) = false by simpa using hk, cd_false]
    refine Verify_spec ok' (by omega) hdR (swapRI h) fun w h => ?_
    have hv : verifyS s' = 15 := by unfold verifyS; rw [if_pos (.inr hk)]
    rw [hv]
    simp only [show decide ((15 : Int) = 15) = true from rfl, ↓o_nil, ↓o_field, ↓o_add, ↓o_sub, ↓o_mul, ↓o_lss, ↓o_leq, ↓o_gtr, ↓o_geq, ↓o_not, ↓o_pick, ↓o_eqInt, ↓o_neInt, ↓o_eqBool, ↓o_neBool, ↓o_eqPtr, ↓o_nePtr, ↓o_eqPtr', ↓o_eqSl, ↓o_neSl, ↓o_eqStr, ↓o_neStr, ↓o_len, ↓o_lenS, ↓o_min, ↓o_max, ↓o_extract, ↓o_convInt, ↓cd_true, ↓cd_false, ↓gate_tt, ↓gate_ff, ↓gate_tf, ↓gate_ft, ↓gate_undef, ↓o_bind, ↓stay_v, ↓pop_cons, ↓fin_nil, Option.isNone_none, Option.isNone_some, Bool.not_true, Bool.not_false, Nat.zero_add, decide_true, decide_false, if_true, if_false, Bool.false_eq_true, ↓reduceIte]
    refine Head_spec (p := d) ok' h fun w h => ?_
    refine Head_spec (p := p) ok h fun w h => ?_
    rw [hhd]
    simp only [↓eq36 ok.h ok.h, ↓o_nil, ↓o_field, ↓o_add, ↓o_sub, ↓o_mul, ↓o_lss, ↓o_leq, ↓o_gtr, ↓o_geq, ↓o_not, ↓o_pick, ↓o_eqInt, ↓o_neInt, ↓o_eqBool, ↓o_neBool, ↓o_eqPtr, ↓o_nePtr, ↓o_eqPtr', ↓o_eqSl, ↓o_neSl, ↓o_eqStr, ↓o_neStr, ↓o_len, ↓o_lenS, ↓o_min, ↓o_max, ↓o_extract, ↓o_convInt, ↓cd_true, ↓cd_false, ↓gate_tt, ↓gate_ff, ↓gate_tf, ↓gate_ft, ↓gate_undef, ↓o_bind, ↓stay_v, ↓pop_cons, ↓fin_nil, Option.isNone_none, Option.isNone_some, Bool.not_true, Bool.not_false, Nat.zero_add, decide_true, decide_false, if_true, if_false, Bool.false_eq_true, ↓reduceIte]
    rw [show (s.hd == s.hd) = true by simp]
    exact k w (hend2 (swapIR h))
end Go.Proofs.YtjeiojibnmfibaaGreatDoor.Tells
