/-
  The reference's deeds, as far as that they answer.
-/
import Derived.Test.YtbcimkjgpplcpaaGreatDoorNamesR
set_option linter.all false
set_option maxRecDepth 100000
namespace Go.Proofs.YtbcimkjgpplcpaaGreatDoor.T
open Go Hold
variable {E : World0} {w : World} {H R X : HP} {K : Value → World → Prop}
theorem RAccess_spec {q : Nat} {s : Rs} {vf vt : Value} {id now : Int} {m : Nat} (fw : Few s m) (hm : m ≤ 900000) (h : sat E w (rI q s vf vt R))
    (k : ∀ x e w', sat E w' (rI q s vf vt R) → K (.tuple #[kv x, .int .i64 e]) w') : Calls prog 25 #[.pointer (some ⟨q, 0, none⟩), .int .i64 id, .int .i64 now] w (Ret K) := by
  have := fw.t
  obtain ⟨ua, uc, rfl, huc, hu, _⟩ := (rds_t (s := s)).shape h
  refine c25 ?_
  unfold B25
  refine tok_new h fun r w h => ?_
  refine Rtime_spec (s := s) (vf := vf) (vt := .slice ua s.t.length uc) h fun e => ?_
  have out : ∀ (w : World) (e : Int), sat E w (pts r (.cells (kcells zeroK).toArray 49 (0, 0)) * rI q s vf (.slice ua s.t.length uc) R) →
      pvv prog (Instr.build 49 #[]) w fun t_3 w =>
      efu prog (Instr.storeAt 49 (.pointer (some ⟨r, 0, none⟩)) t_3) w fun u_4 w =>
      ∃ r_5, (do loadVar 49 (← asAddr (.pointer (some ⟨r, 0, none⟩)))).run prog w = .ok r_5 w ∧ K (.tuple #[r_5, .int .i64 e]) w := by
    intro w e h
    refine zeroK_build ?_
    exact tok_ret (b := r) (x := zeroK) (y := zeroK) h fun w h => k _ _ w h.drop
  rw [o_neInt]
  refine cd_any (out w e h) ?_
  have go : ∀ w, sat E w (pts r (.cells (kcells zeroK).toArray 49 (0, 0)) * rI q s vf (.slice ua s.t.length uc) R) → lp (fun σ w again_18 => pop σ fun i_17 σ => fin σ <|
    pv prog (oNil (.pointer (some ⟨q, 0, none⟩))) w fun t_19 w =>
    pvv prog (Instr.fieldAt 69 t_19 4) w fun t_20 w =>
    ldv prog (Instr.loadAt 41 t_20) w fun t_21 w =>
    pv prog (oBi .len #[41] 3 #[false] #[t_21]) w fun t_22 w =>
    pvv prog (binOp .lss 3 i_17 t_22) w fun t_23 w =>
    cd t_23 (
      pv prog (oNil (.pointer (some ⟨q, 0, none⟩))) w fun t_24 w =>
      pvv prog (Instr.fieldAt 69 t_24 4) w fun t_25 w =>
      ldv prog (Instr.loadAt 41 t_25) w fun t_26 w =>
      pvv prog (Instr.indexAt 41 t_26 i_17) w fun t_27 w =>
      pvv prog (Instr.fieldAt 49 t_27 0) w fun t_28 w =>
      ldv prog (Instr.loadAt 3 t_28) w fun t_29 w =>
      pvv prog (oEq .eql 3 (.tmp 44) (.tmp 45) t_29 (.int .i64 id)) w fun t_30 w =>
      gate (some (t_30, true)) (fun K => K (.int .i64 now) w) w fun t_31 w =>
      gate (some (t_30, true)) (fun K => K (.pointer (some ⟨q, 0, none⟩)) w) w fun t_32 w =>
      gate (some (t_30, true)) (fun K => pv prog (oNil t_32) w K) w fun t_33 w =>
      gate (some (t_30, true)) (fun K => pvv prog (Instr.fieldAt 69 t_33 4) w K) w fun t_34 w =>
      gate (some (t_30, true)) (fun K => ldv prog (Instr.loadAt 41 t_34) w K) w fun t_35 w =>
      gate (some (t_30, true)) (fun K => K i_17 w) w fun t_36 w =>
      gate (some (t_30, true)) (fun K => pvv prog (Instr.indexAt 41 t_35 t_36) w K) w fun t_37 w =>
      gate (some (t_30, true)) (fun K => pvv prog (Instr.fieldAt 49 t_37 3) w K) w fun t_38 w =>
      gate (some (t_30, true)) (fun K => ldv prog (Instr.loadAt 3 t_38) w K) w fun t_39 w =>
      gate (some (t_30, true)) (fun K => pvv prog (binOp .lss 3 t_31 t_39) w K) w fun t_40 w =>
      pv prog (oPick t_30 t_40 (.bool false)) w fun t_41 w =>
      cd t_41 (
        pv prog (oNil (.pointer (some ⟨q, 0, none⟩))) w fun t_42 w =>
        pvv prog (Instr.fieldAt 69 t_42 4) w fun t_43 w =>
        ldv prog (Instr.loadAt 41 t_43) w fun t_44 w =>
        pvv prog (Instr.indexAt 41 t_44 i_17) w fun t_45 w =>
        ldv prog (Instr.loadAt 49 t_45) w fun t_46 w =>
        efu prog (Instr.storeAt 49 (.pointer (some ⟨r, 0, none⟩)) t_46) w fun u_47 w =>
        ∃ r_48, (do loadVar 49 (← asAddr (.pointer (some ⟨r, 0, none⟩)))).run prog w = .ok r_48 w ∧ K (.tuple #[r_48, (.int .i64 0)]) w) <|
      pvv prog (binOp .add 3 i_17 (.int .i64 1)) w fun t_49 w =>
      again_18 [t_49] w) <|
    pvv prog (Instr.build 49 #[]) w fun t_50 w =>
    efu prog (Instr.storeAt 49 (.pointer (some ⟨r, 0, none⟩)) t_50) w fun u_51 w =>
    ∃ r_52, (do loadVar 49 (← asAddr (.pointer (some ⟨r, 0, none⟩)))).run prog w = .ok r_52 w ∧ K (.tuple #[r_52, (.int .i64 12)]) w) [(.int .i64 0)] w := by
    intro w h
    refine lp_nat (fun c σ w' => ∃ i : Nat, σ = [.int .i64 (i : Int)] ∧ c = s.t.length - i ∧ i ≤ s.t.length ∧ w' = w) s.t.length ⟨0, rfl, rfl, by omega, rfl⟩ ?_
    rintro c σ w' again ⟨i, rfl, rfl, hi, rfl⟩ hag
    rw [pop_cons, fin_nil]
    simp only [↓o_nil, ↓o_field, ↓o_add, ↓o_sub, ↓o_mul, ↓o_lss, ↓o_leq, ↓o_gtr, ↓o_geq, ↓o_not, ↓o_pick, ↓o_eqInt, ↓o_neInt, ↓o_eqBool, ↓o_neBool, ↓o_eqPtr, ↓o_nePtr, ↓o_eqPtr', ↓o_eqSl, ↓o_neSl, ↓o_eqStr, ↓o_neStr, ↓o_len, ↓o_lenS, ↓o_min, ↓o_max, ↓o_extract, ↓o_convInt, ↓cd_true, ↓cd_false, ↓gate_tt, ↓gate_ff, ↓gate_tf, ↓gate_ft, ↓gate_undef, ↓o_bind, ↓stay_v, ↓pop_cons, ↓fin_nil, Option.isNone_none, Option.isNone_some, Bool.not_true, Bool.not_false, Nat.zero_add, decide_true, decide_false, if_true, if_false, Bool.false_eq_true, ↓reduceIte]
    refine ld_in (b := q) (v := .slice ua s.t.length uc) h rfl ?_
    try simp only [↓o_nil, ↓o_field, ↓o_add, ↓o_sub, ↓o_mul, ↓o_lss, ↓o_leq, ↓o_gtr, ↓o_geq, ↓o_not, ↓o_pick, ↓o_eqInt, ↓o_neInt, ↓o_eqBool, ↓o_neBool, ↓o_eqPtr, ↓o_nePtr, ↓o_eqPtr', ↓o_eqSl, ↓o_neSl, ↓o_eqStr, ↓o_neStr, ↓o_len, ↓o_lenS, ↓o_min, ↓o_max, ↓o_extract, ↓o_convInt, ↓cd_true, ↓cd_false, ↓gate_tt, ↓gate_ff, ↓gate_tf, ↓gate_ft, ↓gate_undef, ↓o_bind, ↓stay_v, ↓pop_cons, ↓fin_nil, Option.isNone_none, Option.isNone_some, Bool.not_true, Bool.not_false, Nat.zero_add, decide_true, decide_false, if_true, if_false, Bool.false_eq_true, ↓reduceIte]
    refine cd_dec (fun hlt => ?_) (fun hge => out _ 12 h)
    have hi1 : i < s.t.length := by omega
    have hx : s.t[i]? = some s.t[i] := List.getElem?_eq_getElem hi1
    generalize s.t[i] = x at hx
    obtain ⟨b', o, c', e, hc', hrd⟩ := hu.opened h.drop (by rw [kvs_length]; omega)
    cases e
    have hnext : pvv prog (binOp .add 3 (.int .i64 (i : Int)) (.int .i64 1)) w' fun t_49 w => again [t_49] w := by
      rw [o_add, i64_of (by omega) (by omega)]
      exact hag (s.t.length - (i + 1)) _ _ (by omega) ⟨i + 1, rfl, rfl, by omega, rfl⟩
    refine ld_in (b := q) (v := .slice (some ⟨b', o, none⟩) s.t.length uc) h rfl ?_
    rw [o_index (by omega) (by omega), o_field]
    refine ld_rd h hrd.right (i * 4 + 0) (by rw [Int.toNat_natCast]; omega) (take_cell (kvs_at hx) rfl) ?_
    rw [o_eqInt]
    by_cases he : x.id = id
    · simp only [decide_eq_true he, ↓o_nil, ↓o_field, ↓o_add, ↓o_sub, ↓o_mul, ↓o_lss, ↓o_leq, ↓o_gtr, ↓o_geq, ↓o_not, ↓o_pick, ↓o_eqInt, ↓o_neInt, ↓o_eqBool, ↓o_neBool, ↓o_eqPtr, ↓o_nePtr, ↓o_eqPtr', ↓o_eqSl, ↓o_neSl, ↓o_eqStr, ↓o_neStr, ↓o_len, ↓o_lenS, ↓o_min, ↓o_max, ↓o_extract, ↓o_convInt, ↓cd_true, ↓cd_false, ↓gate_tt, ↓gate_ff, ↓gate_tf, ↓gate_ft, ↓gate_undef, ↓o_bind, ↓stay_v, ↓pop_cons, ↓fin_nil, Option.isNone_none, Option.isNone_some, Bool.not_true, Bool.not_false, Nat.zero_add, decide_true, decide_false, if_true, if_false, Bool.false_eq_true, ↓reduceIte]
      refine ld_in (b := q) (v := .slice (some ⟨b', o, none⟩) s.t.length uc) h rfl ?_
      try simp only [↓o_nil, ↓o_field, ↓o_add, ↓o_sub, ↓o_mul, ↓o_lss, ↓o_leq, ↓o_gtr, ↓o_geq, ↓o_not, ↓o_pick, ↓o_eqInt, ↓o_neInt, ↓o_eqBool, ↓o_neBool, ↓o_eqPtr, ↓o_nePtr, ↓o_eqPtr', ↓o_eqSl, ↓o_neSl, ↓o_eqStr, ↓o_neStr, ↓o_len, ↓o_lenS, ↓o_min, ↓o_max, ↓o_extract, ↓o_convInt, ↓cd_true, ↓cd_false, ↓gate_tt, ↓gate_ff, ↓gate_tf, ↓gate_ft, ↓gate_undef, ↓o_bind, ↓stay_v, ↓pop_cons, ↓fin_nil, Option.isNone_none, Option.isNone_some, Bool.not_true, Bool.not_false, Nat.zero_add, decide_true, decide_false, if_true, if_false, Bool.false_eq_true, ↓reduceIte]
      rw [o_index (by omega) (by omega)]
      try simp only [↓o_nil, ↓o_field, ↓o_add, ↓o_sub, ↓o_mul, ↓o_lss, ↓o_leq, ↓o_gtr, ↓o_geq, ↓o_not, ↓o_pick, ↓o_eqInt, ↓o_neInt, ↓o_eqBool, ↓o_neBool, ↓o_eqPtr, ↓o_nePtr, ↓o_eqPtr', ↓o_eqSl, ↓o_neSl, ↓o_eqStr, ↓o_neStr, ↓o_len, ↓o_lenS, ↓o_min, ↓o_max, ↓o_extract, ↓o_convInt, ↓cd_true, ↓cd_false, ↓gate_tt, ↓gate_ff, ↓gate_tf, ↓gate_ft, ↓gate_undef, ↓o_bind, ↓stay_v, ↓pop_cons, ↓fin_nil, Option.isNone_none, Option.isNone_some, Bool.not_true, Bool.not_false, Nat.zero_add, decide_true, decide_false, if_true, if_false, Bool.false_eq_true, ↓reduceIte]
      refine ld_rd h hrd.right (i * 4 + 3) (by rw [Int.toNat_natCast]; omega) (take_cell (kvs_at hx) rfl) ?_
      try simp only [↓o_nil, ↓o_field, ↓o_add, ↓o_sub, ↓o_mul, ↓o_lss, ↓o_leq, ↓o_gtr, ↓o_geq, ↓o_not, ↓o_pick, ↓o_eqInt, ↓o_neInt, ↓o_eqBool, ↓o_neBool, ↓o_eqPtr, ↓o_nePtr, ↓o_eqPtr', ↓o_eqSl, ↓o_neSl, ↓o_eqStr, ↓o_neStr, ↓o_len, ↓o_lenS, ↓o_min, ↓o_max, ↓o_extract, ↓o_convInt, ↓cd_true, ↓cd_false, ↓gate_tt, ↓gate_ff, ↓gate_tf, ↓gate_ft, ↓gate_undef, ↓o_bind, ↓stay_v, ↓pop_cons, ↓fin_nil, Option.isNone_none, Option.isNone_some, Bool.not_true, Bool.not_false, Nat.zero_add, decide_true, decide_false, if_true, if_false, Bool.false_eq_true, ↓reduceIte]
      refine cd_any ?_ (by try simp only [↓o_nil, ↓o_field, ↓o_add, ↓o_sub, ↓o_mul, ↓o_lss, ↓o_leq, ↓o_gtr, ↓o_geq, ↓o_not, ↓o_pick, ↓o_eqInt, ↓o_neInt, ↓o_eqBool, ↓o_neBool, ↓o_eqPtr, ↓o_nePtr, ↓o_eqPtr', ↓o_eqSl, ↓o_neSl, ↓o_eqStr, ↓o_neStr, ↓o_len, ↓o_lenS, ↓o_min, ↓o_max, ↓o_extract, ↓o_convInt, ↓cd_true, ↓cd_false, ↓gate_tt, ↓gate_ff, ↓gate_tf, ↓gate_ft, ↓gate_undef, ↓o_bind, ↓stay_v, ↓pop_cons, ↓fin_nil, Option.isNone_none, Option.isNone_some, Bool.not_true, Bool.not_false, Nat.zero_add, decide_true, decide_false, if_true, if_false, Bool.false_eq_true, ↓reduceIte] at hnext
                           exact hnext)
      refine ld_in (b := q) (v := .slice (some ⟨b', o, none⟩) s.t.length uc) h rfl ?_
      rw [o_index (by omega) (by omega)]
      refine ld_el h hrd.right (i * 4) (by simp) (kcells x) rfl (kvs_at hx) ?_
      exact tok_ret (b := r) (x := zeroK) (y := x) h fun w h => k _ _ w h.drop
    · simp only [decide_eq_false he, ↓o_nil, ↓o_field, ↓o_add, ↓o_sub, ↓o_mul, ↓o_lss, ↓o_leq, ↓o_gtr, ↓o_geq, ↓o_not, ↓o_pick, ↓o_eqInt, ↓o_neInt, ↓o_eqBool, ↓o_neBool, ↓o_eqPtr, ↓o_nePtr, ↓o_eqPtr', ↓o_eqSl, ↓o_neSl, ↓o_eqStr, ↓o_neStr, ↓o_len, ↓o_lenS, ↓o_min, ↓o_max, ↓o_extract, ↓o_convInt, ↓cd_true, ↓cd_false, ↓gate_tt, ↓gate_ff, ↓gate_tf, ↓gate_ft, ↓gate_undef, ↓o_bind, ↓stay_v, ↓pop_cons, ↓fin_nil, Option.isNone_none, Option.isNone_some, Bool.not_true, Bool.not_false, Nat.zero_add, decide_true, decide_false, if_true, if_false, Bool.false_eq_true, ↓reduceIte]
      try simp only [↓o_nil, ↓o_field, ↓o_add, ↓o_sub, ↓o_mul, ↓o_lss, ↓o_leq, ↓o_gtr, ↓o_geq, ↓o_not, ↓o_pick, ↓o_eqInt, ↓o_neInt, ↓o_eqBool, ↓o_neBool, ↓o_eqPtr, ↓o_nePtr, ↓o_eqPtr', ↓o_eqSl, ↓o_neSl, ↓o_eqStr, ↓o_neStr, ↓o_len, ↓o_lenS, ↓o_min, ↓o_max, ↓o_extract, ↓o_convInt, ↓cd_true, ↓cd_false, ↓gate_tt, ↓gate_ff, ↓gate_tf, ↓gate_ft, ↓gate_undef, ↓o_bind, ↓stay_v, ↓pop_cons, ↓fin_nil, Option.isNone_none, Option.isNone_some, Bool.not_true, Bool.not_false, Nat.zero_add, decide_true, decide_false, if_true, if_false, Bool.false_eq_true, ↓reduceIte] at hnext
      exact hnext
  rw [o_lss]
  by_cases h1 : id < 1
  · have o4 := out w 4 h
    simp only [h1, ↓o_nil, ↓o_field, ↓o_add, ↓o_sub, ↓o_mul, ↓o_lss, ↓o_leq, ↓o_gtr, ↓o_geq, ↓o_not, ↓o_pick, ↓o_eqInt, ↓o_neInt, ↓o_eqBool, ↓o_neBool, ↓o_eqPtr, ↓o_nePtr, ↓o_eqPtr', ↓o_eqSl, ↓o_neSl, ↓o_eqStr, ↓o_neStr, ↓o_len, ↓o_lenS, ↓o_min, ↓o_max, ↓o_extract, ↓o_convInt, ↓cd_true, ↓cd_false, ↓gate_tt, ↓gate_ff, ↓gate_tf, ↓gate_ft, ↓gate_undef, ↓o_bind, ↓stay_v, ↓pop_cons, ↓fin_nil, Option.isNone_none, Option.isNone_some, Bool.not_true, Bool.not_false, Nat.zero_add, decide_true, decide_false, if_true, if_false, Bool.false_eq_true, ↓reduceIte] at o4 ⊢
    exact o4
  · simp only [h1, ↓o_nil, ↓o_field, ↓o_add, ↓o_sub, ↓o_mul, ↓o_lss, ↓o_leq, ↓o_gtr, ↓o_geq, ↓o_not, ↓o_pick, ↓o_eqInt, ↓o_neInt, ↓o_eqBool, ↓o_neBool, ↓o_eqPtr, ↓o_nePtr, ↓o_eqPtr', ↓o_eqSl, ↓o_neSl, ↓o_eqStr, ↓o_neStr, ↓o_len, ↓o_lenS, ↓o_min, ↓o_max, ↓o_extract, ↓o_convInt, ↓cd_true, ↓cd_false, ↓gate_tt, ↓gate_ff, ↓gate_tf, ↓gate_ft, ↓gate_undef, ↓o_bind, ↓stay_v, ↓pop_cons, ↓fin_nil, Option.isNone_none, Option.isNone_some, Bool.not_true, Bool.not_false, Nat.zero_add, decide_true, decide_false, if_true, if_false, Bool.false_eq_true, ↓reduceIte]
    refine ld_in (b := q) (v := .int .i64 s.tok) h rfl ?_
    have o4 := out w 4 h
    have g := go w h
    try simp only [↓o_nil, ↓o_field, ↓o_add, ↓o_sub, ↓o_mul, ↓o_lss, ↓o_leq, ↓o_gtr, ↓o_geq, ↓o_not, ↓o_pick, ↓o_eqInt, ↓o_neInt, ↓o_eqBool, ↓o_neBool, ↓o_eqPtr, ↓o_nePtr, ↓o_eqPtr', ↓o_eqSl, ↓o_neSl, ↓o_eqStr, ↓o_neStr, ↓o_len, ↓o_lenS, ↓o_min, ↓o_max, ↓o_extract, ↓o_convInt, ↓cd_true, ↓cd_false, ↓gate_tt, ↓gate_ff, ↓gate_tf, ↓gate_ft, ↓gate_undef, ↓o_bind, ↓stay_v, ↓pop_cons, ↓fin_nil, Option.isNone_none, Option.isNone_some, Bool.not_true, Bool.not_false, Nat.zero_add, decide_true, decide_false, if_true, if_false, Bool.false_eq_true, ↓reduceIte] at o4 g ⊢
    exact cd_any o4 g
theorem bv_any {t : TypeId} {a b : UInt8} {xo yo : Operand} (k : ∀ r, K (.bool r) w) : pvv prog (oEq .neq t xo yo (bv a) (bv b)) w K := by
  have := o_neInt (P := prog) (K := K) (w := w) (t := t) (xo := xo) (yo := yo) (k := .u8) (a := (a.toNat : Int)) (b := (b.toNat : Int))
  unfold bv
  rw [this]
  exact k _
theorem RExchange_spec {q : Nat} {s : Rs} {vf vt : Value} {id now : Int} {sc : UInt8} {m : Nat} (fw : Few s m) (hm : m ≤ 900000) (h : sat E w (rI q s vf vt R))
    (k : ∀ x e s' vf' vt' w', Few s' (m + 1) → sat E w' (rI q s' vf' vt' R) → K (.tuple #[kv x, .int .i64 e]) w') : Calls prog 26 #[.pointer (some ⟨q, 0, none⟩), .int .i64 id, bv sc, .int .i64 now] w (Ret K) := by
  refine c26 ?_
  unfold B26
  refine tok_new h fun r w h => ?_
  refine RAccess_spec fw hm (rI_in h) fun x e w h => ?_
  rw [o_extract, o_extract]
  refine tok_in (rI_out h) fun xb w h => ?_
  have out : ∀ (e : Int),
      pvv prog (Instr.build 49 #[]) w fun t_3 w =>
      efu prog (Instr.storeAt 49 (.pointer (some ⟨r, 0, none⟩)) t_3) w fun u_4 w =>
      ∃ r_5, (do loadVar 49 (← asAddr (.pointer (some ⟨r, 0, none⟩)))).run prog w = .ok r_5 w ∧ K (.tuple #[r_5, .int .i64 e]) w := by
    intro e
    refine zeroK_build ?_
    exact tok_ret (b := r) (x := zeroK) (y := zeroK) h fun w h => k _ _ s vf vt w fw.up h.drop.drop
  rw [o_neInt]
  refine cd_any (out e) ?_
  simp only [↓o_nil, ↓o_field, ↓o_add, ↓o_sub, ↓o_mul, ↓o_lss, ↓o_leq, ↓o_gtr, ↓o_geq, ↓o_not, ↓o_pick, ↓o_eqInt, ↓o_neInt, ↓o_eqBool, ↓o_neBool, ↓o_eqPtr, ↓o_nePtr, ↓o_eqPtr', ↓o_eqSl, ↓o_neSl, ↓o_eqStr, ↓o_neStr, ↓o_len, ↓o_lenS, ↓o_min, ↓o_max, ↓o_extract, ↓o_convInt, ↓cd_true, ↓cd_false, ↓gate_tt, ↓gate_ff, ↓gate_tf, ↓gate_ft, ↓gate_undef, ↓o_bind, ↓stay_v, ↓pop_cons, ↓fin_nil, Option.isNone_none, Option.isNone_some, Bool.not_true, Bool.not_false, Nat.zero_add, decide_true, decide_false, if_true, if_false, Bool.false_eq_true, ↓reduceIte]
  refine ld_in (b := xb) (v := bv x.sc) h rfl ?_
  rw [o_andB]
  refine bv_any fun r1 => ?_
  refine cd_any (out 14) ?_
  try simp only [↓o_nil, ↓o_field, ↓o_add, ↓o_sub, ↓o_mul, ↓o_lss, ↓o_leq, ↓o_gtr, ↓o_geq, ↓o_not, ↓o_pick, ↓o_eqInt, ↓o_neInt, ↓o_eqBool, ↓o_neBool, ↓o_eqPtr, ↓o_nePtr, ↓o_eqPtr', ↓o_eqSl, ↓o_neSl, ↓o_eqStr, ↓o_neStr, ↓o_len, ↓o_lenS, ↓o_min, ↓o_max, ↓o_extract, ↓o_convInt, ↓cd_true, ↓cd_false, ↓gate_tt, ↓gate_ff, ↓gate_tf, ↓gate_ft, ↓gate_undef, ↓o_bind, ↓stay_v, ↓pop_cons, ↓fin_nil, Option.isNone_none, Option.isNone_some, Bool.not_true, Bool.not_false, Nat.zero_add, decide_true, decide_false, if_true, if_false, Bool.false_eq_true, ↓reduceIte]
  refine ld_in (b := q) (v := .int .i64 s.tok) h rfl ?_
  try simp only [↓o_nil, ↓o_field, ↓o_add, ↓o_sub, ↓o_mul, ↓o_lss, ↓o_leq, ↓o_gtr, ↓o_geq, ↓o_not, ↓o_pick, ↓o_eqInt, ↓o_neInt, ↓o_eqBool, ↓o_neBool, ↓o_eqPtr, ↓o_nePtr, ↓o_eqPtr', ↓o_eqSl, ↓o_neSl, ↓o_eqStr, ↓o_neStr, ↓o_len, ↓o_lenS, ↓o_min, ↓o_max, ↓o_extract, ↓o_convInt, ↓cd_true, ↓cd_false, ↓gate_tt, ↓gate_ff, ↓gate_tf, ↓gate_ft, ↓gate_undef, ↓o_bind, ↓stay_v, ↓pop_cons, ↓fin_nil, Option.isNone_none, Option.isNone_some, Bool.not_true, Bool.not_false, Nat.zero_add, decide_true, decide_false, if_true, if_false, Bool.false_eq_true, ↓reduceIte]
  refine cd_any (out 7) ?_
  refine store_sl (b := q) h rfl (by simp [rcells]) fun w h => ?_
  try simp only [↓o_nil, ↓o_field, ↓o_add, ↓o_sub, ↓o_mul, ↓o_lss, ↓o_leq, ↓o_gtr, ↓o_geq, ↓o_not, ↓o_pick, ↓o_eqInt, ↓o_neInt, ↓o_eqBool, ↓o_neBool, ↓o_eqPtr, ↓o_nePtr, ↓o_eqPtr', ↓o_eqSl, ↓o_neSl, ↓o_eqStr, ↓o_neStr, ↓o_len, ↓o_lenS, ↓o_min, ↓o_max, ↓o_extract, ↓o_convInt, ↓cd_true, ↓cd_false, ↓gate_tt, ↓gate_ff, ↓gate_tf, ↓gate_ft, ↓gate_undef, ↓o_bind, ↓stay_v, ↓pop_cons, ↓fin_nil, Option.isNone_none, Option.isNone_some, Bool.not_true, Bool.not_false, Nat.zero_add, decide_true, decide_false, if_true, if_false, Bool.false_eq_true, ↓reduceIte]
  refine ld_in (b := xb) (v := .int .i64 x.fam) h rfl ?_
  try simp only [↓o_nil, ↓o_field, ↓o_add, ↓o_sub, ↓o_mul, ↓o_lss, ↓o_leq, ↓o_gtr, ↓o_geq, ↓o_not, ↓o_pick, ↓o_eqInt, ↓o_neInt, ↓o_eqBool, ↓o_neBool, ↓o_eqPtr, ↓o_nePtr, ↓o_eqPtr', ↓o_eqSl, ↓o_neSl, ↓o_eqStr, ↓o_neStr, ↓o_len, ↓o_lenS, ↓o_min, ↓o_max, ↓o_extract, ↓o_convInt, ↓cd_true, ↓cd_false, ↓gate_tt, ↓gate_ff, ↓gate_tf, ↓gate_ft, ↓gate_undef, ↓o_bind, ↓stay_v, ↓pop_cons, ↓fin_nil, Option.isNone_none, Option.isNone_some, Bool.not_true, Bool.not_false, Nat.zero_add, decide_true, decide_false, if_true, if_false, Bool.false_eq_true, ↓reduceIte]
  refine ld_in (b := xb) (v := .int .i64 x.til) h rfl ?_
  have h := h.perm (show _ = rI q { s with noted := now } vf vt (pts xb (.cells (kcells x).toArray 49 (0, 0)) * (pts r (.cells (kcells zeroK).toArray 49 (0, 0)) * R)) by unfold rI; simp only [rcells, List.set_cons_zero, List.set_cons_succ]; ac_rfl)
  refine Rfresh_spec (s := { s with noted := now }) (m := m) ⟨fw.f, fw.t⟩ hm h fun y s' vf' vt' w fw' h => ?_
  refine tok_ret (b := r) (x := zeroK) (y := y) h fun w h => k _ _ s' vf' vt' w fw' ?_
  have h := h.perm (show _ = pts r (.cells (kcells y).toArray 49 (0, 0)) * (pts xb (.cells (kcells x).toArray 49 (0, 0)) * rI q s' vf' vt' R) by unfold rI; ac_rfl)
  exact h.drop.drop
theorem REnd_spec {q : Nat} {s : Rs} {vf vt : Value} {id : Int} {m : Nat} (fw : Few s m) (hm : m ≤ 900000) (h : sat E w (rI q s vf vt R))
    (k : ∀ e s' vf' vt' w', Few s' m → sat E w' (rI q s' vf' vt' R) → K (.int .i64 e) w') : Calls prog 27 #[.pointer (some ⟨q, 0, none⟩), .int .i64 id] w (Ret K) := by
  refine c27 ?_
  unfold B27
  simp only [↓o_eqPtr, Option.isNone_some, ↓cd_false]
  have go : ∀ (i e : Int), pvv prog (Instr.extract (.tuple #[.int .i64 i, .int .i64 e]) 0) w fun t_2 w =>
      pvv prog (Instr.extract (.tuple #[.int .i64 i, .int .i64 e]) 1) w fun t_3 w =>
      pvv prog (oEq .neq 36 (.tmp 15) (.const (.int .i64 0)) t_3 (.int .i64 0)) w fun t_4 w =>
      cd t_4 (K t_3 w) <|
      Calls prog 61 #[.pointer (some ⟨q, 0, none⟩), .int .i64 id] w (Ret fun t_5 w => K (.int .i64 0) w) := by
    intro i e
    rw [o_extract, o_extract, o_neInt]
    refine cd_any (k e s vf vt w fw h) ?_
    refine Rdrop_spec fw hm h fun s' vf' vt' w fw' h => ?_
    refine k 0 s' vf' vt' w fw' ?_
    have h := h.perm (show _ = pers (immS vf s.f.length (fvs s.f)) * rI q s' vf' vt' R by unfold rI; ac_rfl)
    exact h.drop
  exact Rfind_spec (id := id) fw (by omega) h (fun e he => go (-1) e) (fun i hi => go i 0)
theorem Rin_spec {v : Value} {l : List Int} {n : Int} (h : sat E w H) (hv : Rds H v l.length (l.map iv)) (hl : l.length ≤ 9223372036854775807) (k : ∀ r, K (.bool r) w) : Calls prog 74 #[v, .int .i64 n] w (Ret K) := by
  obtain ⟨va, vc, rfl, hvc, hv, _⟩ := hv.shape h
  refine c74 ?_
  unfold B74
  refine lp_nat (fun r σ w' => ∃ (i : Nat), σ = [.int .i64 (i : Int)] ∧ r = l.length - i ∧ i ≤ l.length ∧ w' = w) l.length ⟨0, rfl, rfl, by omega, rfl⟩ ?_
  rintro r σ w' again ⟨i, rfl, rfl, hi, rfl⟩ hag
  rw [pop_cons, fin_nil, o_len, o_lss]
  refine cd_dec (fun hlt => ?_) (fun hge => k _)
  have hi1 : i < l.length := by omega
  have hx : l[i]? = some l[i] := List.getElem?_eq_getElem hi1
  generalize l[i] = x at hx
  obtain ⟨b1, o1, _, e1, _, hv⟩ := hv.opened h (by simp; omega)
  cases e1
  rw [o_index (by omega) (by omega)]
  refine ld_rd h hv i (by simp) (v := .int .i64 x) (by rw [List.getElem?_map, hx]; rfl) ?_
  rw [o_eqInt]
  refine cd_any (k _) ?_
  try rw [o_add]
  rw [i64_of (by omega) (by omega)]
  exact hag (l.length - (i + 1)) _ _ (by omega) ⟨i + 1, rfl, rfl, by omega, rfl⟩
theorem Rends_spec {q : Nat} {s : Rs} {vf vt v : Value} {l : List Int} {cl : List UInt8} {m : Nat} (fw : Few s m) (hm : m ≤ 900000) (h : sat E w (rI q s vf vt R)) (hv : Rds R v l.length (l.map iv)) (hl : l.length ≤ 9223372036854775807)
    (k : ∀ u (a : List Int) s' vf' vt' w', a.length ≤ m → Few s' m → sat E w' (osl 3 1 u a.length (a.map iv) * rI q s' vf' vt' R) → K u w') : Calls prog 62 #[.pointer (some ⟨q, 0, none⟩), tv cl, v] w (Ret K) := by
  have hfl := fw.f
  have e0 : (.string ⟨#[]⟩ : Value) = tv [] := rfl
  obtain ⟨va, vc, rfl, hvc, hvf, _⟩ := (rds_f (s := s)).shape h
  refine c62 ?_
  unfold B62
  rw [e0]
  simp only [↓o_eqPtr, Option.isNone_some, ↓cd_false]
  simp only [↓o_nil, ↓o_field, ↓o_add, ↓o_sub, ↓o_mul, ↓o_lss, ↓o_leq, ↓o_gtr, ↓o_geq, ↓o_not, ↓o_pick, ↓o_eqInt, ↓o_neInt, ↓o_eqBool, ↓o_neBool, ↓o_eqPtr, ↓o_nePtr, ↓o_eqPtr', ↓o_eqSl, ↓o_neSl, ↓o_eqStr, ↓o_neStr, ↓o_len, ↓o_lenS, ↓o_min, ↓o_max, ↓o_extract, ↓o_convInt, ↓cd_true, ↓cd_false, ↓gate_tt, ↓gate_ff, ↓gate_tf, ↓gate_ft, ↓gate_undef, ↓o_bind, ↓stay_v, ↓pop_cons, ↓fin_nil, Option.isNone_none, Option.isNone_some, Bool.not_true, Bool.not_false, Nat.zero_add, decide_true, decide_false, if_true, if_false, Bool.false_eq_true, ↓reduceIte]
  refine ld_in (b := q) (v := .slice va s.f.length vc) h rfl ?_
  have h : sat E w (pers (immS (.slice va s.f.length vc) s.f.length (fvs s.f)) * rI q s (.slice va s.f.length vc) vt R) := by
    have h := h.perm (show _ = pers (immS (.slice va s.f.length vc) s.f.length (fvs s.f)) * (pts q (.cells (rcells s (.slice va s.f.length vc) vt).toArray 69 (0, 0)) * (pers (immS vt s.t.length (kvs s.t)) * R)) by unfold rI; ac_rfl)
    have h := h.pers_dup
    refine h.perm ?_
    unfold rI
    ac_rfl
  refine lp_nat (fun r σ w => ∃ (i : Nat) (out : Value) (a : List Int) (s' : Rs) (vf' vt' : Value), σ = [out, .int .i64 (i : Int)] ∧ r = s.f.length - i ∧ i ≤ s.f.length ∧ a.length ≤ i ∧ Few s' m ∧
      sat E w (osl 3 1 out a.length (a.map iv) * (pers (immS (.slice va s.f.length vc) s.f.length (fvs s.f)) * rI q s' vf' vt' R))) s.f.length ⟨0, _, [], s, _, _, rfl, by omega, by omega, by simp, fw, osl_nil h 3 1⟩ ?_
  clear h
  rintro r σ w again ⟨i, out, a, s', vf', vt', rfl, rfl, hi, ha, fw', h⟩ hag
  rw [pop_cons, pop_cons, fin_nil]
  try rw [o_len]
  try rw [o_lss]
  refine cd_dec (fun hlt => ?_) (fun hge => ?_)
  · have hi1 : i < s.f.length := by omega
    have hx : s.f[i]? = some s.f[i] := List.getElem?_eq_getElem hi1
    generalize s.f[i] = x at hx
    have hrd0 : Rds (osl 3 1 out a.length (a.map iv) * (pers (immS (.slice va s.f.length vc) s.f.length (fvs s.f)) * rI q s' vf' vt' R)) (.slice va s.f.length vc) s.f.length (fvs s.f) := Rds.pers.left.right
    obtain ⟨b', o, c', e, hc', hrd⟩ := hrd0.opened h (by rw [fvs_length]; omega)
    cases e
    have ix : ∀ {w : World} {K : Value → World → Prop}, pvv prog (Instr.indexAt 43 (.slice (some ⟨b', o, none⟩) s.f.length vc) (.int .i64 (i : Int))) w K = K (.pointer (some ⟨b', o + i * 5, none⟩)) w := fun {w K} => by
      rw [o_index (by omega) (by omega), Int.toNat_natCast]
    refine jn_cut (fun σ w => ∃ (out' : Value) (a' : List Int) (s'' : Rs) (vf'' vt'' : Value), σ = [out'] ∧ a'.length ≤ i + 1 ∧ Few s'' m ∧ sat E w (osl 3 1 out' a'.length (a'.map iv) * (pers (immS (.slice (some ⟨b', o, none⟩) s.f.length vc) s.f.length (fvs s.f)) * rI q s'' vf'' vt'' R))) (fun kj hkj => ?_) ?_
    · have hno : kj [out] w := hkj _ _ ⟨out, a, s', vf', vt', rfl, by omega, fw', h⟩
      have hyes : ∀ w, sat E w (osl 3 1 out a.length (a.map iv) * (pers (immS (.slice (some ⟨b', o, none⟩) s.f.length vc) s.f.length (fvs s.f)) * rI q s' vf' vt' R)) →
        pvv prog (Instr.indexAt 43 (.slice (some ⟨b', o, none⟩) s.f.length vc) (.int .i64 (i : Int))) w fun t_28 w =>
        pvv prog (Instr.fieldAt 35 t_28 0) w fun t_29 w =>
        ldv prog (Instr.loadAt 3 t_29) w fun t_30 w =>
        efv prog (Instr.buildSlice 23 1 #[(0, t_30)]) w fun t_31 w =>
        ef prog (oBi .append #[23, 23] 23 #[false, false] #[out, t_31]) w fun t_32 w =>
        pvv prog (Instr.indexAt 43 (.slice (some ⟨b', o, none⟩) s.f.length vc) (.int .i64 (i : Int))) w fun t_33 w =>
        pvv prog (Instr.fieldAt 35 t_33 0) w fun t_34 w =>
        ldv prog (Instr.loadAt 3 t_34) w fun t_35 w =>
        Calls prog 61 #[.pointer (some ⟨q, 0, none⟩), t_35] w (Ret fun t_36 w =>
        kj [t_32] w) := by
        intro w h
        rw [ix]
        simp only [↓o_nil, ↓o_field, ↓o_add, ↓o_sub, ↓o_mul, ↓o_lss, ↓o_leq, ↓o_gtr, ↓o_geq, ↓o_not, ↓o_pick, ↓o_eqInt, ↓o_neInt, ↓o_eqBool, ↓o_neBool, ↓o_eqPtr, ↓o_nePtr, ↓o_eqPtr', ↓o_eqSl, ↓o_neSl, ↓o_eqStr, ↓o_neStr, ↓o_len, ↓o_lenS, ↓o_min, ↓o_max, ↓o_extract, ↓o_convInt, ↓cd_true, ↓cd_false, ↓gate_tt, ↓gate_ff, ↓gate_tf, ↓gate_ft, ↓gate_undef, ↓o_bind, ↓stay_v, ↓pop_cons, ↓fin_nil, Option.isNone_none, Option.isNone_some, Bool.not_true, Bool.not_false, Nat.zero_add, decide_true, decide_false, if_true, if_false, Bool.false_eq_true, ↓reduceIte]
        refine ld_rd h hrd (i * 5 + 0) (by omega) (take_cell (fvs_at hx) rfl) ?_
        refine push_sl (v := out) h rfl rfl (by omega) (by omega) fun v2 w h => ?_
        rw [ix]
        simp only [↓o_nil, ↓o_field, ↓o_add, ↓o_sub, ↓o_mul, ↓o_lss, ↓o_leq, ↓o_gtr, ↓o_geq, ↓o_not, ↓o_pick, ↓o_eqInt, ↓o_neInt, ↓o_eqBool, ↓o_neBool, ↓o_eqPtr, ↓o_nePtr, ↓o_eqPtr', ↓o_eqSl, ↓o_neSl, ↓o_eqStr, ↓o_neStr, ↓o_len, ↓o_lenS, ↓o_min, ↓o_max, ↓o_extract, ↓o_convInt, ↓cd_true, ↓cd_false, ↓gate_tt, ↓gate_ff, ↓gate_tf, ↓gate_ft, ↓gate_undef, ↓o_bind, ↓stay_v, ↓pop_cons, ↓fin_nil, Option.isNone_none, Option.isNone_some, Bool.not_true, Bool.not_false, Nat.zero_add, decide_true, decide_false, if_true, if_false, Bool.false_eq_true, ↓reduceIte]
        have hrd2 : Rds (osl 3 1 v2 (a.length + 1) (a.map iv ++ [iv x.id]) * (pers (immS (.slice (some ⟨b', o, none⟩) s.f.length vc) s.f.length (fvs s.f)) * rI q s' vf' vt' R)) (.slice (some ⟨b', o, none⟩) s.f.length vc) s.f.length (fvs s.f) := Rds.pers.left.right
        refine ld_rd h hrd2 (i * 5 + 0) (by omega) (take_cell (fvs_at hx) rfl) ?_
        have h := h.perm (show _ = rI q s' vf' vt' (osl 3 1 v2 (a.length + 1) (a.map iv ++ [iv x.id]) * (pers (immS (.slice (some ⟨b', o, none⟩) s.f.length vc) s.f.length (fvs s.f)) * R)) by unfold rI; simp only [iv]; ac_rfl)
        refine Rdrop_spec (id := x.id) fw' hm h fun s'' vf'' vt'' w fw'' h => ?_
        have h := h.perm (show _ = pers (immS vf' s'.f.length (fvs s'.f)) * (osl 3 1 v2 (a.length + 1) (a.map iv ++ [iv x.id]) * (pers (immS (.slice (some ⟨b', o, none⟩) s.f.length vc) s.f.length (fvs s.f)) * rI q s'' vf'' vt'' R)) by unfold rI; ac_rfl)
        refine hkj _ _ ⟨v2, a ++ [x.id], s'', vf'', vt'', rfl, by simp; omega, fw'', ?_⟩
        rw [List.length_append, List.map_append, List.length_singleton]
        exact h.drop
      have hy := hyes w h
      rw [ix]
      simp only [↓o_nil, ↓o_field, ↓o_add, ↓o_sub, ↓o_mul, ↓o_lss, ↓o_leq, ↓o_gtr, ↓o_geq, ↓o_not, ↓o_pick, ↓o_eqInt, ↓o_neInt, ↓o_eqBool, ↓o_neBool, ↓o_eqPtr, ↓o_nePtr, ↓o_eqPtr', ↓o_eqSl, ↓o_neSl, ↓o_eqStr, ↓o_neStr, ↓o_len, ↓o_lenS, ↓o_min, ↓o_max, ↓o_extract, ↓o_convInt, ↓cd_true, ↓cd_false, ↓gate_tt, ↓gate_ff, ↓gate_tf, ↓gate_ft, ↓gate_undef, ↓o_bind, ↓stay_v, ↓pop_cons, ↓fin_nil, Option.isNone_none, Option.isNone_some, Bool.not_true, Bool.not_false, Nat.zero_add, decide_true, decide_false, if_true, if_false, Bool.false_eq_true, ↓reduceIte]
      refine ld_rd h hrd (i * 5 + 1) (by omega) (take_cell (fvs_at hx) rfl) ?_
      refine Rin_spec (l := l) h ?_ hl fun r => ?_
      · exact hv.right.right.right.right.right
      cases r
      · simp only [↓o_nil, ↓o_field, ↓o_add, ↓o_sub, ↓o_mul, ↓o_lss, ↓o_leq, ↓o_gtr, ↓o_geq, ↓o_not, ↓o_pick, ↓o_eqInt, ↓o_neInt, ↓o_eqBool, ↓o_neBool, ↓o_eqPtr, ↓o_nePtr, ↓o_eqPtr', ↓o_eqSl, ↓o_neSl, ↓o_eqStr, ↓o_neStr, ↓o_len, ↓o_lenS, ↓o_min, ↓o_max, ↓o_extract, ↓o_convInt, ↓cd_true, ↓cd_false, ↓gate_tt, ↓gate_ff, ↓gate_tf, ↓gate_ft, ↓gate_undef, ↓o_bind, ↓stay_v, ↓pop_cons, ↓fin_nil, Option.isNone_none, Option.isNone_some, Bool.not_true, Bool.not_false, Nat.zero_add, decide_true, decide_false, if_true, if_false, Bool.false_eq_true, ↓reduceIte]
        exact hno
      · try simp only [↓o_nil, ↓o_field, ↓o_add, ↓o_sub, ↓o_mul, ↓o_lss, ↓o_leq, ↓o_gtr, ↓o_geq, ↓o_not, ↓o_pick, ↓o_eqInt, ↓o_neInt, ↓o_eqBool, ↓o_neBool, ↓o_eqPtr, ↓o_nePtr, ↓o_eqPtr', ↓o_eqSl, ↓o_neSl, ↓o_eqStr, ↓o_neStr, ↓o_len, ↓o_lenS, ↓o_min, ↓o_max, ↓o_extract, ↓o_convInt, ↓cd_true, ↓cd_false, ↓gate_tt, ↓gate_ff, ↓gate_tf, ↓gate_ft, ↓gate_undef, ↓o_bind, ↓stay_v, ↓pop_cons, ↓fin_nil, Option.isNone_none, Option.isNone_some, Bool.not_true, Bool.not_false, Nat.zero_add, decide_true, decide_false, if_true, if_false, Bool.false_eq_true, ↓reduceIte]
        rw [o_eqT]
        by_cases hc : cl = []
        · simp only [decide_eq_true hc, ↓o_nil, ↓o_field, ↓o_add, ↓o_sub, ↓o_mul, ↓o_lss, ↓o_leq, ↓o_gtr, ↓o_geq, ↓o_not, ↓o_pick, ↓o_eqInt, ↓o_neInt, ↓o_eqBool, ↓o_neBool, ↓o_eqPtr, ↓o_nePtr, ↓o_eqPtr', ↓o_eqSl, ↓o_neSl, ↓o_eqStr, ↓o_neStr, ↓o_len, ↓o_lenS, ↓o_min, ↓o_max, ↓o_extract, ↓o_convInt, ↓cd_true, ↓cd_false, ↓gate_tt, ↓gate_ff, ↓gate_tf, ↓gate_ft, ↓gate_undef, ↓o_bind, ↓stay_v, ↓pop_cons, ↓fin_nil, Option.isNone_none, Option.isNone_some, Bool.not_true, Bool.not_false, Nat.zero_add, decide_true, decide_false, if_true, if_false, Bool.false_eq_true, ↓reduceIte]
          try simp only [↓o_nil, ↓o_field, ↓o_add, ↓o_sub, ↓o_mul, ↓o_lss, ↓o_leq, ↓o_gtr, ↓o_geq, ↓o_not, ↓o_pick, ↓o_eqInt, ↓o_neInt, ↓o_eqBool, ↓o_neBool, ↓o_eqPtr, ↓o_nePtr, ↓o_eqPtr', ↓o_eqSl, ↓o_neSl, ↓o_eqStr, ↓o_neStr, ↓o_len, ↓o_lenS, ↓o_min, ↓o_max, ↓o_extract, ↓o_convInt, ↓cd_true, ↓cd_false, ↓gate_tt, ↓gate_ff, ↓gate_tf, ↓gate_ft, ↓gate_undef, ↓o_bind, ↓stay_v, ↓pop_cons, ↓fin_nil, Option.isNone_none, Option.isNone_some, Bool.not_true, Bool.not_false, Nat.zero_add, decide_true, decide_false, if_true, if_false, Bool.false_eq_true, ↓reduceIte] at hy
          exact hy
        · simp only [decide_eq_false hc, ix, ↓o_nil, ↓o_field, ↓o_add, ↓o_sub, ↓o_mul, ↓o_lss, ↓o_leq, ↓o_gtr, ↓o_geq, ↓o_not, ↓o_pick, ↓o_eqInt, ↓o_neInt, ↓o_eqBool, ↓o_neBool, ↓o_eqPtr, ↓o_nePtr, ↓o_eqPtr', ↓o_eqSl, ↓o_neSl, ↓o_eqStr, ↓o_neStr, ↓o_len, ↓o_lenS, ↓o_min, ↓o_max, ↓o_extract, ↓o_convInt, ↓cd_true, ↓cd_false, ↓gate_tt, ↓gate_ff, ↓gate_tf, ↓gate_ft, ↓gate_undef, ↓o_bind, ↓stay_v, ↓pop_cons, ↓fin_nil, Option.isNone_none, Option.isNone_some, Bool.not_true, Bool.not_false, Nat.zero_add, decide_true, decide_false, if_true, if_false, Bool.false_eq_true, ↓reduceIte]
          refine ld_rd h hrd (i * 5 + 2) (by omega) (take_cell (fvs_at hx) rfl) ?_
          try simp only [↓o_nil, ↓o_field, ↓o_add, ↓o_sub, ↓o_mul, ↓o_lss, ↓o_leq, ↓o_gtr, ↓o_geq, ↓o_not, ↓o_pick, ↓o_eqInt, ↓o_neInt, ↓o_eqBool, ↓o_neBool, ↓o_eqPtr, ↓o_nePtr, ↓o_eqPtr', ↓o_eqSl, ↓o_neSl, ↓o_eqStr, ↓o_neStr, ↓o_len, ↓o_lenS, ↓o_min, ↓o_max, ↓o_extract, ↓o_convInt, ↓cd_true, ↓cd_false, ↓gate_tt, ↓gate_ff, ↓gate_tf, ↓gate_ft, ↓gate_undef, ↓o_bind, ↓stay_v, ↓pop_cons, ↓fin_nil, Option.isNone_none, Option.isNone_some, Bool.not_true, Bool.not_false, Nat.zero_add, decide_true, decide_false, if_true, if_false, Bool.false_eq_true, ↓reduceIte]
          rw [o_eqT]
          try simp only [ix, ↓o_nil, ↓o_field, ↓o_add, ↓o_sub, ↓o_mul, ↓o_lss, ↓o_leq, ↓o_gtr, ↓o_geq, ↓o_not, ↓o_pick, ↓o_eqInt, ↓o_neInt, ↓o_eqBool, ↓o_neBool, ↓o_eqPtr, ↓o_nePtr, ↓o_eqPtr', ↓o_eqSl, ↓o_neSl, ↓o_eqStr, ↓o_neStr, ↓o_len, ↓o_lenS, ↓o_min, ↓o_max, ↓o_extract, ↓o_convInt, ↓cd_true, ↓cd_false, ↓gate_tt, ↓gate_ff, ↓gate_tf, ↓gate_ft, ↓gate_undef, ↓o_bind, ↓stay_v, ↓pop_cons, ↓fin_nil, Option.isNone_none, Option.isNone_some, Bool.not_true, Bool.not_false, Nat.zero_add, decide_true, decide_false, if_true, if_false, Bool.false_eq_true, ↓reduceIte]
          try simp only [ix, ↓o_nil, ↓o_field, ↓o_add, ↓o_sub, ↓o_mul, ↓o_lss, ↓o_leq, ↓o_gtr, ↓o_geq, ↓o_not, ↓o_pick, ↓o_eqInt, ↓o_neInt, ↓o_eqBool, ↓o_neBool, ↓o_eqPtr, ↓o_nePtr, ↓o_eqPtr', ↓o_eqSl, ↓o_neSl, ↓o_eqStr, ↓o_neStr, ↓o_len, ↓o_lenS, ↓o_min, ↓o_max, ↓o_extract, ↓o_convInt, ↓cd_true, ↓cd_false, ↓gate_tt, ↓gate_ff, ↓gate_tf, ↓gate_ft, ↓gate_undef, ↓o_bind, ↓stay_v, ↓pop_cons, ↓fin_nil, Option.isNone_none, Option.isNone_some, Bool.not_true, Bool.not_false, Nat.zero_add, decide_true, decide_false, if_true, if_false, Bool.false_eq_true, ↓reduceIte] at hy
          exact cd_any hy hno
    · clear h
      rintro σ w ⟨out', a', s'', vf'', vt'', rfl, ha', fw'', h⟩
      rw [pop_cons, fin_nil]
      try rw [o_add]
      rw [i64_of (by omega) (by omega)]
      exact hag (s.f.length - (i + 1)) _ _ (by omega) ⟨i + 1, out', a', s'', vf'', vt'', rfl, rfl, by omega, ha', fw'', h⟩
  · refine k out a s' vf' vt' w (by omega) fw' ?_
    have h := h.perm (show _ = pers (immS (.slice va s.f.length vc) s.f.length (fvs s.f)) * (osl 3 1 out a.length (a.map iv) * rI q s' vf' vt' R) by ac_rfl)
    exact h.drop
end Go.Proofs.YtbcimkjgpplcpaaGreatDoor.T

/-
  The reference's deeds, as far as that they answer: grants, refreshes, sweeps.
-/
set_option linter.all false
set_option maxRecDepth 100000
namespace Go.Proofs.YtbcimkjgpplcpaaGreatDoor.T
open Go Hold
variable {E : World0} {w : World} {H R X : HP} {K : Value → World → Prop}
theorem REndSessions_spec {q : Nat} {s : Rs} {vf vt v : Value} {l : List Int} {m : Nat} (fw : Few s m) (hm : m ≤ 900000) (h : sat E w (rI q s vf vt R)) (hv : Rds R v l.length (l.map iv)) (hl : l.length ≤ 9223372036854775807)
    (k : ∀ u (a : List Int) s' vf' vt' w', a.length ≤ m → Few s' m → sat E w' (osl 3 1 u a.length (a.map iv) * rI q s' vf' vt' R) → K u w') : Calls prog 29 #[.pointer (some ⟨q, 0, none⟩), v] w (Ret K) := by
  refine c29 ?_
  unfold B29
  exact Rends_spec (cl := []) fw hm h hv hl k
theorem REndClient_spec {q : Nat} {s : Rs} {vf vt v : Value} {l : List Int} {cl : List UInt8} {m : Nat} (fw : Few s m) (hm : m ≤ 900000) (h : sat E w (rI q s vf vt R)) (hv : Rds R v l.length (l.map iv)) (hl : l.length ≤ 9223372036854775807)
    (k : ∀ u (a : List Int) s' vf' vt' w', a.length ≤ m → Few s' m → sat E w' (osl 3 1 u a.length (a.map iv) * rI q s' vf' vt' R) → K u w') : Calls prog 30 #[.pointer (some ⟨q, 0, none⟩), tv cl, v] w (Ret K) := by
  refine c30 ?_
  unfold B30
  rw [show (.string ⟨#[]⟩ : Value) = tv [] from rfl, o_eqT]
  exact cd_any (k _ [] s vf vt w (by simp) fw (osl_nil h 3 1)) (Rends_spec (cl := cl) fw hm h hv hl k)
theorem RSweep_spec {q : Nat} {s : Rs} {vf vt : Value} {now : Int} {m : Nat} (fw : Few s m) (hm : m ≤ 900000) (h : sat E w (rI q s vf vt R))
    (k : ∀ n e s' vf' vt' w', Few s' m → sat E w' (rI q s' vf' vt' R) → K (.tuple #[.int .i64 n, .int .i64 e]) w') : Calls prog 31 #[.pointer (some ⟨q, 0, none⟩), .int .i64 now] w (Ret K) := by
  have hf := fw.f
  have ht := fw.t
  obtain ⟨ua, uc, rfl, huc, hu, _⟩ := (rds_t (s := s)).shape h
  refine c31 ?_
  unfold B31
  refine Rtime_spec (s := s) (vf := vf) (vt := .slice ua s.t.length uc) h fun e => ?_
  rw [o_neInt]
  refine cd_any (k _ _ s vf _ w fw h) ?_
  simp only [↓o_nil, ↓o_field, ↓o_add, ↓o_sub, ↓o_mul, ↓o_lss, ↓o_leq, ↓o_gtr, ↓o_geq, ↓o_not, ↓o_pick, ↓o_eqInt, ↓o_neInt, ↓o_eqBool, ↓o_neBool, ↓o_eqPtr, ↓o_nePtr, ↓o_eqPtr', ↓o_eqSl, ↓o_neSl, ↓o_eqStr, ↓o_neStr, ↓o_len, ↓o_lenS, ↓o_min, ↓o_max, ↓o_extract, ↓o_convInt, ↓cd_true, ↓cd_false, ↓gate_tt, ↓gate_ff, ↓gate_tf, ↓gate_ft, ↓gate_undef, ↓o_bind, ↓stay_v, ↓pop_cons, ↓fin_nil, Option.isNone_none, Option.isNone_some, Bool.not_true, Bool.not_false, Nat.zero_add, decide_true, decide_false, if_true, if_false, Bool.false_eq_true, ↓reduceIte]
  refine store_sl (b := q) h rfl (by simp [rcells]) fun w h => ?_
  have h : sat E w (rI q { s with noted := now } vf (.slice ua s.t.length uc) R) := h
  refine lp_nat (fun r σ w => ∃ (i : Nat) (n : Int) (out2 : Value) (l2 : List Tok), σ = [out2, .int .i64 n, .int .i64 (i : Int)] ∧ r = s.t.length - i ∧ i ≤ s.t.length ∧ l2.length ≤ i ∧
      sat E w (osl 49 4 out2 l2.length (kvs l2) * rI q { s with noted := now } vf (.slice ua s.t.length uc) R)) s.t.length ⟨0, 0, _, [], rfl, by omega, by omega, by simp, osl_nil h 49 4⟩ ?_
  clear h
  rintro r σ w again ⟨j, n, out2, l2, rfl, rfl, hj, hl2, h⟩ hag
  rw [pop_cons, pop_cons, pop_cons, fin_nil]
  refine ld_in (b := q) (v := .slice ua s.t.length uc) h rfl ?_
  try simp only [↓o_nil, ↓o_field, ↓o_add, ↓o_sub, ↓o_mul, ↓o_lss, ↓o_leq, ↓o_gtr, ↓o_geq, ↓o_not, ↓o_pick, ↓o_eqInt, ↓o_neInt, ↓o_eqBool, ↓o_neBool, ↓o_eqPtr, ↓o_nePtr, ↓o_eqPtr', ↓o_eqSl, ↓o_neSl, ↓o_eqStr, ↓o_neStr, ↓o_len, ↓o_lenS, ↓o_min, ↓o_max, ↓o_extract, ↓o_convInt, ↓cd_true, ↓cd_false, ↓gate_tt, ↓gate_ff, ↓gate_tf, ↓gate_ft, ↓gate_undef, ↓o_bind, ↓stay_v, ↓pop_cons, ↓fin_nil, Option.isNone_none, Option.isNone_some, Bool.not_true, Bool.not_false, Nat.zero_add, decide_true, decide_false, if_true, if_false, Bool.false_eq_true, ↓reduceIte]
  refine cd_dec (fun hlt => ?_) (fun hge => ?_)
  · have hi1 : j < s.t.length := by omega
    have hx : s.t[j]? = some s.t[j] := List.getElem?_eq_getElem hi1
    generalize s.t[j] = x at hx
    have hu0 : Rds (osl 49 4 out2 l2.length (kvs l2) * rI q { s with noted := now } vf (.slice ua s.t.length uc) R) (.slice ua s.t.length uc) s.t.length (kvs s.t) := Rds.pers.left.right.right.right
    obtain ⟨b', o, c', e, hc', hrd⟩ := hu0.opened h (by rw [kvs_length]; omega)
    cases e
    refine jn_cut (fun σ w => ∃ (out' : Value) (n' : Int) (l' : List Tok), σ = [out', .int .i64 n'] ∧ l'.length ≤ j + 1 ∧ sat E w (osl 49 4 out' l'.length (kvs l') * rI q { s with noted := now } vf (.slice (some ⟨b', o, none⟩) s.t.length uc) R)) (fun kj hkj => ?_) ?_
    · refine ld_in (b := q) (v := .slice (some ⟨b', o, none⟩) s.t.length uc) h rfl ?_
      rw [o_index (by omega) (by omega), o_field]
      refine ld_rd h hrd (j * 4 + 3) (by rw [Int.toNat_natCast]; omega) (take_cell (kvs_at hx) rfl) ?_
      rw [o_lss]
      refine cd_any ?_ ?_
      · refine ld_in (b := q) (v := .slice (some ⟨b', o, none⟩) s.t.length uc) h rfl ?_
        rw [o_index (by omega) (by omega)]
        refine ld_el h hrd (j * 4) (by simp) (kcells x) rfl (kvs_at hx) ?_
        refine buildSlice_sl (e := 49) (cs := (kcells x).toArray) h (fun w => by kernel_rfl) fun b5 w h => ?_
        refine append_sl (v := out2) h (kcells x) (k' := 1) rfl (.inr ⟨b5, 0, _, _, _, rfl, h.pts_get, fun j v hj => by simpa using hj⟩) (kcells_one x) (by omega) (by omega) fun v' w h => ?_
        refine hkj _ _ ⟨v', n, l2 ++ [x], rfl, by simp; omega, ?_⟩
        have h := h.lose b5
        rw [kvs_append, List.length_append]
        simpa [kvs] using h
      · try rw [o_add]
        exact hkj _ _ ⟨out2, _, l2, rfl, by omega, h⟩
    · clear h
      rintro σ w ⟨out', n', l', rfl, hl', h⟩
      rw [pop_cons, pop_cons, fin_nil]
      try rw [o_add]
      rw [i64_of (by omega) (by omega)]
      exact hag (s.t.length - (j + 1)) _ _ (by omega) ⟨j + 1, n', out', l', rfl, rfl, by omega, hl', h⟩
  · have hone2 : out2.oneCell' = true := by
      obtain ⟨_, _, rfl, _⟩ := osl_shape h
      rfl
    refine store_sl (b := q) h hone2 (by simp [rcells]) fun w h => ?_
    refine k n 0 ⟨s.fam, s.tok, now, s.f, l2⟩ vf out2 w ⟨hf, by simp only; omega⟩ (rI_mk2 ?_)
    have h := h.perm (show _ = pers (immS (.slice ua s.t.length uc) s.t.length (kvs s.t)) * (pts q (.cells (rcells ⟨s.fam, s.tok, now, s.f, l2⟩ vf out2).toArray 69 (0, 0)) * (pers (immS vf s.f.length (fvs s.f)) * (osl 49 4 out2 l2.length (kvs l2) * R))) by
      simp only [rcells, List.set_cons_zero, List.set_cons_succ]
      ac_rfl)
    exact h.drop
theorem fvs_set : ∀ {l : List Fam} {i : Nat} {y : Fam}, i < l.length → (fvs l).take (i * 5) ++ fcells y ++ (fvs l).drop (i * 5 + 5) = fvs (l.set i y)
  | [], i, y, h => by simp at h
  | x :: l, 0, y, h => by simp [fvs, fcells]
  | x :: l, i + 1, y, h => by
    have ih := fvs_set (l := l) (i := i) (y := y) (by simpa using h)
    have hx : (fcells x).length = 5 := rfl
    simp only [fvs, List.flatMap_cons, List.set_cons_succ] at ih ⊢
    rw [← ih, show (i + 1) * 5 = 5 + i * 5 by omega, show 5 + i * 5 + 5 = 5 + (i * 5 + 5) by omega]
    rw [← hx, List.take_length_add_append, List.drop_length_add_append]
    simp [List.append_assoc]
theorem RGrant_spec {q : Nat} {s : Rs} {vf vt : Value} {ses now : Int} {cl : List UInt8} {sc : UInt8} {m : Nat} (fw : Few s m) (hm : m ≤ 800000) (hcl : cl.length ≤ 9223372036854775807) (h : sat E w (rI q s vf vt R))
    (k : ∀ x y e s' vf' vt' w', Few s' (m + 2) → sat E w' (rI q s' vf' vt' R) → K (.tuple #[fv x, kv y, .int .i64 e]) w') :
    Calls prog 23 #[.pointer (some ⟨q, 0, none⟩), .int .i64 ses, tv cl, bv sc, .int .i64 now] w (Ret K) := by
  have hfl := fw.f
  have htl := fw.t
  refine c23 ?_
  unfold B23
  refine fam_new h fun a w h => ?_
  refine tok_new h fun b w h => ?_
  refine fam_new h fun f w h => ?_
  refine tok_new h fun t w h => ?_
  simp only [↓o_eqPtr, Option.isNone_some, ↓cd_false]
  have out : ∀ (w : World) (e : Int), sat E w (pts t (.cells (kcells zeroK).toArray 49 (0, 0)) * (pts f (.cells (fcells zeroF).toArray 35 (0, 0)) * (pts b (.cells (kcells zeroK).toArray 49 (0, 0)) * (pts a (.cells (fcells zeroF).toArray 35 (0, 0)) * rI q s vf vt R)))) →
      dr w fun w =>
      bindS (vN (Instr.loadAt 35 (.pointer (some ⟨f, 0, none⟩)))) fun m_6 => ldv prog (Instr.loadAt 35 (.pointer (some ⟨f, 0, none⟩))) w fun t_5 w =>
      bindS (vN (Instr.loadAt 49 (.pointer (some ⟨t, 0, none⟩)))) fun m_8 => ldv prog (Instr.loadAt 49 (.pointer (some ⟨t, 0, none⟩))) w fun t_7 w =>
      efu prog (Instr.storeAt 35 (.pointer (some ⟨a, 0, none⟩)) t_5) w fun u_9 w => stay prog none m_8 t_7 w <|
      efu prog (Instr.storeAt 49 (.pointer (some ⟨b, 0, none⟩)) t_7) w fun u_10 w =>
      ∃ r_11, (do loadVar 35 (← asAddr (.pointer (some ⟨a, 0, none⟩)))).run prog w = .ok r_11 w ∧ ∃ r_12, (do loadVar 49 (← asAddr (.pointer (some ⟨b, 0, none⟩)))).run prog w = .ok r_12 w ∧ K (.tuple #[r_11, r_12, .int .i64 e]) w := by
    intro w e h
    refine dr_sl h fun w h _ => ?_
    simp only [↓o_nil, ↓o_field, ↓o_add, ↓o_sub, ↓o_mul, ↓o_lss, ↓o_leq, ↓o_gtr, ↓o_geq, ↓o_not, ↓o_pick, ↓o_eqInt, ↓o_neInt, ↓o_eqBool, ↓o_neBool, ↓o_eqPtr, ↓o_nePtr, ↓o_eqPtr', ↓o_eqSl, ↓o_neSl, ↓o_eqStr, ↓o_neStr, ↓o_len, ↓o_lenS, ↓o_min, ↓o_max, ↓o_extract, ↓o_convInt, ↓cd_true, ↓cd_false, ↓gate_tt, ↓gate_ff, ↓gate_tf, ↓gate_ft, ↓gate_undef, ↓o_bind, ↓stay_v, ↓pop_cons, ↓fin_nil, Option.isNone_none, Option.isNone_some, Bool.not_true, Bool.not_false, Nat.zero_add, decide_true, decide_false, if_true, if_false, Bool.false_eq_true, ↓reduceIte]
    refine ld_agg (b := f) (xs := fcells zeroF) h rfl ?_
    refine ld_agg (b := t) (xs := kcells zeroK) h rfl ?_
    refine store_all (b := a) h (xs := fcells zeroF) (vs := fcells zeroF) rfl rfl (fcells_one zeroF) fun w h => ?_
    refine st_agg (b := t) (xs := kcells zeroK) h rfl ?_
    refine store_all (b := b) h (xs := kcells zeroK) (vs := kcells zeroK) rfl rfl (kcells_one zeroK) fun w h => ?_
    refine res_agg (P := prog) (t := 35) (K := fun r w => ∃ r2, (do loadVar 49 (← asAddr (.pointer (some ⟨b, 0, none⟩)))).run prog w = .ok r2 w ∧ K (.tuple #[r, r2, .int .i64 e]) w) h (b := a) (xs := fcells zeroF) rfl ?_
    exact res_agg (P := prog) (t := 49) (K := fun r2 w => K (.tuple #[fv zeroF, r2, .int .i64 e]) w) h (b := b) (xs := kcells zeroK) rfl (k _ _ _ s vf vt w fw.up.up h.drop.drop.drop.drop)
  have o2 := out w 2 h
  rw [o_lss]
  by_cases h1 : ses < 1
  · simp only [h1, ↓o_nil, ↓o_field, ↓o_add, ↓o_sub, ↓o_mul, ↓o_lss, ↓o_leq, ↓o_gtr, ↓o_geq, ↓o_not, ↓o_pick, ↓o_eqInt, ↓o_neInt, ↓o_eqBool, ↓o_neBool, ↓o_eqPtr, ↓o_nePtr, ↓o_eqPtr', ↓o_eqSl, ↓o_neSl, ↓o_eqStr, ↓o_neStr, ↓o_len, ↓o_lenS, ↓o_min, ↓o_max, ↓o_extract, ↓o_convInt, ↓cd_true, ↓cd_false, ↓gate_tt, ↓gate_ff, ↓gate_tf, ↓gate_ft, ↓gate_undef, ↓o_bind, ↓stay_v, ↓pop_cons, ↓fin_nil, Option.isNone_none, Option.isNone_some, Bool.not_true, Bool.not_false, Nat.zero_add, decide_true, decide_false, if_true, if_false, Bool.false_eq_true, ↓reduceIte] at o2 ⊢
    exact o2
  by_cases h2 : now < 0
  · simp only [h1, h2, ↓o_nil, ↓o_field, ↓o_add, ↓o_sub, ↓o_mul, ↓o_lss, ↓o_leq, ↓o_gtr, ↓o_geq, ↓o_not, ↓o_pick, ↓o_eqInt, ↓o_neInt, ↓o_eqBool, ↓o_neBool, ↓o_eqPtr, ↓o_nePtr, ↓o_eqPtr', ↓o_eqSl, ↓o_neSl, ↓o_eqStr, ↓o_neStr, ↓o_len, ↓o_lenS, ↓o_min, ↓o_max, ↓o_extract, ↓o_convInt, ↓cd_true, ↓cd_false, ↓gate_tt, ↓gate_ff, ↓gate_tf, ↓gate_ft, ↓gate_undef, ↓o_bind, ↓stay_v, ↓pop_cons, ↓fin_nil, Option.isNone_none, Option.isNone_some, Bool.not_true, Bool.not_false, Nat.zero_add, decide_true, decide_false, if_true, if_false, Bool.false_eq_true, ↓reduceIte] at o2 ⊢
    exact o2
  by_cases h3 : 1099511627776 < now
  · simp only [h1, h2, h3, ↓o_nil, ↓o_field, ↓o_add, ↓o_sub, ↓o_mul, ↓o_lss, ↓o_leq, ↓o_gtr, ↓o_geq, ↓o_not, ↓o_pick, ↓o_eqInt, ↓o_neInt, ↓o_eqBool, ↓o_neBool, ↓o_eqPtr, ↓o_nePtr, ↓o_eqPtr', ↓o_eqSl, ↓o_neSl, ↓o_eqStr, ↓o_neStr, ↓o_len, ↓o_lenS, ↓o_min, ↓o_max, ↓o_extract, ↓o_convInt, ↓cd_true, ↓cd_false, ↓gate_tt, ↓gate_ff, ↓gate_tf, ↓gate_ft, ↓gate_undef, ↓o_bind, ↓stay_v, ↓pop_cons, ↓fin_nil, Option.isNone_none, Option.isNone_some, Bool.not_true, Bool.not_false, Nat.zero_add, decide_true, decide_false, if_true, if_false, Bool.false_eq_true, ↓reduceIte] at o2 ⊢
    exact o2
  simp only [h1, h2, h3, ↓o_nil, ↓o_field, ↓o_add, ↓o_sub, ↓o_mul, ↓o_lss, ↓o_leq, ↓o_gtr, ↓o_geq, ↓o_not, ↓o_pick, ↓o_eqInt, ↓o_neInt, ↓o_eqBool, ↓o_neBool, ↓o_eqPtr, ↓o_nePtr, ↓o_eqPtr', ↓o_eqSl, ↓o_neSl, ↓o_eqStr, ↓o_neStr, ↓o_len, ↓o_lenS, ↓o_min, ↓o_max, ↓o_extract, ↓o_convInt, ↓cd_true, ↓cd_false, ↓gate_tt, ↓gate_ff, ↓gate_tf, ↓gate_ft, ↓gate_undef, ↓o_bind, ↓stay_v, ↓pop_cons, ↓fin_nil, Option.isNone_none, Option.isNone_some, Bool.not_true, Bool.not_false, Nat.zero_add, decide_true, decide_false, if_true, if_false, Bool.false_eq_true, ↓reduceIte]
  refine RIsName_spec h hcl fun w h => ?_
  by_cases hn : isName cl = true
  case neg =>
    have hn : isName cl = false := by simpa using hn
    have o := out w 8 h
    simp only [hn, ↓o_nil, ↓o_field, ↓o_add, ↓o_sub, ↓o_mul, ↓o_lss, ↓o_leq, ↓o_gtr, ↓o_geq, ↓o_not, ↓o_pick, ↓o_eqInt, ↓o_neInt, ↓o_eqBool, ↓o_neBool, ↓o_eqPtr, ↓o_nePtr, ↓o_eqPtr', ↓o_eqSl, ↓o_neSl, ↓o_eqStr, ↓o_neStr, ↓o_len, ↓o_lenS, ↓o_min, ↓o_max, ↓o_extract, ↓o_convInt, ↓cd_true, ↓cd_false, ↓gate_tt, ↓gate_ff, ↓gate_tf, ↓gate_ft, ↓gate_undef, ↓o_bind, ↓stay_v, ↓pop_cons, ↓fin_nil, Option.isNone_none, Option.isNone_some, Bool.not_true, Bool.not_false, Nat.zero_add, decide_true, decide_false, if_true, if_false, Bool.false_eq_true, ↓reduceIte] at o ⊢
    exact o
  simp only [hn, ↓o_nil, ↓o_field, ↓o_add, ↓o_sub, ↓o_mul, ↓o_lss, ↓o_leq, ↓o_gtr, ↓o_geq, ↓o_not, ↓o_pick, ↓o_eqInt, ↓o_neInt, ↓o_eqBool, ↓o_neBool, ↓o_eqPtr, ↓o_nePtr, ↓o_eqPtr', ↓o_eqSl, ↓o_neSl, ↓o_eqStr, ↓o_neStr, ↓o_len, ↓o_lenS, ↓o_min, ↓o_max, ↓o_extract, ↓o_convInt, ↓cd_true, ↓cd_false, ↓gate_tt, ↓gate_ff, ↓gate_tf, ↓gate_ft, ↓gate_undef, ↓o_bind, ↓stay_v, ↓pop_cons, ↓fin_nil, Option.isNone_none, Option.isNone_some, Bool.not_true, Bool.not_false, Nat.zero_add, decide_true, decide_false, if_true, if_false, Bool.false_eq_true, ↓reduceIte]
  refine ld_in (b := q) (v := .int .i64 s.noted) h rfl ?_
  rw [o_lss]
  have o9 := out w 9 h
  have o7 := out w 7 h
  try simp only [↓o_nil, ↓o_field, ↓o_add, ↓o_sub, ↓o_mul, ↓o_lss, ↓o_leq, ↓o_gtr, ↓o_geq, ↓o_not, ↓o_pick, ↓o_eqInt, ↓o_neInt, ↓o_eqBool, ↓o_neBool, ↓o_eqPtr, ↓o_nePtr, ↓o_eqPtr', ↓o_eqSl, ↓o_neSl, ↓o_eqStr, ↓o_neStr, ↓o_len, ↓o_lenS, ↓o_min, ↓o_max, ↓o_extract, ↓o_convInt, ↓cd_true, ↓cd_false, ↓gate_tt, ↓gate_ff, ↓gate_tf, ↓gate_ft, ↓gate_undef, ↓o_bind, ↓stay_v, ↓pop_cons, ↓fin_nil, Option.isNone_none, Option.isNone_some, Bool.not_true, Bool.not_false, Nat.zero_add, decide_true, decide_false, if_true, if_false, Bool.false_eq_true, ↓reduceIte] at o9 o7
  refine cd_any o9 ?_
  refine ld_in (b := q) (v := .int .i64 s.fam) h rfl ?_
  rw [o_gtr]
  by_cases f1 : 1099511627776 < s.fam
  · simp only [decide_eq_true f1, ↓o_nil, ↓o_field, ↓o_add, ↓o_sub, ↓o_mul, ↓o_lss, ↓o_leq, ↓o_gtr, ↓o_geq, ↓o_not, ↓o_pick, ↓o_eqInt, ↓o_neInt, ↓o_eqBool, ↓o_neBool, ↓o_eqPtr, ↓o_nePtr, ↓o_eqPtr', ↓o_eqSl, ↓o_neSl, ↓o_eqStr, ↓o_neStr, ↓o_len, ↓o_lenS, ↓o_min, ↓o_max, ↓o_extract, ↓o_convInt, ↓cd_true, ↓cd_false, ↓gate_tt, ↓gate_ff, ↓gate_tf, ↓gate_ft, ↓gate_undef, ↓o_bind, ↓stay_v, ↓pop_cons, ↓fin_nil, Option.isNone_none, Option.isNone_some, Bool.not_true, Bool.not_false, Nat.zero_add, decide_true, decide_false, if_true, if_false, Bool.false_eq_true, ↓reduceIte]
    exact o7
  simp only [decide_eq_false f1, ↓o_nil, ↓o_field, ↓o_add, ↓o_sub, ↓o_mul, ↓o_lss, ↓o_leq, ↓o_gtr, ↓o_geq, ↓o_not, ↓o_pick, ↓o_eqInt, ↓o_neInt, ↓o_eqBool, ↓o_neBool, ↓o_eqPtr, ↓o_nePtr, ↓o_eqPtr', ↓o_eqSl, ↓o_neSl, ↓o_eqStr, ↓o_neStr, ↓o_len, ↓o_lenS, ↓o_min, ↓o_max, ↓o_extract, ↓o_convInt, ↓cd_true, ↓cd_false, ↓gate_tt, ↓gate_ff, ↓gate_tf, ↓gate_ft, ↓gate_undef, ↓o_bind, ↓stay_v, ↓pop_cons, ↓fin_nil, Option.isNone_none, Option.isNone_some, Bool.not_true, Bool.not_false, Nat.zero_add, decide_true, decide_false, if_true, if_false, Bool.false_eq_true, ↓reduceIte]
  refine ld_in (b := q) (v := .int .i64 s.tok) h rfl ?_
  try simp only [↓o_nil, ↓o_field, ↓o_add, ↓o_sub, ↓o_mul, ↓o_lss, ↓o_leq, ↓o_gtr, ↓o_geq, ↓o_not, ↓o_pick, ↓o_eqInt, ↓o_neInt, ↓o_eqBool, ↓o_neBool, ↓o_eqPtr, ↓o_nePtr, ↓o_eqPtr', ↓o_eqSl, ↓o_neSl, ↓o_eqStr, ↓o_neStr, ↓o_len, ↓o_lenS, ↓o_min, ↓o_max, ↓o_extract, ↓o_convInt, ↓cd_true, ↓cd_false, ↓gate_tt, ↓gate_ff, ↓gate_tf, ↓gate_ft, ↓gate_undef, ↓o_bind, ↓stay_v, ↓pop_cons, ↓fin_nil, Option.isNone_none, Option.isNone_some, Bool.not_true, Bool.not_false, Nat.zero_add, decide_true, decide_false, if_true, if_false, Bool.false_eq_true, ↓reduceIte]
  refine cd_any o7 ?_
  have h := h.perm (show _ = rI q s vf vt (pts t (.cells (kcells zeroK).toArray 49 (0, 0)) * (pts f (.cells (fcells zeroF).toArray 35 (0, 0)) * (pts b (.cells (kcells zeroK).toArray 49 (0, 0)) * (pts a (.cells (fcells zeroF).toArray 35 (0, 0)) * R)))) by unfold rI; ac_rfl)
  refine RFams_spec fw (by omega) h fun u l w hl h => ?_
  obtain ⟨ua, uc, rfl, _, _, _⟩ := osl_shape h
  have h := h.drop
  have h := h.perm (show _ = pts t (.cells (kcells zeroK).toArray 49 (0, 0)) * (pts f (.cells (fcells zeroF).toArray 35 (0, 0)) * (pts b (.cells (kcells zeroK).toArray 49 (0, 0)) * (pts a (.cells (fcells zeroF).toArray 35 (0, 0)) * rI q s vf vt R))) by unfold rI; ac_rfl)
  rw [o_len, o_geq]
  have o23 := out w 23 h
  try simp only [↓o_nil, ↓o_field, ↓o_add, ↓o_sub, ↓o_mul, ↓o_lss, ↓o_leq, ↓o_gtr, ↓o_geq, ↓o_not, ↓o_pick, ↓o_eqInt, ↓o_neInt, ↓o_eqBool, ↓o_neBool, ↓o_eqPtr, ↓o_nePtr, ↓o_eqPtr', ↓o_eqSl, ↓o_neSl, ↓o_eqStr, ↓o_neStr, ↓o_len, ↓o_lenS, ↓o_min, ↓o_max, ↓o_extract, ↓o_convInt, ↓cd_true, ↓cd_false, ↓gate_tt, ↓gate_ff, ↓gate_tf, ↓gate_ft, ↓gate_undef, ↓o_bind, ↓stay_v, ↓pop_cons, ↓fin_nil, Option.isNone_none, Option.isNone_some, Bool.not_true, Bool.not_false, Nat.zero_add, decide_true, decide_false, if_true, if_false, Bool.false_eq_true, ↓reduceIte] at o23
  refine cd_any o23 ?_
  clear o23 o9 o7 o2 out
  try simp only [↓o_nil, ↓o_field, ↓o_add, ↓o_sub, ↓o_mul, ↓o_lss, ↓o_leq, ↓o_gtr, ↓o_geq, ↓o_not, ↓o_pick, ↓o_eqInt, ↓o_neInt, ↓o_eqBool, ↓o_neBool, ↓o_eqPtr, ↓o_nePtr, ↓o_eqPtr', ↓o_eqSl, ↓o_neSl, ↓o_eqStr, ↓o_neStr, ↓o_len, ↓o_lenS, ↓o_min, ↓o_max, ↓o_extract, ↓o_convInt, ↓cd_true, ↓cd_false, ↓gate_tt, ↓gate_ff, ↓gate_tf, ↓gate_ft, ↓gate_undef, ↓o_bind, ↓stay_v, ↓pop_cons, ↓fin_nil, Option.isNone_none, Option.isNone_some, Bool.not_true, Bool.not_false, Nat.zero_add, decide_true, decide_false, if_true, if_false, Bool.false_eq_true, ↓reduceIte]
  refine ld_in (b := q) (v := .int .i64 s.fam) h rfl ?_
  refine pvv_of (v := fv ⟨s.fam, ses, cl, sc, 1⟩) (fun w => by kernel_rfl) ?_
  generalize hx : (⟨s.fam, ses, cl, sc, 1⟩ : Fam) = x
  have hxid : x.id = s.fam := by rw [← hx]
  have hxsc : x.sc = sc := by rw [← hx]
  refine store_all (b := f) h (xs := fcells zeroF) (vs := fcells x) rfl rfl (fcells_one _) fun w h => ?_
  try simp only [↓o_nil, ↓o_field, ↓o_add, ↓o_sub, ↓o_mul, ↓o_lss, ↓o_leq, ↓o_gtr, ↓o_geq, ↓o_not, ↓o_pick, ↓o_eqInt, ↓o_neInt, ↓o_eqBool, ↓o_neBool, ↓o_eqPtr, ↓o_nePtr, ↓o_eqPtr', ↓o_eqSl, ↓o_neSl, ↓o_eqStr, ↓o_neStr, ↓o_len, ↓o_lenS, ↓o_min, ↓o_max, ↓o_extract, ↓o_convInt, ↓cd_true, ↓cd_false, ↓gate_tt, ↓gate_ff, ↓gate_tf, ↓gate_ft, ↓gate_undef, ↓o_bind, ↓stay_v, ↓pop_cons, ↓fin_nil, Option.isNone_none, Option.isNone_some, Bool.not_true, Bool.not_false, Nat.zero_add, decide_true, decide_false, if_true, if_false, Bool.false_eq_true, ↓reduceIte]
  refine ld_in (b := q) (v := .int .i64 s.fam) h rfl ?_
  try simp only [↓o_nil, ↓o_field, ↓o_add, ↓o_sub, ↓o_mul, ↓o_lss, ↓o_leq, ↓o_gtr, ↓o_geq, ↓o_not, ↓o_pick, ↓o_eqInt, ↓o_neInt, ↓o_eqBool, ↓o_neBool, ↓o_eqPtr, ↓o_nePtr, ↓o_eqPtr', ↓o_eqSl, ↓o_neSl, ↓o_eqStr, ↓o_neStr, ↓o_len, ↓o_lenS, ↓o_min, ↓o_max, ↓o_extract, ↓o_convInt, ↓cd_true, ↓cd_false, ↓gate_tt, ↓gate_ff, ↓gate_tf, ↓gate_ft, ↓gate_undef, ↓o_bind, ↓stay_v, ↓pop_cons, ↓fin_nil, Option.isNone_none, Option.isNone_some, Bool.not_true, Bool.not_false, Nat.zero_add, decide_true, decide_false, if_true, if_false, Bool.false_eq_true, ↓reduceIte]
  refine store_sl (b := q) h rfl (by simp [rcells]) fun w h => ?_
  try simp only [↓o_nil, ↓o_field, ↓o_add, ↓o_sub, ↓o_mul, ↓o_lss, ↓o_leq, ↓o_gtr, ↓o_geq, ↓o_not, ↓o_pick, ↓o_eqInt, ↓o_neInt, ↓o_eqBool, ↓o_neBool, ↓o_eqPtr, ↓o_nePtr, ↓o_eqPtr', ↓o_eqSl, ↓o_neSl, ↓o_eqStr, ↓o_neStr, ↓o_len, ↓o_lenS, ↓o_min, ↓o_max, ↓o_extract, ↓o_convInt, ↓cd_true, ↓cd_false, ↓gate_tt, ↓gate_ff, ↓gate_tf, ↓gate_ft, ↓gate_undef, ↓o_bind, ↓stay_v, ↓pop_cons, ↓fin_nil, Option.isNone_none, Option.isNone_some, Bool.not_true, Bool.not_false, Nat.zero_add, decide_true, decide_false, if_true, if_false, Bool.false_eq_true, ↓reduceIte]
  refine store_sl (b := q) h rfl (by simp [rcells]) fun w h => ?_
  try simp only [↓o_nil, ↓o_field, ↓o_add, ↓o_sub, ↓o_mul, ↓o_lss, ↓o_leq, ↓o_gtr, ↓o_geq, ↓o_not, ↓o_pick, ↓o_eqInt, ↓o_neInt, ↓o_eqBool, ↓o_neBool, ↓o_eqPtr, ↓o_nePtr, ↓o_eqPtr', ↓o_eqSl, ↓o_neSl, ↓o_eqStr, ↓o_neStr, ↓o_len, ↓o_lenS, ↓o_min, ↓o_max, ↓o_extract, ↓o_convInt, ↓cd_true, ↓cd_false, ↓gate_tt, ↓gate_ff, ↓gate_tf, ↓gate_ft, ↓gate_undef, ↓o_bind, ↓stay_v, ↓pop_cons, ↓fin_nil, Option.isNone_none, Option.isNone_some, Bool.not_true, Bool.not_false, Nat.zero_add, decide_true, decide_false, if_true, if_false, Bool.false_eq_true, ↓reduceIte]
  have h : sat E w (pts q (.cells (rcells ⟨IntKind.i64.wrap (s.fam + 1), s.tok, now, s.f, s.t⟩ vf vt).toArray 69 (0, 0)) * (pts f (.cells (fcells x).toArray 35 (0, 0)) * (pts t (.cells (kcells zeroK).toArray 49 (0, 0)) * (pts b (.cells (kcells zeroK).toArray 49 (0, 0)) * (pts a (.cells (fcells zeroF).toArray 35 (0, 0)) * (pers (immS vf s.f.length (fvs s.f)) * (pers (immS vt s.t.length (kvs s.t)) * R))))))) := h.perm (by simp only [rcells, List.set_cons_zero, List.set_cons_succ]; try ac_rfl)
  refine ld_in (b := q) (v := vf) h rfl ?_
  refine copyF (l := s.f) (by omega) h Rds.pers.left.right.right.right.right.right fun u w h => ?_
  refine ld_agg (b := f) (xs := fcells x) h rfl ?_
  refine buildSlice_sl (e := 35) (cs := (fcells x).toArray) h (fun w => by kernel_rfl) fun b5 w h => ?_
  refine append_sl (v := u) h (fcells x) (k' := 1) rfl (.inr ⟨b5, 0, _, _, _, rfl, h.pts_get, fun j v hj => by simpa using hj⟩) (fcells_one _) (by omega) (by omega) fun v3 w h => ?_
  have h := h.lose b5
  have e9 : fvs s.f ++ fcells x = fvs (s.f ++ [x]) := by simp [fvs]
  rw [e9] at h
  have hone : v3.oneCell' = true := by
    obtain ⟨_, _, rfl, _⟩ := osl_shape h
    rfl
  try simp only [↓o_nil, ↓o_field, ↓o_add, ↓o_sub, ↓o_mul, ↓o_lss, ↓o_leq, ↓o_gtr, ↓o_geq, ↓o_not, ↓o_pick, ↓o_eqInt, ↓o_neInt, ↓o_eqBool, ↓o_neBool, ↓o_eqPtr, ↓o_nePtr, ↓o_eqPtr', ↓o_eqSl, ↓o_neSl, ↓o_eqStr, ↓o_neStr, ↓o_len, ↓o_lenS, ↓o_min, ↓o_max, ↓o_extract, ↓o_convInt, ↓cd_true, ↓cd_false, ↓gate_tt, ↓gate_ff, ↓gate_tf, ↓gate_ft, ↓gate_undef, ↓o_bind, ↓stay_v, ↓pop_cons, ↓fin_nil, Option.isNone_none, Option.isNone_some, Bool.not_true, Bool.not_false, Nat.zero_add, decide_true, decide_false, if_true, if_false, Bool.false_eq_true, ↓reduceIte]
  refine store_sl (b := q) h hone (by simp [rcells]) fun w h => ?_
  refine dr_sl h fun w h _ => ?_
  try simp only [↓o_nil, ↓o_field, ↓o_add, ↓o_sub, ↓o_mul, ↓o_lss, ↓o_leq, ↓o_gtr, ↓o_geq, ↓o_not, ↓o_pick, ↓o_eqInt, ↓o_neInt, ↓o_eqBool, ↓o_neBool, ↓o_eqPtr, ↓o_nePtr, ↓o_eqPtr', ↓o_eqSl, ↓o_neSl, ↓o_eqStr, ↓o_neStr, ↓o_len, ↓o_lenS, ↓o_min, ↓o_max, ↓o_extract, ↓o_convInt, ↓cd_true, ↓cd_false, ↓gate_tt, ↓gate_ff, ↓gate_tf, ↓gate_ft, ↓gate_undef, ↓o_bind, ↓stay_v, ↓pop_cons, ↓fin_nil, Option.isNone_none, Option.isNone_some, Bool.not_true, Bool.not_false, Nat.zero_add, decide_true, decide_false, if_true, if_false, Bool.false_eq_true, ↓reduceIte]
  refine ld_agg (b := f) (xs := fcells x) h rfl ?_
  refine ld_in (b := f) (v := .int .i64 x.id) h rfl ?_
  have h := h.perm (show _ = pers (immS vf s.f.length (fvs s.f)) * (pts q (.cells (rcells ⟨IntKind.i64.wrap (s.fam + 1), s.tok, now, s.f ++ [x], s.t⟩ v3 vt).toArray 69 (0, 0)) * (osl 35 5 v3 (s.f.length + 1) (fvs (s.f ++ [x])) * (pers (immS vt s.t.length (kvs s.t)) * (pts f (.cells (fcells x).toArray 35 (0, 0)) * (pts t (.cells (kcells zeroK).toArray 49 (0, 0)) * (pts b (.cells (kcells zeroK).toArray 49 (0, 0)) * (pts a (.cells (fcells zeroF).toArray 35 (0, 0)) * R))))))) by
    simp only [rcells, List.set_cons_zero, List.set_cons_succ]
    ac_rfl)
  have h := h.drop
  have h : sat E w (rI q ⟨IntKind.i64.wrap (s.fam + 1), s.tok, now, s.f ++ [x], s.t⟩ v3 vt (pts f (.cells (fcells x).toArray 35 (0, 0)) * (pts t (.cells (kcells zeroK).toArray 49 (0, 0)) * (pts b (.cells (kcells zeroK).toArray 49 (0, 0)) * (pts a (.cells (fcells zeroF).toArray 35 (0, 0)) * R))))) := rI_mk (by simpa using h)
  refine Rfresh_spec (m := m + 1) ⟨by simp; omega, by simp only; omega⟩ (by omega) h fun y s' vf' vt' w fw' h => ?_
  refine st_agg (b := f) (xs := fcells x) h rfl ?_
  have h := h.perm (show _ = pts a (.cells (fcells zeroF).toArray 35 (0, 0)) * (pts b (.cells (kcells zeroK).toArray 49 (0, 0)) * (pts f (.cells (fcells x).toArray 35 (0, 0)) * (pts t (.cells (kcells zeroK).toArray 49 (0, 0)) * rI q s' vf' vt' R))) by unfold rI; ac_rfl)
  refine store_all (b := a) h (xs := fcells zeroF) (vs := fcells x) rfl rfl (fcells_one _) fun w h => ?_
  refine st_in (b := f) (v := .int .i64 x.id) h rfl ?_
  refine store_all (b := b) h (xs := kcells zeroK) (vs := kcells y) rfl rfl (kcells_one _) fun w h => ?_
  refine res_agg (P := prog) (t := 35) (K := fun r w => ∃ r2, (do loadVar 49 (← asAddr (.pointer (some ⟨b, 0, none⟩)))).run prog w = .ok r2 w ∧ K (.tuple #[r, r2, .int .i64 0]) w) h (b := a) (xs := fcells x) rfl ?_
  exact res_agg (P := prog) (t := 49) (K := fun r2 w => K (.tuple #[fv x, r2, .int .i64 0]) w) h (b := b) (xs := kcells y) rfl (k _ _ _ s' vf' vt' w fw' h.drop.drop.drop.drop)
theorem RRefresh_spec {q : Nat} {s : Rs} {vf vt : Value} {fam num now : Int} {m : Nat} (fw : Few s m) (hm : m ≤ 800000) (h : sat E w (rI q s vf vt R))
    (k : ∀ x y e s' vf' vt' w', Few s' (m + 2) → sat E w' (rI q s' vf' vt' R) → K (.tuple #[fv x, kv y, .int .i64 e]) w') :
    Calls prog 24 #[.pointer (some ⟨q, 0, none⟩), .int .i64 fam, .int .i64 num, .int .i64 now] w (Ret K) := by
  have hfl := fw.f
  have htl := fw.t
  obtain ⟨va, vc, rfl, hvc, hv, _⟩ := (rds_f (s := s)).shape h
  refine c24 ?_
  unfold B24
  refine fam_new h fun a w h => ?_
  refine tok_new h fun b w h => ?_
  refine Rtime_spec (s := s) (vf := .slice va s.f.length vc) (vt := vt) h fun e => ?_
  have out : ∀ (w : World) (e : Int) (s' : Rs) (vf' vt' : Value) (X : HP), Few s' (m + 2) → sat E w (X * (pts b (.cells (kcells zeroK).toArray 49 (0, 0)) * (pts a (.cells (fcells zeroF).toArray 35 (0, 0)) * rI q s' vf' vt' R))) →
      pvv prog (Instr.build 35 #[]) w fun t_4 w =>
      pvv prog (Instr.build 49 #[]) w fun t_5 w =>
      efu prog (Instr.storeAt 35 (.pointer (some ⟨a, 0, none⟩)) t_4) w fun u_6 w =>
      efu prog (Instr.storeAt 49 (.pointer (some ⟨b, 0, none⟩)) t_5) w fun u_7 w =>
      ∃ r_8, (do loadVar 35 (← asAddr (.pointer (some ⟨a, 0, none⟩)))).run prog w = .ok r_8 w ∧ ∃ r_9, (do loadVar 49 (← asAddr (.pointer (some ⟨b, 0, none⟩)))).run prog w = .ok r_9 w ∧ K (.tuple #[r_8, r_9, .int .i64 e]) w := by
    intro w e s' vf' vt' X fw' h
    have h := h.drop
    refine zeroF_build ?_
    refine zeroK_build ?_
    exact both_ret (b := a) (c := b) (x := zeroF) (y := zeroK) (R := rI q s' vf' vt' R) h (by unfold rI; ac_rfl) fun w h => k _ _ _ s' vf' vt' w fw' h
  rw [o_neInt]
  refine cd_any (out w e s _ vt emp fw.up.up (h.perm (emp_star _).symm)) ?_
  have h := h.perm (show _ = rI q s (.slice va s.f.length vc) vt (pts b (.cells (kcells zeroK).toArray 49 (0, 0)) * (pts a (.cells (fcells zeroF).toArray 35 (0, 0)) * R)) by unfold rI; ac_rfl)
  have back : ∀ {w : World}, sat E w (rI q s (.slice va s.f.length vc) vt (pts b (.cells (kcells zeroK).toArray 49 (0, 0)) * (pts a (.cells (fcells zeroF).toArray 35 (0, 0)) * R))) → sat E w (emp * (pts b (.cells (kcells zeroK).toArray 49 (0, 0)) * (pts a (.cells (fcells zeroF).toArray 35 (0, 0)) * rI q s (.slice va s.f.length vc) vt R))) := fun h => by
    refine h.perm ?_
    rw [emp_star]
    unfold rI
    ac_rfl
  refine Rfind_spec (id := fam) fw (by omega) h (fun e he => ?_) (fun i hi => ?_)
  · rw [o_extract, o_extract, o_neInt, show (!decide (e = 0)) = true by simp [he], cd_true]
    exact out w e s _ vt emp fw.up.up (back h)
  rw [o_extract, o_extract, o_neInt, show (!decide ((0 : Int) = 0)) = false from rfl, cd_false]
  simp only [↓o_nil, ↓o_field, ↓o_add, ↓o_sub, ↓o_mul, ↓o_lss, ↓o_leq, ↓o_gtr, ↓o_geq, ↓o_not, ↓o_pick, ↓o_eqInt, ↓o_neInt, ↓o_eqBool, ↓o_neBool, ↓o_eqPtr, ↓o_nePtr, ↓o_eqPtr', ↓o_eqSl, ↓o_neSl, ↓o_eqStr, ↓o_neStr, ↓o_len, ↓o_lenS, ↓o_min, ↓o_max, ↓o_extract, ↓o_convInt, ↓cd_true, ↓cd_false, ↓gate_tt, ↓gate_ff, ↓gate_tf, ↓gate_ft, ↓gate_undef, ↓o_bind, ↓stay_v, ↓pop_cons, ↓fin_nil, Option.isNone_none, Option.isNone_some, Bool.not_true, Bool.not_false, Nat.zero_add, decide_true, decide_false, if_true, if_false, Bool.false_eq_true, ↓reduceIte]
  have hx : s.f[i]? = some s.f[i] := List.getElem?_eq_getElem hi
  generalize s.f[i] = x at hx
  have hrd0 : Rds (rI q s (.slice va s.f.length vc) vt (pts b (.cells (kcells zeroK).toArray 49 (0, 0)) * (pts a (.cells (fcells zeroF).toArray 35 (0, 0)) * R))) (.slice va s.f.length vc) s.f.length (fvs s.f) := rds_f
  obtain ⟨b', o, c', ee, hc', hrd⟩ := hrd0.opened h (by rw [fvs_length]; omega)
  cases ee
  refine ld_in (b := q) (v := .slice (some ⟨b', o, none⟩) s.f.length vc) h rfl ?_
  rw [o_index (by omega) (by omega)]
  refine ld_el h hrd (i * 5) (by simp) (fcells x) rfl (fvs_at hx) ?_
  refine fam_in (x := x) h fun f w h => ?_
  have h : sat E w (pts f (.cells (fcells x).toArray 35 (0, 0)) * (pts b (.cells (kcells zeroK).toArray 49 (0, 0)) * (pts a (.cells (fcells zeroF).toArray 35 (0, 0)) * rI q s (.slice (some ⟨b', o, none⟩) s.f.length vc) vt R))) := h.perm (by unfold rI; ac_rfl)
  try simp only [↓o_nil, ↓o_field, ↓o_add, ↓o_sub, ↓o_mul, ↓o_lss, ↓o_leq, ↓o_gtr, ↓o_geq, ↓o_not, ↓o_pick, ↓o_eqInt, ↓o_neInt, ↓o_eqBool, ↓o_neBool, ↓o_eqPtr, ↓o_nePtr, ↓o_eqPtr', ↓o_eqSl, ↓o_neSl, ↓o_eqStr, ↓o_neStr, ↓o_len, ↓o_lenS, ↓o_min, ↓o_max, ↓o_extract, ↓o_convInt, ↓cd_true, ↓cd_false, ↓gate_tt, ↓gate_ff, ↓gate_tf, ↓gate_ft, ↓gate_undef, ↓o_bind, ↓stay_v, ↓pop_cons, ↓fin_nil, Option.isNone_none, Option.isNone_some, Bool.not_true, Bool.not_false, Nat.zero_add, decide_true, decide_false, if_true, if_false, Bool.false_eq_true, ↓reduceIte]
  refine ld_in (b := f) (v := .int .i64 x.nx) h rfl ?_
  rw [o_gtr]
  have o10 := out w 10 s _ vt _ fw.up.up h
  have o7 := out w 7 s _ vt _ fw.up.up h
  by_cases h1 : x.nx < num
  · simp only [h1, ↓o_nil, ↓o_field, ↓o_add, ↓o_sub, ↓o_mul, ↓o_lss, ↓o_leq, ↓o_gtr, ↓o_geq, ↓o_not, ↓o_pick, ↓o_eqInt, ↓o_neInt, ↓o_eqBool, ↓o_neBool, ↓o_eqPtr, ↓o_nePtr, ↓o_eqPtr', ↓o_eqSl, ↓o_neSl, ↓o_eqStr, ↓o_neStr, ↓o_len, ↓o_lenS, ↓o_min, ↓o_max, ↓o_extract, ↓o_convInt, ↓cd_true, ↓cd_false, ↓gate_tt, ↓gate_ff, ↓gate_tf, ↓gate_ft, ↓gate_undef, ↓o_bind, ↓stay_v, ↓pop_cons, ↓fin_nil, Option.isNone_none, Option.isNone_some, Bool.not_true, Bool.not_false, Nat.zero_add, decide_true, decide_false, if_true, if_false, Bool.false_eq_true, ↓reduceIte]
    try simp only [↓o_nil, ↓o_field, ↓o_add, ↓o_sub, ↓o_mul, ↓o_lss, ↓o_leq, ↓o_gtr, ↓o_geq, ↓o_not, ↓o_pick, ↓o_eqInt, ↓o_neInt, ↓o_eqBool, ↓o_neBool, ↓o_eqPtr, ↓o_nePtr, ↓o_eqPtr', ↓o_eqSl, ↓o_neSl, ↓o_eqStr, ↓o_neStr, ↓o_len, ↓o_lenS, ↓o_min, ↓o_max, ↓o_extract, ↓o_convInt, ↓cd_true, ↓cd_false, ↓gate_tt, ↓gate_ff, ↓gate_tf, ↓gate_ft, ↓gate_undef, ↓o_bind, ↓stay_v, ↓pop_cons, ↓fin_nil, Option.isNone_none, Option.isNone_some, Bool.not_true, Bool.not_false, Nat.zero_add, decide_true, decide_false, if_true, if_false, Bool.false_eq_true, ↓reduceIte] at o10
    exact o10
  by_cases h2 : num < 1
  · simp only [h1, h2, ↓o_nil, ↓o_field, ↓o_add, ↓o_sub, ↓o_mul, ↓o_lss, ↓o_leq, ↓o_gtr, ↓o_geq, ↓o_not, ↓o_pick, ↓o_eqInt, ↓o_neInt, ↓o_eqBool, ↓o_neBool, ↓o_eqPtr, ↓o_nePtr, ↓o_eqPtr', ↓o_eqSl, ↓o_neSl, ↓o_eqStr, ↓o_neStr, ↓o_len, ↓o_lenS, ↓o_min, ↓o_max, ↓o_extract, ↓o_convInt, ↓cd_true, ↓cd_false, ↓gate_tt, ↓gate_ff, ↓gate_tf, ↓gate_ft, ↓gate_undef, ↓o_bind, ↓stay_v, ↓pop_cons, ↓fin_nil, Option.isNone_none, Option.isNone_some, Bool.not_true, Bool.not_false, Nat.zero_add, decide_true, decide_false, if_true, if_false, Bool.false_eq_true, ↓reduceIte]
    try simp only [↓o_nil, ↓o_field, ↓o_add, ↓o_sub, ↓o_mul, ↓o_lss, ↓o_leq, ↓o_gtr, ↓o_geq, ↓o_not, ↓o_pick, ↓o_eqInt, ↓o_neInt, ↓o_eqBool, ↓o_neBool, ↓o_eqPtr, ↓o_nePtr, ↓o_eqPtr', ↓o_eqSl, ↓o_neSl, ↓o_eqStr, ↓o_neStr, ↓o_len, ↓o_lenS, ↓o_min, ↓o_max, ↓o_extract, ↓o_convInt, ↓cd_true, ↓cd_false, ↓gate_tt, ↓gate_ff, ↓gate_tf, ↓gate_ft, ↓gate_undef, ↓o_bind, ↓stay_v, ↓pop_cons, ↓fin_nil, Option.isNone_none, Option.isNone_some, Bool.not_true, Bool.not_false, Nat.zero_add, decide_true, decide_false, if_true, if_false, Bool.false_eq_true, ↓reduceIte] at o10
    exact o10
  simp only [h1, h2, ↓o_nil, ↓o_field, ↓o_add, ↓o_sub, ↓o_mul, ↓o_lss, ↓o_leq, ↓o_gtr, ↓o_geq, ↓o_not, ↓o_pick, ↓o_eqInt, ↓o_neInt, ↓o_eqBool, ↓o_neBool, ↓o_eqPtr, ↓o_nePtr, ↓o_eqPtr', ↓o_eqSl, ↓o_neSl, ↓o_eqStr, ↓o_neStr, ↓o_len, ↓o_lenS, ↓o_min, ↓o_max, ↓o_extract, ↓o_convInt, ↓cd_true, ↓cd_false, ↓gate_tt, ↓gate_ff, ↓gate_tf, ↓gate_ft, ↓gate_undef, ↓o_bind, ↓stay_v, ↓pop_cons, ↓fin_nil, Option.isNone_none, Option.isNone_some, Bool.not_true, Bool.not_false, Nat.zero_add, decide_true, decide_false, if_true, if_false, Bool.false_eq_true, ↓reduceIte]
  refine ld_in (b := f) (v := .int .i64 x.nx) h rfl ?_
  try simp only [↓o_nil, ↓o_field, ↓o_add, ↓o_sub, ↓o_mul, ↓o_lss, ↓o_leq, ↓o_gtr, ↓o_geq, ↓o_not, ↓o_pick, ↓o_eqInt, ↓o_neInt, ↓o_eqBool, ↓o_neBool, ↓o_eqPtr, ↓o_nePtr, ↓o_eqPtr', ↓o_eqSl, ↓o_neSl, ↓o_eqStr, ↓o_neStr, ↓o_len, ↓o_lenS, ↓o_min, ↓o_max, ↓o_extract, ↓o_convInt, ↓cd_true, ↓cd_false, ↓gate_tt, ↓gate_ff, ↓gate_tf, ↓gate_ft, ↓gate_undef, ↓o_bind, ↓stay_v, ↓pop_cons, ↓fin_nil, Option.isNone_none, Option.isNone_some, Bool.not_true, Bool.not_false, Nat.zero_add, decide_true, decide_false, if_true, if_false, Bool.false_eq_true, ↓reduceIte]
  refine cd_any ?_ ?_
  · have h := h.perm (show _ = rI q s (.slice (some ⟨b', o, none⟩) s.f.length vc) vt (pts f (.cells (fcells x).toArray 35 (0, 0)) * (pts b (.cells (kcells zeroK).toArray 49 (0, 0)) * (pts a (.cells (fcells zeroF).toArray 35 (0, 0)) * R))) by unfold rI; ac_rfl)
    refine Rdrop_spec (id := fam) fw (by omega) h fun s' vf' vt' w fw' h => ?_
    try simp only [↓o_nil, ↓o_field, ↓o_add, ↓o_sub, ↓o_mul, ↓o_lss, ↓o_leq, ↓o_gtr, ↓o_geq, ↓o_not, ↓o_pick, ↓o_eqInt, ↓o_neInt, ↓o_eqBool, ↓o_neBool, ↓o_eqPtr, ↓o_nePtr, ↓o_eqPtr', ↓o_eqSl, ↓o_neSl, ↓o_eqStr, ↓o_neStr, ↓o_len, ↓o_lenS, ↓o_min, ↓o_max, ↓o_extract, ↓o_convInt, ↓cd_true, ↓cd_false, ↓gate_tt, ↓gate_ff, ↓gate_tf, ↓gate_ft, ↓gate_undef, ↓o_bind, ↓stay_v, ↓pop_cons, ↓fin_nil, Option.isNone_none, Option.isNone_some, Bool.not_true, Bool.not_false, Nat.zero_add, decide_true, decide_false, if_true, if_false, Bool.false_eq_true, ↓reduceIte]
    refine store_sl (b := q) h rfl (by simp [rcells]) fun w h => ?_
    have h := h.perm (show _ = pers (immS (.slice (some ⟨b', o, none⟩) s.f.length vc) s.f.length (fvs s.f)) * (pts f (.cells (fcells x).toArray 35 (0, 0)) * (pts b (.cells (kcells zeroK).toArray 49 (0, 0)) * (pts a (.cells (fcells zeroF).toArray 35 (0, 0)) * rI q { s' with noted := now } vf' vt' R))) by unfold rI; simp only [rcells, List.set_cons_zero, List.set_cons_succ]; ac_rfl)
    have o13 := out w 13 { s' with noted := now } vf' vt' _ ⟨by have := fw'.f; simp only; omega, by have := fw'.t; simp only; omega⟩ h.drop
    try simp only [↓o_nil, ↓o_field, ↓o_add, ↓o_sub, ↓o_mul, ↓o_lss, ↓o_leq, ↓o_gtr, ↓o_geq, ↓o_not, ↓o_pick, ↓o_eqInt, ↓o_neInt, ↓o_eqBool, ↓o_neBool, ↓o_eqPtr, ↓o_nePtr, ↓o_eqPtr', ↓o_eqSl, ↓o_neSl, ↓o_eqStr, ↓o_neStr, ↓o_len, ↓o_lenS, ↓o_min, ↓o_max, ↓o_extract, ↓o_convInt, ↓cd_true, ↓cd_false, ↓gate_tt, ↓gate_ff, ↓gate_tf, ↓gate_ft, ↓gate_undef, ↓o_bind, ↓stay_v, ↓pop_cons, ↓fin_nil, Option.isNone_none, Option.isNone_some, Bool.not_true, Bool.not_false, Nat.zero_add, decide_true, decide_false, if_true, if_false, Bool.false_eq_true, ↓reduceIte] at o13
    exact o13
  refine ld_in (b := q) (v := .int .i64 s.tok) h rfl ?_
  rw [o_gtr]
  by_cases f1 : 1099511627776 < s.tok
  · simp only [decide_eq_true f1, ↓o_nil, ↓o_field, ↓o_add, ↓o_sub, ↓o_mul, ↓o_lss, ↓o_leq, ↓o_gtr, ↓o_geq, ↓o_not, ↓o_pick, ↓o_eqInt, ↓o_neInt, ↓o_eqBool, ↓o_neBool, ↓o_eqPtr, ↓o_nePtr, ↓o_eqPtr', ↓o_eqSl, ↓o_neSl, ↓o_eqStr, ↓o_neStr, ↓o_len, ↓o_lenS, ↓o_min, ↓o_max, ↓o_extract, ↓o_convInt, ↓cd_true, ↓cd_false, ↓gate_tt, ↓gate_ff, ↓gate_tf, ↓gate_ft, ↓gate_undef, ↓o_bind, ↓stay_v, ↓pop_cons, ↓fin_nil, Option.isNone_none, Option.isNone_some, Bool.not_true, Bool.not_false, Nat.zero_add, decide_true, decide_false, if_true, if_false, Bool.false_eq_true, ↓reduceIte]
    try simp only [↓o_nil, ↓o_field, ↓o_add, ↓o_sub, ↓o_mul, ↓o_lss, ↓o_leq, ↓o_gtr, ↓o_geq, ↓o_not, ↓o_pick, ↓o_eqInt, ↓o_neInt, ↓o_eqBool, ↓o_neBool, ↓o_eqPtr, ↓o_nePtr, ↓o_eqPtr', ↓o_eqSl, ↓o_neSl, ↓o_eqStr, ↓o_neStr, ↓o_len, ↓o_lenS, ↓o_min, ↓o_max, ↓o_extract, ↓o_convInt, ↓cd_true, ↓cd_false, ↓gate_tt, ↓gate_ff, ↓gate_tf, ↓gate_ft, ↓gate_undef, ↓o_bind, ↓stay_v, ↓pop_cons, ↓fin_nil, Option.isNone_none, Option.isNone_some, Bool.not_true, Bool.not_false, Nat.zero_add, decide_true, decide_false, if_true, if_false, Bool.false_eq_true, ↓reduceIte] at o7
    exact o7
  simp only [decide_eq_false f1, ↓o_nil, ↓o_field, ↓o_add, ↓o_sub, ↓o_mul, ↓o_lss, ↓o_leq, ↓o_gtr, ↓o_geq, ↓o_not, ↓o_pick, ↓o_eqInt, ↓o_neInt, ↓o_eqBool, ↓o_neBool, ↓o_eqPtr, ↓o_nePtr, ↓o_eqPtr', ↓o_eqSl, ↓o_neSl, ↓o_eqStr, ↓o_neStr, ↓o_len, ↓o_lenS, ↓o_min, ↓o_max, ↓o_extract, ↓o_convInt, ↓cd_true, ↓cd_false, ↓gate_tt, ↓gate_ff, ↓gate_tf, ↓gate_ft, ↓gate_undef, ↓o_bind, ↓stay_v, ↓pop_cons, ↓fin_nil, Option.isNone_none, Option.isNone_some, Bool.not_true, Bool.not_false, Nat.zero_add, decide_true, decide_false, if_true, if_false, Bool.false_eq_true, ↓reduceIte]
  refine ld_in (b := f) (v := .int .i64 x.nx) h rfl ?_
  try simp only [↓o_nil, ↓o_field, ↓o_add, ↓o_sub, ↓o_mul, ↓o_lss, ↓o_leq, ↓o_gtr, ↓o_geq, ↓o_not, ↓o_pick, ↓o_eqInt, ↓o_neInt, ↓o_eqBool, ↓o_neBool, ↓o_eqPtr, ↓o_nePtr, ↓o_eqPtr', ↓o_eqSl, ↓o_neSl, ↓o_eqStr, ↓o_neStr, ↓o_len, ↓o_lenS, ↓o_min, ↓o_max, ↓o_extract, ↓o_convInt, ↓cd_true, ↓cd_false, ↓gate_tt, ↓gate_ff, ↓gate_tf, ↓gate_ft, ↓gate_undef, ↓o_bind, ↓stay_v, ↓pop_cons, ↓fin_nil, Option.isNone_none, Option.isNone_some, Bool.not_true, Bool.not_false, Nat.zero_add, decide_true, decide_false, if_true, if_false, Bool.false_eq_true, ↓reduceIte]
  refine cd_any (by try simp only [↓o_nil, ↓o_field, ↓o_add, ↓o_sub, ↓o_mul, ↓o_lss, ↓o_leq, ↓o_gtr, ↓o_geq, ↓o_not, ↓o_pick, ↓o_eqInt, ↓o_neInt, ↓o_eqBool, ↓o_neBool, ↓o_eqPtr, ↓o_nePtr, ↓o_eqPtr', ↓o_eqSl, ↓o_neSl, ↓o_eqStr, ↓o_neStr, ↓o_len, ↓o_lenS, ↓o_min, ↓o_max, ↓o_extract, ↓o_convInt, ↓cd_true, ↓cd_false, ↓gate_tt, ↓gate_ff, ↓gate_tf, ↓gate_ft, ↓gate_undef, ↓o_bind, ↓stay_v, ↓pop_cons, ↓fin_nil, Option.isNone_none, Option.isNone_some, Bool.not_true, Bool.not_false, Nat.zero_add, decide_true, decide_false, if_true, if_false, Bool.false_eq_true, ↓reduceIte] at o7
                    exact o7) ?_
  clear o10 o7 out back
  refine ld_in (b := f) (v := .int .i64 x.nx) h rfl ?_
  try simp only [↓o_nil, ↓o_field, ↓o_add, ↓o_sub, ↓o_mul, ↓o_lss, ↓o_leq, ↓o_gtr, ↓o_geq, ↓o_not, ↓o_pick, ↓o_eqInt, ↓o_neInt, ↓o_eqBool, ↓o_neBool, ↓o_eqPtr, ↓o_nePtr, ↓o_eqPtr', ↓o_eqSl, ↓o_neSl, ↓o_eqStr, ↓o_neStr, ↓o_len, ↓o_lenS, ↓o_min, ↓o_max, ↓o_extract, ↓o_convInt, ↓cd_true, ↓cd_false, ↓gate_tt, ↓gate_ff, ↓gate_tf, ↓gate_ft, ↓gate_undef, ↓o_bind, ↓stay_v, ↓pop_cons, ↓fin_nil, Option.isNone_none, Option.isNone_some, Bool.not_true, Bool.not_false, Nat.zero_add, decide_true, decide_false, if_true, if_false, Bool.false_eq_true, ↓reduceIte]
  refine store_sl (b := f) h rfl (by simp [fcells]) fun w h => ?_
  generalize hx' : ({ x with nx := IntKind.i64.wrap (x.nx + 1) } : Fam) = x'
  have hcs : (fcells x).set 4 (.int .i64 (IntKind.i64.wrap (x.nx + 1))) = fcells x' := by rw [← hx']; rfl
  rw [hcs] at h
  try simp only [↓o_nil, ↓o_field, ↓o_add, ↓o_sub, ↓o_mul, ↓o_lss, ↓o_leq, ↓o_gtr, ↓o_geq, ↓o_not, ↓o_pick, ↓o_eqInt, ↓o_neInt, ↓o_eqBool, ↓o_neBool, ↓o_eqPtr, ↓o_nePtr, ↓o_eqPtr', ↓o_eqSl, ↓o_neSl, ↓o_eqStr, ↓o_neStr, ↓o_len, ↓o_lenS, ↓o_min, ↓o_max, ↓o_extract, ↓o_convInt, ↓cd_true, ↓cd_false, ↓gate_tt, ↓gate_ff, ↓gate_tf, ↓gate_ft, ↓gate_undef, ↓o_bind, ↓stay_v, ↓pop_cons, ↓fin_nil, Option.isNone_none, Option.isNone_some, Bool.not_true, Bool.not_false, Nat.zero_add, decide_true, decide_false, if_true, if_false, Bool.false_eq_true, ↓reduceIte]
  refine store_sl (b := q) h rfl (by simp [rcells]) fun w h => ?_
  try simp only [↓o_nil, ↓o_field, ↓o_add, ↓o_sub, ↓o_mul, ↓o_lss, ↓o_leq, ↓o_gtr, ↓o_geq, ↓o_not, ↓o_pick, ↓o_eqInt, ↓o_neInt, ↓o_eqBool, ↓o_neBool, ↓o_eqPtr, ↓o_nePtr, ↓o_eqPtr', ↓o_eqSl, ↓o_neSl, ↓o_eqStr, ↓o_neStr, ↓o_len, ↓o_lenS, ↓o_min, ↓o_max, ↓o_extract, ↓o_convInt, ↓cd_true, ↓cd_false, ↓gate_tt, ↓gate_ff, ↓gate_tf, ↓gate_ft, ↓gate_undef, ↓o_bind, ↓stay_v, ↓pop_cons, ↓fin_nil, Option.isNone_none, Option.isNone_some, Bool.not_true, Bool.not_false, Nat.zero_add, decide_true, decide_false, if_true, if_false, Bool.false_eq_true, ↓reduceIte]
  have h : sat E w (pts q (.cells (rcells { s with noted := now } (.slice (some ⟨b', o, none⟩) s.f.length vc) vt).toArray 69 (0, 0)) * (pts f (.cells (fcells x').toArray 35 (0, 0)) * (pts b (.cells (kcells zeroK).toArray 49 (0, 0)) * (pts a (.cells (fcells zeroF).toArray 35 (0, 0)) * (pers (immS (.slice (some ⟨b', o, none⟩) s.f.length vc) s.f.length (fvs s.f)) * (pers (immS vt s.t.length (kvs s.t)) * R)))))) := h.perm (by simp only [rcells, List.set_cons_zero, List.set_cons_succ]; try ac_rfl)
  refine ld_in (b := q) (v := .slice (some ⟨b', o, none⟩) s.f.length vc) h rfl ?_
  refine copyF (l := s.f) (by omega) h Rds.pers.left.right.right.right.right fun u w h => ?_
  refine ld_agg (b := f) (xs := fcells x') h rfl ?_
  obtain ⟨b2, c2, sp, rfl, hl2, hc2, hP, hcl⟩ := osl_open h (by omega)
  rw [o_index (by omega) (by omega), Nat.zero_add, Int.toNat_natCast]
  have hin : i * 5 + 5 ≤ (fvs s.f).length := by rw [fvs_length]; omega
  refine store_part (n := 5) (b := b2) hP (fvs (s.f.set i x') ++ sp) (vs := fcells x') rfl (fcells_one _) (by rw [List.length_append]; omega) ?_ fun w hP => ?_
  · rw [← fvs_set hi, List.take_append_of_le_length (by omega), List.drop_append_of_le_length (by omega)]
    simp [List.append_assoc]
  have h := hcl (xs' := fvs (s.f.set i x')) (by rw [fvs_length, fvs_length, List.length_set]) hP
  try simp only [↓o_nil, ↓o_field, ↓o_add, ↓o_sub, ↓o_mul, ↓o_lss, ↓o_leq, ↓o_gtr, ↓o_geq, ↓o_not, ↓o_pick, ↓o_eqInt, ↓o_neInt, ↓o_eqBool, ↓o_neBool, ↓o_eqPtr, ↓o_nePtr, ↓o_eqPtr', ↓o_eqSl, ↓o_neSl, ↓o_eqStr, ↓o_neStr, ↓o_len, ↓o_lenS, ↓o_min, ↓o_max, ↓o_extract, ↓o_convInt, ↓cd_true, ↓cd_false, ↓gate_tt, ↓gate_ff, ↓gate_tf, ↓gate_ft, ↓gate_undef, ↓o_bind, ↓stay_v, ↓pop_cons, ↓fin_nil, Option.isNone_none, Option.isNone_some, Bool.not_true, Bool.not_false, Nat.zero_add, decide_true, decide_false, if_true, if_false, Bool.false_eq_true, ↓reduceIte]
  refine store_sl (b := q) h rfl (by simp [rcells]) fun w h => ?_
  refine dr_sl h fun w h _ => ?_
  try simp only [↓o_nil, ↓o_field, ↓o_add, ↓o_sub, ↓o_mul, ↓o_lss, ↓o_leq, ↓o_gtr, ↓o_geq, ↓o_not, ↓o_pick, ↓o_eqInt, ↓o_neInt, ↓o_eqBool, ↓o_neBool, ↓o_eqPtr, ↓o_nePtr, ↓o_eqPtr', ↓o_eqSl, ↓o_neSl, ↓o_eqStr, ↓o_neStr, ↓o_len, ↓o_lenS, ↓o_min, ↓o_max, ↓o_extract, ↓o_convInt, ↓cd_true, ↓cd_false, ↓gate_tt, ↓gate_ff, ↓gate_tf, ↓gate_ft, ↓gate_undef, ↓o_bind, ↓stay_v, ↓pop_cons, ↓fin_nil, Option.isNone_none, Option.isNone_some, Bool.not_true, Bool.not_false, Nat.zero_add, decide_true, decide_false, if_true, if_false, Bool.false_eq_true, ↓reduceIte]
  refine ld_agg (b := f) (xs := fcells x') h rfl ?_
  refine ld_in (b := f) (v := bv x'.sc) h rfl ?_
  have h := h.perm (show _ = pers (immS (.slice (some ⟨b', o, none⟩) s.f.length vc) s.f.length (fvs s.f)) * (pts q (.cells (rcells ⟨s.fam, s.tok, now, s.f.set i x', s.t⟩ (.slice (some ⟨b2, 0, none⟩) s.f.length c2) vt).toArray 69 (0, 0)) * (osl 35 5 (.slice (some ⟨b2, 0, none⟩) s.f.length c2) s.f.length (fvs (s.f.set i x')) * (pers (immS vt s.t.length (kvs s.t)) * (pts f (.cells (fcells x').toArray 35 (0, 0)) * (pts b (.cells (kcells zeroK).toArray 49 (0, 0)) * (pts a (.cells (fcells zeroF).toArray 35 (0, 0)) * R)))))) by
    simp only [rcells, List.set_cons_zero, List.set_cons_succ]
    ac_rfl)
  have h := h.drop
  have h : sat E w (rI q ⟨s.fam, s.tok, now, s.f.set i x', s.t⟩ (.slice (some ⟨b2, 0, none⟩) s.f.length c2) vt (pts f (.cells (fcells x').toArray 35 (0, 0)) * (pts b (.cells (kcells zeroK).toArray 49 (0, 0)) * (pts a (.cells (fcells zeroF).toArray 35 (0, 0)) * R)))) := rI_mk (by simpa using h)
  refine Rfresh_spec (m := m + 1) ⟨by simp; omega, by simp only; omega⟩ (by omega) h fun y s' vf' vt' w fw' h => ?_
  refine st_agg (b := f) (xs := fcells x') h rfl ?_
  have h := h.perm (show _ = pts a (.cells (fcells zeroF).toArray 35 (0, 0)) * (pts b (.cells (kcells zeroK).toArray 49 (0, 0)) * (pts f (.cells (fcells x').toArray 35 (0, 0)) * rI q s' vf' vt' R)) by unfold rI; ac_rfl)
  refine store_all (b := a) h (xs := fcells zeroF) (vs := fcells x') rfl rfl (fcells_one _) fun w h => ?_
  refine st_in (b := f) (v := bv x'.sc) h rfl ?_
  refine store_all (b := b) h (xs := kcells zeroK) (vs := kcells y) rfl rfl (kcells_one _) fun w h => ?_
  refine res_agg (P := prog) (t := 35) (K := fun r w => ∃ r2, (do loadVar 49 (← asAddr (.pointer (some ⟨b, 0, none⟩)))).run prog w = .ok r2 w ∧ K (.tuple #[r, r2, .int .i64 0]) w) h (b := a) (xs := fcells x') rfl ?_
  exact res_agg (P := prog) (t := 49) (K := fun r2 w => K (.tuple #[fv x', r2, .int .i64 0]) w) h (b := b) (xs := kcells y) rfl (k _ _ _ s' vf' vt' w fw' h.drop.drop.drop)
end Go.Proofs.YtbcimkjgpplcpaaGreatDoor.T
