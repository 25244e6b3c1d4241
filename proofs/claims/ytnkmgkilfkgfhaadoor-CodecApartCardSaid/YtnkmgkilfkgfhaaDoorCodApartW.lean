/-
  CodecApart: the walk.
-/
import Derived.Test.YtnkmgkilfkgfhaaDoorCodJ
set_option linter.all false
set_option maxRecDepth 100000
namespace Go.Proofs.YtnkmgkilfkgfhaaDoor.Apart
open Go Hold Go.ChangeShapes Go.WideShapes Go.ChangeAt Go.RowKit
variable {E : World0} {w : World} {H R : HP} {K : Value → World → Prop}
theorem cut0 {a : Option Addr} {c n : Nat} (h : c = 0 → True) : cutA a c 0 n = a := by
  unfold cutA
  split
  · rfl
  · cases a with
    | none => rfl
    | some a => simp [Addr.add]
theorem rds_take {H : HP} {a : Option Addr} {n c m : Nat} {xs : List Value} (h : Rds H (.slice a n c) n xs) (hl : xs.length = n) (hm : m ≤ n) : Rds H (.slice a m c) m (xs.take m) := fun E w hs => by
  have := (h E w hs).cut hl (lo := 0) (hi := m) (by omega) hm
  rw [cut0 (fun _ => trivial)] at this
  simpa using this
theorem decide_pre {α : Type} [DecidableEq α] {a b : List α} : (decide (a.length ≤ b.length) && decide (b.take a.length = a)) = decide (a <+: b) := by
  by_cases h : a.length ≤ b.length
  · rw [decide_eq_true h, Bool.true_and, decide_eq_decide, pre_take h]
  · have : ¬ a <+: b := fun hp => h hp.length_le
    rw [decide_eq_false h, decide_eq_false this]; rfl
theorem Apart_spec (h : sat E w H) (hd : Dbt H) {v u : Value} (a : List (List UInt8)) (ha : Rds H v a.length (a.map tv)) (ma : a.length * 16 ≤ 140737488351232) (na : ∀ c ∈ a, c.length ≤ 140737488351232) (b : List (List UInt8)) (hb : Rds H u b.length (b.map tv)) (mb : b.length * 16 ≤ 140737488351232) (nb : ∀ c ∈ b, c.length ≤ 140737488351232)
    (k : ∀ w', sat E w' H → K (.bool true) w') : Calls prog 5 #[v, u] w (Ret K) := by
  obtain ⟨aa, ca, rfl, hca, ha, _⟩ := ha.shape h
  obtain ⟨ab, cb, rfl, hcb, hb, _⟩ := hb.shape h
  refine c5 ?_
  unfold B5
  refine Key_spec h ha fun va w h => ?_
  rw [o_extract, o_extract]
  refine Key_spec h hb.right fun vb w h => ?_
  rw [o_extract, o_extract]
  by_cases h1 : (key a).2 = 0
  · by_cases h2 : (key b).2 = 0
    · simp only [h1, h2, ↓o_neInt, ↓gate_ff, decide_true, Bool.not_true]
      rw [o_pick]
      show cd (.bool false) _ _
      rw [cd_false]
      obtain ⟨ea, la⟩ := key_ok h1
      obtain ⟨eb, lb⟩ := key_ok h2
      rw [ea, eb] at h
      obtain ⟨pa, cpa, rfl, hcpa, _, _⟩ := osl_shape h.drop
      obtain ⟨pb, cpb, rfl, hcpb, _, _⟩ := osl_shape h
      have hra : Rds (osl 5 1 (.slice pb (enc b).length cpb) (enc b).length ((enc b).map bv) * (osl 5 1 (.slice pa (enc a).length cpa) (enc a).length ((enc a).map bv) * H)) (.slice pa (enc a).length cpa) (enc a).length ((enc a).map bv) := Rds.osl.left.right
      have hrb : Rds (osl 5 1 (.slice pb (enc b).length cpb) (enc b).length ((enc b).map bv) * (osl 5 1 (.slice pa (enc a).length cpa) (enc a).length ((enc a).map bv) * H)) (.slice pb (enc b).length cpb) (enc b).length ((enc b).map bv) := Rds.osl.left
      try rw [o_len, o_len, o_geq]
      -- begins
      have begins : ∀ {w} {K : Value → World → Prop}, sat E w (osl 5 1 (.slice pb (enc b).length cpb) (enc b).length ((enc b).map bv) * (osl 5 1 (.slice pa (enc a).length cpa) (enc a).length ((enc a).map bv) * H)) →
          (∀ w, sat E w (osl 5 1 (.slice pb (enc b).length cpb) (enc b).length ((enc b).map bv) * (osl 5 1 (.slice pa (enc a).length cpa) (enc a).length ((enc a).map bv) * H)) → K (.bool (decide (a <+: b))) w) →
          (gate (some (.bool (decide (((enc a).length : Int) ≤ (enc b).length)), true)) (fun K => K (.slice pb (enc b).length cpb) w) w fun t_14 w =>
  gate (some (.bool (decide (((enc a).length : Int) ≤ (enc b).length)), true)) (fun K => K (.slice pa (enc a).length cpa) w) w fun t_15 w =>
  gate (some (.bool (decide (((enc a).length : Int) ≤ (enc b).length)), true)) (fun K => pv prog (oBi .len #[23] 3 #[false] #[t_15]) w K) w fun t_16 w =>
  gate (some (.bool (decide (((enc a).length : Int) ≤ (enc b).length)), true)) (fun K => pvv prog (Instr.sliceAt 23 t_14 none (some t_16) none) w K) w fun t_17 w =>
  gate (some (.bool (decide (((enc a).length : Int) ≤ (enc b).length)), true)) (fun K => K (.slice pa (enc a).length cpa) w) w fun t_18 w =>
  gate (some (.bool (decide (((enc a).length : Int) ≤ (enc b).length)), true)) (fun K => Calls prog 16 #[t_17, t_18] w (Ret K)) w fun t_19 w =>
  pv prog (oPick (.bool (decide (((enc a).length : Int) ≤ (enc b).length))) t_19 (.bool false)) w K) := by
        intro w K h k
        by_cases hl : (enc a).length ≤ (enc b).length
        · have f : ((enc a).length : Int) ≤ (enc b).length := by omega
          simp only [f, ↓o_nil, ↓o_field, ↓o_add, ↓o_sub, ↓o_mul, ↓o_lss, ↓o_leq, ↓o_gtr, ↓o_geq, ↓o_not, ↓o_pick, ↓o_eqInt, ↓o_neInt, ↓o_eqBool, ↓o_neBool, ↓o_eqPtr, ↓o_nePtr, ↓o_eqPtr', ↓o_eqSl, ↓o_neSl, ↓o_eqStr, ↓o_neStr, ↓o_len, ↓o_lenS, ↓o_min, ↓o_max, ↓o_extract, ↓o_convInt, ↓cd_true, ↓cd_false, ↓gate_tt, ↓gate_ff, ↓gate_tf, ↓gate_ft, ↓gate_undef, ↓o_bind, ↓stay_v, ↓pop_cons, ↓fin_nil, Option.isNone_none, Option.isNone_some, Bool.not_true, Bool.not_false, Nat.zero_add, decide_true, decide_false, if_true, if_false, Bool.false_eq_true, ↓reduceIte]
          rw [o_slice_h (by omega) (by omega), Int.toNat_natCast, cut0 (fun _ => trivial)]
          have ht : ((enc b).take (enc a).length).length = (enc a).length := by simp; omega
          refine SameBytes_spec (l := (enc b).take (enc a).length) (m := enc a) h (by
            rw [ht, List.map_take]; exact rds_take hrb (by simp) hl) hra (by omega) fun w h => ?_
          try simp only [↓o_nil, ↓o_field, ↓o_add, ↓o_sub, ↓o_mul, ↓o_lss, ↓o_leq, ↓o_gtr, ↓o_geq, ↓o_not, ↓o_pick, ↓o_eqInt, ↓o_neInt, ↓o_eqBool, ↓o_neBool, ↓o_eqPtr, ↓o_nePtr, ↓o_eqPtr', ↓o_eqSl, ↓o_neSl, ↓o_eqStr, ↓o_neStr, ↓o_len, ↓o_lenS, ↓o_min, ↓o_max, ↓o_extract, ↓o_convInt, ↓cd_true, ↓cd_false, ↓gate_tt, ↓gate_ff, ↓gate_tf, ↓gate_ft, ↓gate_undef, ↓o_bind, ↓stay_v, ↓pop_cons, ↓fin_nil, Option.isNone_none, Option.isNone_some, Bool.not_true, Bool.not_false, Nat.zero_add, decide_true, decide_false, if_true, if_false, Bool.false_eq_true, ↓reduceIte]
          have e : decide ((enc b).take (enc a).length = enc a) = decide (a <+: b) := by
            rw [decide_eq_decide, pre_take hl, pre_enc]
          rw [e]
          exact k _ h
        · have f : ¬ ((enc a).length : Int) ≤ (enc b).length := by omega
          simp only [f, ↓o_nil, ↓o_field, ↓o_add, ↓o_sub, ↓o_mul, ↓o_lss, ↓o_leq, ↓o_gtr, ↓o_geq, ↓o_not, ↓o_pick, ↓o_eqInt, ↓o_neInt, ↓o_eqBool, ↓o_neBool, ↓o_eqPtr, ↓o_nePtr, ↓o_eqPtr', ↓o_eqSl, ↓o_neSl, ↓o_eqStr, ↓o_neStr, ↓o_len, ↓o_lenS, ↓o_min, ↓o_max, ↓o_extract, ↓o_convInt, ↓cd_true, ↓cd_false, ↓gate_tt, ↓gate_ff, ↓gate_tf, ↓gate_ft, ↓gate_undef, ↓o_bind, ↓stay_v, ↓pop_cons, ↓fin_nil, Option.isNone_none, Option.isNone_some, Bool.not_true, Bool.not_false, Nat.zero_add, decide_true, decide_false, if_true, if_false, Bool.false_eq_true, ↓reduceIte]
          have e : decide (a <+: b) = false := by
            rw [decide_eq_false_iff_not, ← pre_enc]; exact fun hp => hl hp.length_le
          rw [e] at k
          exact k _ h
      refine begins h fun w h => ?_
      try rw [o_len, o_len, o_geq]
      have on : ∀ {w} {K : Value → World → Prop}, sat E w (osl 5 1 (.slice pb (enc b).length cpb) (enc b).length ((enc b).map bv) * (osl 5 1 (.slice pa (enc a).length cpa) (enc a).length ((enc a).map bv) * H)) →
          (∀ w, sat E w (osl 5 1 (.slice pb (enc b).length cpb) (enc b).length ((enc b).map bv) * (osl 5 1 (.slice pa (enc a).length cpa) (enc a).length ((enc a).map bv) * H)) → K (.bool (decide (a <+: b))) w) →
          (gate (some (.bool (decide ((a.length : Int) ≤ b.length)), true)) (fun K => K (.slice ab b.length cb) w) w fun t_24 w =>
  gate (some (.bool (decide ((a.length : Int) ≤ b.length)), true)) (fun K => K (.slice aa a.length ca) w) w fun t_25 w =>
  gate (some (.bool (decide ((a.length : Int) ≤ b.length)), true)) (fun K => pv prog (oBi .len #[22] 3 #[false] #[t_25]) w K) w fun t_26 w =>
  gate (some (.bool (decide ((a.length : Int) ≤ b.length)), true)) (fun K => pvv prog (Instr.sliceAt 22 t_24 none (some t_26) none) w K) w fun t_27 w =>
  gate (some (.bool (decide ((a.length : Int) ≤ b.length)), true)) (fun K => K (.slice aa a.length ca) w) w fun t_28 w =>
  gate (some (.bool (decide ((a.length : Int) ≤ b.length)), true)) (fun K => Calls prog 17 #[t_27, t_28] w (Ret K)) w fun t_29 w =>
  pv prog (oPick (.bool (decide ((a.length : Int) ≤ b.length))) t_29 (.bool false)) w K) := by
        intro w K h k
        by_cases hl : a.length ≤ b.length
        · have f : (a.length : Int) ≤ b.length := by omega
          simp only [f, ↓o_nil, ↓o_field, ↓o_add, ↓o_sub, ↓o_mul, ↓o_lss, ↓o_leq, ↓o_gtr, ↓o_geq, ↓o_not, ↓o_pick, ↓o_eqInt, ↓o_neInt, ↓o_eqBool, ↓o_neBool, ↓o_eqPtr, ↓o_nePtr, ↓o_eqPtr', ↓o_eqSl, ↓o_neSl, ↓o_eqStr, ↓o_neStr, ↓o_len, ↓o_lenS, ↓o_min, ↓o_max, ↓o_extract, ↓o_convInt, ↓cd_true, ↓cd_false, ↓gate_tt, ↓gate_ff, ↓gate_tf, ↓gate_ft, ↓gate_undef, ↓o_bind, ↓stay_v, ↓pop_cons, ↓fin_nil, Option.isNone_none, Option.isNone_some, Bool.not_true, Bool.not_false, Nat.zero_add, decide_true, decide_false, if_true, if_false, Bool.false_eq_true, ↓reduceIte]
          rw [o_slice_h (by omega) (by omega), Int.toNat_natCast, cut0 (fun _ => trivial)]
          have ht : (b.take a.length).length = a.length := by simp; omega
          refine SameTexts_spec (l := b.take a.length) (m := a) h (by
            rw [ht, List.map_take]; exact rds_take hb.right.right (by simp) hl) ha.right.right (by omega) fun w h => ?_
          try simp only [↓o_nil, ↓o_field, ↓o_add, ↓o_sub, ↓o_mul, ↓o_lss, ↓o_leq, ↓o_gtr, ↓o_geq, ↓o_not, ↓o_pick, ↓o_eqInt, ↓o_neInt, ↓o_eqBool, ↓o_neBool, ↓o_eqPtr, ↓o_nePtr, ↓o_eqPtr', ↓o_eqSl, ↓o_neSl, ↓o_eqStr, ↓o_neStr, ↓o_len, ↓o_lenS, ↓o_min, ↓o_max, ↓o_extract, ↓o_convInt, ↓cd_true, ↓cd_false, ↓gate_tt, ↓gate_ff, ↓gate_tf, ↓gate_ft, ↓gate_undef, ↓o_bind, ↓stay_v, ↓pop_cons, ↓fin_nil, Option.isNone_none, Option.isNone_some, Bool.not_true, Bool.not_false, Nat.zero_add, decide_true, decide_false, if_true, if_false, Bool.false_eq_true, ↓reduceIte]
          have e : decide (b.take a.length = a) = decide (a <+: b) := by
            rw [decide_eq_decide, pre_take hl]
          rw [e]
          exact k _ h
        · have f : ¬ (a.length : Int) ≤ b.length := by omega
          simp only [f, ↓o_nil, ↓o_field, ↓o_add, ↓o_sub, ↓o_mul, ↓o_lss, ↓o_leq, ↓o_gtr, ↓o_geq, ↓o_not, ↓o_pick, ↓o_eqInt, ↓o_neInt, ↓o_eqBool, ↓o_neBool, ↓o_eqPtr, ↓o_nePtr, ↓o_eqPtr', ↓o_eqSl, ↓o_neSl, ↓o_eqStr, ↓o_neStr, ↓o_len, ↓o_lenS, ↓o_min, ↓o_max, ↓o_extract, ↓o_convInt, ↓cd_true, ↓cd_false, ↓gate_tt, ↓gate_ff, ↓gate_tf, ↓gate_ft, ↓gate_undef, ↓o_bind, ↓stay_v, ↓pop_cons, ↓fin_nil, Option.isNone_none, Option.isNone_some, Bool.not_true, Bool.not_false, Nat.zero_add, decide_true, decide_false, if_true, if_false, Bool.false_eq_true, ↓reduceIte]
          have e : decide (a <+: b) = false := by
            rw [decide_eq_false_iff_not]; exact fun hp => hl hp.length_le
          rw [e] at k
          exact k _ h
      refine on h fun w h => ?_
      refine live_spec h hd.right.right fun w h => ?_
      simp only [beq_self_eq_true, ↓o_nil, ↓o_field, ↓o_add, ↓o_sub, ↓o_mul, ↓o_lss, ↓o_leq, ↓o_gtr, ↓o_geq, ↓o_not, ↓o_pick, ↓o_eqInt, ↓o_neInt, ↓o_eqBool, ↓o_neBool, ↓o_eqPtr, ↓o_nePtr, ↓o_eqPtr', ↓o_eqSl, ↓o_neSl, ↓o_eqStr, ↓o_neStr, ↓o_len, ↓o_lenS, ↓o_min, ↓o_max, ↓o_extract, ↓o_convInt, ↓cd_true, ↓cd_false, ↓gate_tt, ↓gate_ff, ↓gate_tf, ↓gate_ft, ↓gate_undef, ↓o_bind, ↓stay_v, ↓pop_cons, ↓fin_nil, Option.isNone_none, Option.isNone_some, Bool.not_true, Bool.not_false, Nat.zero_add, decide_true, decide_false, if_true, if_false, Bool.false_eq_true, ↓reduceIte]
      refine SameBytes_spec (l := enc a) (m := enc b) h hra hrb (by omega) fun w h => ?_
      try simp only [↓o_nil, ↓o_field, ↓o_add, ↓o_sub, ↓o_mul, ↓o_lss, ↓o_leq, ↓o_gtr, ↓o_geq, ↓o_not, ↓o_pick, ↓o_eqInt, ↓o_neInt, ↓o_eqBool, ↓o_neBool, ↓o_eqPtr, ↓o_nePtr, ↓o_eqPtr', ↓o_eqSl, ↓o_neSl, ↓o_eqStr, ↓o_neStr, ↓o_len, ↓o_lenS, ↓o_min, ↓o_max, ↓o_extract, ↓o_convInt, ↓cd_true, ↓cd_false, ↓gate_tt, ↓gate_ff, ↓gate_tf, ↓gate_ft, ↓gate_undef, ↓o_bind, ↓stay_v, ↓pop_cons, ↓fin_nil, Option.isNone_none, Option.isNone_some, Bool.not_true, Bool.not_false, Nat.zero_add, decide_true, decide_false, if_true, if_false, Bool.false_eq_true, ↓reduceIte]
      refine SameTexts_spec (l := a) (m := b) h ha.right.right hb.right.right (by omega) fun w h => ?_
      have e : decide (enc a = enc b) = decide (a = b) := by rw [decide_eq_decide, enc_inj]
      simp only [e, beq_self_eq_true, ↓o_nil, ↓o_field, ↓o_add, ↓o_sub, ↓o_mul, ↓o_lss, ↓o_leq, ↓o_gtr, ↓o_geq, ↓o_not, ↓o_pick, ↓o_eqInt, ↓o_neInt, ↓o_eqBool, ↓o_neBool, ↓o_eqPtr, ↓o_nePtr, ↓o_eqPtr', ↓o_eqSl, ↓o_neSl, ↓o_eqStr, ↓o_neStr, ↓o_len, ↓o_lenS, ↓o_min, ↓o_max, ↓o_extract, ↓o_convInt, ↓cd_true, ↓cd_false, ↓gate_tt, ↓gate_ff, ↓gate_tf, ↓gate_ft, ↓gate_undef, ↓o_bind, ↓stay_v, ↓pop_cons, ↓fin_nil, Option.isNone_none, Option.isNone_some, Bool.not_true, Bool.not_false, Nat.zero_add, decide_true, decide_false, if_true, if_false, Bool.false_eq_true, ↓reduceIte]
      exact k _ h.drop.drop
    · simp only [h1, h2, ↓o_nil, ↓o_field, ↓o_add, ↓o_sub, ↓o_mul, ↓o_lss, ↓o_leq, ↓o_gtr, ↓o_geq, ↓o_not, ↓o_pick, ↓o_eqInt, ↓o_neInt, ↓o_eqBool, ↓o_neBool, ↓o_eqPtr, ↓o_nePtr, ↓o_eqPtr', ↓o_eqSl, ↓o_neSl, ↓o_eqStr, ↓o_neStr, ↓o_len, ↓o_lenS, ↓o_min, ↓o_max, ↓o_extract, ↓o_convInt, ↓cd_true, ↓cd_false, ↓gate_tt, ↓gate_ff, ↓gate_tf, ↓gate_ft, ↓gate_undef, ↓o_bind, ↓stay_v, ↓pop_cons, ↓fin_nil, Option.isNone_none, Option.isNone_some, Bool.not_true, Bool.not_false, Nat.zero_add, decide_true, decide_false, if_true, if_false, Bool.false_eq_true, ↓reduceIte]
      refine live_spec h hd.right.right fun w h => ?_
      exact k _ h.drop.drop
  · simp only [h1, ↓o_nil, ↓o_field, ↓o_add, ↓o_sub, ↓o_mul, ↓o_lss, ↓o_leq, ↓o_gtr, ↓o_geq, ↓o_not, ↓o_pick, ↓o_eqInt, ↓o_neInt, ↓o_eqBool, ↓o_neBool, ↓o_eqPtr, ↓o_nePtr, ↓o_eqPtr', ↓o_eqSl, ↓o_neSl, ↓o_eqStr, ↓o_neStr, ↓o_len, ↓o_lenS, ↓o_min, ↓o_max, ↓o_extract, ↓o_convInt, ↓cd_true, ↓cd_false, ↓gate_tt, ↓gate_ff, ↓gate_tf, ↓gate_ft, ↓gate_undef, ↓o_bind, ↓stay_v, ↓pop_cons, ↓fin_nil, Option.isNone_none, Option.isNone_some, Bool.not_true, Bool.not_false, Nat.zero_add, decide_true, decide_false, if_true, if_false, Bool.false_eq_true, ↓reduceIte]
    refine live_spec h hd.right.right fun w h => ?_
    exact k _ h.drop.drop
end Go.Proofs.YtnkmgkilfkgfhaaDoor.Apart
