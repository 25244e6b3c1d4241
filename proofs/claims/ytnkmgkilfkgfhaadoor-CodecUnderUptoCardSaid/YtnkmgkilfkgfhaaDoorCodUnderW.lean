/-
  CodecUnder: the walk.
-/
import Derived.Test.YtnkmgkilfkgfhaaDoorCodU
set_option linter.all false
set_option maxRecDepth 100000
namespace Go.Proofs.YtnkmgkilfkgfhaaDoor.Under
open Go Hold Go.ChangeShapes Go.WideShapes Go.ChangeAt Go.RowKit
variable {E : World0} {w : World} {H R : HP} {K : Value → World → Prop}
theorem key_le' (ls : List (List UInt8)) : (key ls).1.length ≤ 64 := by
  unfold key
  split
  · simp
  · split
    · split
      · simp
      · simp only; omega
    · simp

theorem rest_spec (hd : Dbt H) {va vb : Option Addr} {ca cb : Nat} {a b all : List (List UInt8)} {la : List UInt8} {v1 v3 v4 v5 : Value} {zl : List UInt8} {g : Int} {i : Bool}
    (ra : Rds H (.slice va a.length ca) a.length (a.map tv)) (rb : Rds H (.slice vb b.length cb) b.length (b.map tv)) (ma : a.length ≤ 1048576) (mb : b.length ≤ 1048576) (hcb : b.length ≤ cb)
    (ela : enc a = la ++ [1]) (hel : (enc a).length ≤ 64) (hal : (enc all).length ≤ 64) (lxy : lexB (enc all) (enc a) = false) (lyA : lexB (enc all) (la ++ [2]) = true)
    (hi : g = 0 → i = decide (a <+: b))
    (h : sat E w (osl 5 1 v5 zl.length (zl.map bv) * (osl 5 1 v4 (enc all).length ((enc all).map bv) * (osl 9 1 v3 all.length (all.map tv) * (osl 5 1 v1 (enc a).length ((enc a).map bv) * H)))))
    (k : ∀ w', sat E w' H → K (.bool true) w') :
  pv prog (oBi .len #[22] 3 #[false] #[(.slice vb b.length cb)]) w fun t_36 w =>
  pv prog (oBi .len #[22] 3 #[false] #[(.slice va a.length ca)]) w fun t_37 w =>
  pvv prog (binOp .geq 3 t_36 t_37) w fun t_38 w =>
  gate (some (t_38, true)) (fun K => K (.slice vb b.length cb) w) w fun t_39 w =>
  gate (some (t_38, true)) (fun K => K (.slice va a.length ca) w) w fun t_40 w =>
  gate (some (t_38, true)) (fun K => pv prog (oBi .len #[22] 3 #[false] #[t_40]) w K) w fun t_41 w =>
  gate (some (t_38, true)) (fun K => pvv prog (Instr.sliceAt 22 t_39 none (some t_41) none) w K) w fun t_42 w =>
  gate (some (t_38, true)) (fun K => K (.slice va a.length ca) w) w fun t_43 w =>
  gate (some (t_38, true)) (fun K => Calls prog 17 #[t_42, t_43] w (Ret K)) w fun t_44 w =>
  pv prog (oPick t_38 t_44 (.bool false)) w fun t_45 w =>
  Calls prog 12 #[] w (Ret fun t_46 w =>
  gate (some (t_46, true)) (fun K => K v4 w) w fun t_47 w =>
  gate (some (t_46, true)) (fun K => K v1 w) w fun t_48 w =>
  gate (some (t_46, true)) (fun K => Calls prog 13 #[t_47, t_48] w (Ret K)) w fun t_49 w =>
  gate (some (t_46, true)) (fun K => pvv prog (Op.unary .not t_49) w K) w fun t_50 w =>
  pv prog (oPick t_46 t_50 (.bool false)) w fun t_51 w =>
  gate (some (t_51, true)) (fun K => K v4 w) w fun t_52 w =>
  gate (some (t_51, true)) (fun K => K v1 w) w fun t_53 w =>
  gate (some (t_51, true)) (fun K => Calls prog 18 #[t_53] w (Ret K)) w fun t_54 w =>
  gate (some (t_51, true)) (fun K => Calls prog 13 #[t_52, t_54] w (Ret K)) w fun t_55 w =>
  pv prog (oPick t_51 t_55 (.bool false)) w fun t_56 w =>
  gate (some (t_56, true)) (fun K => K (.int .i64 g) w) w fun t_57 w =>
  gate (some (t_56, true)) (fun K => pvv prog (oEq .neq 24 (.tmp 94) (.const (.int .i64 0)) t_57 (.int .i64 0)) w K) w fun t_58 w =>
  gate (some (t_56, true)) (fun K => K t_58 w) w fun t_59 w =>
  gate (some (t_59, false)) (fun K => K (.bool i) w) w fun t_60 w =>
  gate (some (t_59, false)) (fun K => K t_45 w) w fun t_61 w =>
  gate (some (t_59, false)) (fun K => pvv prog (oEq .eql 4 (.tmp 97) (.tmp 98) t_60 t_61) w K) w fun t_62 w =>
  gate (some (t_56, true)) (fun K => pv prog (oPick t_59 (.bool true) t_62) w K) w fun t_63 w =>
  pv prog (oPick t_56 t_63 (.bool false)) w fun t_64 w =>
  K t_64 w) := by
  have t0 : ∀ n : Int, decide (n = n) = true := fun n => decide_eq_true rfl
  have ell : (enc a).length = la.length + 1 := by rw [ela]; simp
  have hdd : Dbt (osl 5 1 v5 zl.length (zl.map bv) * (osl 5 1 v4 (enc all).length ((enc all).map bv) * (osl 9 1 v3 all.length (all.map tv) * (osl 5 1 v1 (enc a).length ((enc a).map bv) * H)))) := hd.right.right.right.right
  have rx : Rds (osl 5 1 v5 zl.length (zl.map bv) * (osl 5 1 v4 (enc all).length ((enc all).map bv) * (osl 9 1 v3 all.length (all.map tv) * (osl 5 1 v1 (enc a).length ((enc a).map bv) * H)))) v1 (enc a).length ((enc a).map bv) := Rds.osl.left.right.right.right
  have ry : Rds (osl 5 1 v5 zl.length (zl.map bv) * (osl 5 1 v4 (enc all).length ((enc all).map bv) * (osl 9 1 v3 all.length (all.map tv) * (osl 5 1 v1 (enc a).length ((enc a).map bv) * H)))) v4 (enc all).length ((enc all).map bv) := Rds.osl.left.right
  rw [o_len, o_len, o_geq]
  have fin : ∀ (j : Bool) (w : World), j = decide (a <+: b) → sat E w (osl 5 1 v5 zl.length (zl.map bv) * (osl 5 1 v4 (enc all).length ((enc all).map bv) * (osl 9 1 v3 all.length (all.map tv) * (osl 5 1 v1 (enc a).length ((enc a).map bv) * H)))) →
Calls prog 12 #[] w (Ret fun t_46 w =>
  gate (some (t_46, true)) (fun K => K v4 w) w fun t_47 w =>
  gate (some (t_46, true)) (fun K => K v1 w) w fun t_48 w =>
  gate (some (t_46, true)) (fun K => Calls prog 13 #[t_47, t_48] w (Ret K)) w fun t_49 w =>
  gate (some (t_46, true)) (fun K => pvv prog (Op.unary .not t_49) w K) w fun t_50 w =>
  pv prog (oPick t_46 t_50 (.bool false)) w fun t_51 w =>
  gate (some (t_51, true)) (fun K => K v4 w) w fun t_52 w =>
  gate (some (t_51, true)) (fun K => K v1 w) w fun t_53 w =>
  gate (some (t_51, true)) (fun K => Calls prog 18 #[t_53] w (Ret K)) w fun t_54 w =>
  gate (some (t_51, true)) (fun K => Calls prog 13 #[t_52, t_54] w (Ret K)) w fun t_55 w =>
  pv prog (oPick t_51 t_55 (.bool false)) w fun t_56 w =>
  gate (some (t_56, true)) (fun K => K (.int .i64 g) w) w fun t_57 w =>
  gate (some (t_56, true)) (fun K => pvv prog (oEq .neq 24 (.tmp 94) (.const (.int .i64 0)) t_57 (.int .i64 0)) w K) w fun t_58 w =>
  gate (some (t_56, true)) (fun K => K t_58 w) w fun t_59 w =>
  gate (some (t_59, false)) (fun K => K (.bool i) w) w fun t_60 w =>
  gate (some (t_59, false)) (fun K => K (.bool j) w) w fun t_61 w =>
  gate (some (t_59, false)) (fun K => pvv prog (oEq .eql 4 (.tmp 97) (.tmp 98) t_60 t_61) w K) w fun t_62 w =>
  gate (some (t_56, true)) (fun K => pv prog (oPick t_59 (.bool true) t_62) w K) w fun t_63 w =>
  pv prog (oPick t_56 t_63 (.bool false)) w fun t_64 w =>
  K t_64 w) := by
    intro j w hj h
    refine live_spec h hdd fun w h => ?_
    try simp only [t0, ↓o_nil, ↓o_field, ↓o_add, ↓o_sub, ↓o_mul, ↓o_lss, ↓o_leq, ↓o_gtr, ↓o_geq, ↓o_not, ↓o_pick, ↓o_eqInt, ↓o_neInt, ↓o_eqBool, ↓o_neBool, ↓o_eqPtr, ↓o_nePtr, ↓o_eqPtr', ↓o_eqSl, ↓o_neSl, ↓o_eqStr, ↓o_neStr, ↓o_len, ↓o_lenS, ↓o_min, ↓o_max, ↓o_extract, ↓o_convInt, ↓cd_true, ↓cd_false, ↓gate_tt, ↓gate_ff, ↓gate_tf, ↓gate_ft, ↓gate_undef, ↓o_bind, ↓stay_v, ↓pop_cons, ↓fin_nil, Option.isNone_none, Option.isNone_some, Bool.not_true, Bool.not_false, Nat.zero_add, decide_true, decide_false, if_true, if_false, Bool.false_eq_true, ↓reduceIte]
    refine Less_spec (a := enc all) (b := enc a) h ry rx (by omega) fun w h => ?_
    try simp only [lxy, t0, ↓o_nil, ↓o_field, ↓o_add, ↓o_sub, ↓o_mul, ↓o_lss, ↓o_leq, ↓o_gtr, ↓o_geq, ↓o_not, ↓o_pick, ↓o_eqInt, ↓o_neInt, ↓o_eqBool, ↓o_neBool, ↓o_eqPtr, ↓o_nePtr, ↓o_eqPtr', ↓o_eqSl, ↓o_neSl, ↓o_eqStr, ↓o_neStr, ↓o_len, ↓o_lenS, ↓o_min, ↓o_max, ↓o_extract, ↓o_convInt, ↓cd_true, ↓cd_false, ↓gate_tt, ↓gate_ff, ↓gate_tf, ↓gate_ft, ↓gate_undef, ↓o_bind, ↓stay_v, ↓pop_cons, ↓fin_nil, Option.isNone_none, Option.isNone_some, Bool.not_true, Bool.not_false, Nat.zero_add, decide_true, decide_false, if_true, if_false, Bool.false_eq_true, ↓reduceIte]
    refine After_spec (l := la) h (by omega) (by rw [← ela]; exact rx) fun vz w h => ?_
    try simp only [t0, ↓o_nil, ↓o_field, ↓o_add, ↓o_sub, ↓o_mul, ↓o_lss, ↓o_leq, ↓o_gtr, ↓o_geq, ↓o_not, ↓o_pick, ↓o_eqInt, ↓o_neInt, ↓o_eqBool, ↓o_neBool, ↓o_eqPtr, ↓o_nePtr, ↓o_eqPtr', ↓o_eqSl, ↓o_neSl, ↓o_eqStr, ↓o_neStr, ↓o_len, ↓o_lenS, ↓o_min, ↓o_max, ↓o_extract, ↓o_convInt, ↓cd_true, ↓cd_false, ↓gate_tt, ↓gate_ff, ↓gate_tf, ↓gate_ft, ↓gate_undef, ↓o_bind, ↓stay_v, ↓pop_cons, ↓fin_nil, Option.isNone_none, Option.isNone_some, Bool.not_true, Bool.not_false, Nat.zero_add, decide_true, decide_false, if_true, if_false, Bool.false_eq_true, ↓reduceIte]
    refine Less_spec (a := enc all) (b := la ++ [2]) h ry.right Rds.osl.left (by omega) fun w h => ?_
    try simp only [lyA, t0, ↓o_nil, ↓o_field, ↓o_add, ↓o_sub, ↓o_mul, ↓o_lss, ↓o_leq, ↓o_gtr, ↓o_geq, ↓o_not, ↓o_pick, ↓o_eqInt, ↓o_neInt, ↓o_eqBool, ↓o_neBool, ↓o_eqPtr, ↓o_nePtr, ↓o_eqPtr', ↓o_eqSl, ↓o_neSl, ↓o_eqStr, ↓o_neStr, ↓o_len, ↓o_lenS, ↓o_min, ↓o_max, ↓o_extract, ↓o_convInt, ↓cd_true, ↓cd_false, ↓gate_tt, ↓gate_ff, ↓gate_tf, ↓gate_ft, ↓gate_undef, ↓o_bind, ↓stay_v, ↓pop_cons, ↓fin_nil, Option.isNone_none, Option.isNone_some, Bool.not_true, Bool.not_false, Nat.zero_add, decide_true, decide_false, if_true, if_false, Bool.false_eq_true, ↓reduceIte]
    by_cases hg : g = 0
    · have hij : (i == j) = true := by rw [hi hg, hj]; simp
      try simp only [hg, hij, t0, ↓o_nil, ↓o_field, ↓o_add, ↓o_sub, ↓o_mul, ↓o_lss, ↓o_leq, ↓o_gtr, ↓o_geq, ↓o_not, ↓o_pick, ↓o_eqInt, ↓o_neInt, ↓o_eqBool, ↓o_neBool, ↓o_eqPtr, ↓o_nePtr, ↓o_eqPtr', ↓o_eqSl, ↓o_neSl, ↓o_eqStr, ↓o_neStr, ↓o_len, ↓o_lenS, ↓o_min, ↓o_max, ↓o_extract, ↓o_convInt, ↓cd_true, ↓cd_false, ↓gate_tt, ↓gate_ff, ↓gate_tf, ↓gate_ft, ↓gate_undef, ↓o_bind, ↓stay_v, ↓pop_cons, ↓fin_nil, Option.isNone_none, Option.isNone_some, Bool.not_true, Bool.not_false, Nat.zero_add, decide_true, decide_false, if_true, if_false, Bool.false_eq_true, ↓reduceIte]
      exact k _ h.drop.drop.drop.drop.drop
    · try simp only [hg, t0, ↓o_nil, ↓o_field, ↓o_add, ↓o_sub, ↓o_mul, ↓o_lss, ↓o_leq, ↓o_gtr, ↓o_geq, ↓o_not, ↓o_pick, ↓o_eqInt, ↓o_neInt, ↓o_eqBool, ↓o_neBool, ↓o_eqPtr, ↓o_nePtr, ↓o_eqPtr', ↓o_eqSl, ↓o_neSl, ↓o_eqStr, ↓o_neStr, ↓o_len, ↓o_lenS, ↓o_min, ↓o_max, ↓o_extract, ↓o_convInt, ↓cd_true, ↓cd_false, ↓gate_tt, ↓gate_ff, ↓gate_tf, ↓gate_ft, ↓gate_undef, ↓o_bind, ↓stay_v, ↓pop_cons, ↓fin_nil, Option.isNone_none, Option.isNone_some, Bool.not_true, Bool.not_false, Nat.zero_add, decide_true, decide_false, if_true, if_false, Bool.false_eq_true, ↓reduceIte]
      exact k _ h.drop.drop.drop.drop.drop
  by_cases hlen : a.length ≤ b.length
  · have t5 : decide ((a.length : Int) ≤ (b.length : Int)) = true := decide_eq_true (by omega)
    simp only [t5, ↓o_nil, ↓o_field, ↓o_add, ↓o_sub, ↓o_mul, ↓o_lss, ↓o_leq, ↓o_gtr, ↓o_geq, ↓o_not, ↓o_pick, ↓o_eqInt, ↓o_neInt, ↓o_eqBool, ↓o_neBool, ↓o_eqPtr, ↓o_nePtr, ↓o_eqPtr', ↓o_eqSl, ↓o_neSl, ↓o_eqStr, ↓o_neStr, ↓o_len, ↓o_lenS, ↓o_min, ↓o_max, ↓o_extract, ↓o_convInt, ↓cd_true, ↓cd_false, ↓gate_tt, ↓gate_ff, ↓gate_tf, ↓gate_ft, ↓gate_undef, ↓o_bind, ↓stay_v, ↓pop_cons, ↓fin_nil, Option.isNone_none, Option.isNone_some, Bool.not_true, Bool.not_false, Nat.zero_add, decide_true, decide_false, if_true, if_false, Bool.false_eq_true, ↓reduceIte]
    rw [o_slice_h (by omega) (by omega)]
    simp only [Int.toNat_natCast]
    have hcut : Rds (osl 5 1 v5 zl.length (zl.map bv) * (osl 5 1 v4 (enc all).length ((enc all).map bv) * (osl 9 1 v3 all.length (all.map tv) * (osl 5 1 v1 (enc a).length ((enc a).map bv) * H)))) (.slice (cutA vb cb 0 1) a.length cb) (b.take a.length).length ((b.take a.length).map tv) := by
      intro E w hs
      obtain ⟨a', c', e', hc', hw'⟩ := rb E w hs.drop.drop.drop.drop
      cases e'
      have h9 := win_cut hw' (c := cb) (n := 0) (sz := 1) (fun hcn => by rw [List.length_map]; omega)
      have h9 := win_take h9 a.length
      refine ⟨_, _, by rw [List.length_take, Nat.min_eq_left hlen], by rw [List.length_take]; omega, ?_⟩
      simpa [List.map_take] using h9
    refine SameTexts_spec h hcut ra.right.right.right.right (by rw [List.length_take]; omega) fun w h => ?_
    try simp only [↓o_nil, ↓o_field, ↓o_add, ↓o_sub, ↓o_mul, ↓o_lss, ↓o_leq, ↓o_gtr, ↓o_geq, ↓o_not, ↓o_pick, ↓o_eqInt, ↓o_neInt, ↓o_eqBool, ↓o_neBool, ↓o_eqPtr, ↓o_nePtr, ↓o_eqPtr', ↓o_eqSl, ↓o_neSl, ↓o_eqStr, ↓o_neStr, ↓o_len, ↓o_lenS, ↓o_min, ↓o_max, ↓o_extract, ↓o_convInt, ↓cd_true, ↓cd_false, ↓gate_tt, ↓gate_ff, ↓gate_tf, ↓gate_ft, ↓gate_undef, ↓o_bind, ↓stay_v, ↓pop_cons, ↓fin_nil, Option.isNone_none, Option.isNone_some, Bool.not_true, Bool.not_false, Nat.zero_add, decide_true, decide_false, if_true, if_false, Bool.false_eq_true, ↓reduceIte]
    refine fin _ w ?_ h
    congr 1
    exact propext (pre_take hlen)
  · have t5 : decide ((a.length : Int) ≤ (b.length : Int)) = false := decide_eq_false (by omega)
    simp only [t5, ↓o_nil, ↓o_field, ↓o_add, ↓o_sub, ↓o_mul, ↓o_lss, ↓o_leq, ↓o_gtr, ↓o_geq, ↓o_not, ↓o_pick, ↓o_eqInt, ↓o_neInt, ↓o_eqBool, ↓o_neBool, ↓o_eqPtr, ↓o_nePtr, ↓o_eqPtr', ↓o_eqSl, ↓o_neSl, ↓o_eqStr, ↓o_neStr, ↓o_len, ↓o_lenS, ↓o_min, ↓o_max, ↓o_extract, ↓o_convInt, ↓cd_true, ↓cd_false, ↓gate_tt, ↓gate_ff, ↓gate_tf, ↓gate_ft, ↓gate_undef, ↓o_bind, ↓stay_v, ↓pop_cons, ↓fin_nil, Option.isNone_none, Option.isNone_some, Bool.not_true, Bool.not_false, Nat.zero_add, decide_true, decide_false, if_true, if_false, Bool.false_eq_true, ↓reduceIte]
    refine fin _ w ?_ h
    symm
    rw [decide_eq_false_iff_not]
    intro hp
    exact hlen hp.length_le

theorem Under_spec (h : sat E w H) (hd : Dbt H) {v u : Value} (a : List (List UInt8)) (ra : Rds H v a.length (a.map tv)) (ma : a.length ≤ 1048576) (b : List (List UInt8)) (rb : Rds H u b.length (b.map tv)) (mb : b.length ≤ 1048576)
    (k : ∀ w', sat E w' H → K (.bool true) w') : Calls prog 6 #[v, u] w (Ret K) := by
  have t0 : ∀ n : Int, decide (n = n) = true := fun n => decide_eq_true rfl
  obtain ⟨va, ca, rfl, hca, ra, _⟩ := ra.shape h
  obtain ⟨vb, cb, rfl, hcb, rb, _⟩ := rb.shape h
  refine c6 ?_
  unfold B6
  refine Key_spec h ra fun v1 w h => ?_
  rw [o_extract, o_extract]
  have tone : ∀ l : List (List UInt8), ∀ x ∈ l.map tv, x.oneCell' = true := by
    intro l x hx
    obtain ⟨c, _, rfl⟩ := List.mem_map.1 hx
    rfl
  refine append_sl (osl_nil h 9 1) (a.map tv) (k' := a.length) (by simp) (ra.right.win h) (tone a) (by omega) (by omega) fun v2 w h => ?_
  refine append_sl (v := v2) h (b.map tv) (k' := b.length) (by simp) (rb.right.right.win h) (tone b) (by omega) (by omega) fun v3 w h => ?_
  have e1 : [] ++ a.map tv ++ b.map tv = (a ++ b).map tv := by simp
  have e2 : 0 + a.length + b.length = (a ++ b).length := by simp
  rw [e1, e2] at h
  generalize hall : a ++ b = all at h
  refine Key_spec h Rds.osl.left fun v4 w h => ?_
  rw [o_extract, o_extract, o_neInt]
  by_cases g1 : (key a).2 = 0
  case neg =>
    simp only [g1, ↓o_nil, ↓o_field, ↓o_add, ↓o_sub, ↓o_mul, ↓o_lss, ↓o_leq, ↓o_gtr, ↓o_geq, ↓o_not, ↓o_pick, ↓o_eqInt, ↓o_neInt, ↓o_eqBool, ↓o_neBool, ↓o_eqPtr, ↓o_nePtr, ↓o_eqPtr', ↓o_eqSl, ↓o_neSl, ↓o_eqStr, ↓o_neStr, ↓o_len, ↓o_lenS, ↓o_min, ↓o_max, ↓o_extract, ↓o_convInt, ↓cd_true, ↓cd_false, ↓gate_tt, ↓gate_ff, ↓gate_tf, ↓gate_ft, ↓gate_undef, ↓o_bind, ↓stay_v, ↓pop_cons, ↓fin_nil, Option.isNone_none, Option.isNone_some, Bool.not_true, Bool.not_false, Nat.zero_add, decide_true, decide_false, if_true, if_false, Bool.false_eq_true, ↓reduceIte]
    refine live_spec h hd.right.right.right fun w h => ?_
    exact k _ h.drop.drop.drop
  by_cases g2 : (key all).2 = 0
  case neg =>
    simp only [g1, g2, t0, ↓o_nil, ↓o_field, ↓o_add, ↓o_sub, ↓o_mul, ↓o_lss, ↓o_leq, ↓o_gtr, ↓o_geq, ↓o_not, ↓o_pick, ↓o_eqInt, ↓o_neInt, ↓o_eqBool, ↓o_neBool, ↓o_eqPtr, ↓o_nePtr, ↓o_eqPtr', ↓o_eqSl, ↓o_neSl, ↓o_eqStr, ↓o_neStr, ↓o_len, ↓o_lenS, ↓o_min, ↓o_max, ↓o_extract, ↓o_convInt, ↓cd_true, ↓cd_false, ↓gate_tt, ↓gate_ff, ↓gate_tf, ↓gate_ft, ↓gate_undef, ↓o_bind, ↓stay_v, ↓pop_cons, ↓fin_nil, Option.isNone_none, Option.isNone_some, Bool.not_true, Bool.not_false, Nat.zero_add, decide_true, decide_false, if_true, if_false, Bool.false_eq_true, ↓reduceIte]
    refine live_spec h hd.right.right.right fun w h => ?_
    exact k _ h.drop.drop.drop
  simp only [g1, g2, t0, ↓o_nil, ↓o_field, ↓o_add, ↓o_sub, ↓o_mul, ↓o_lss, ↓o_leq, ↓o_gtr, ↓o_geq, ↓o_not, ↓o_pick, ↓o_eqInt, ↓o_neInt, ↓o_eqBool, ↓o_neBool, ↓o_eqPtr, ↓o_nePtr, ↓o_eqPtr', ↓o_eqSl, ↓o_neSl, ↓o_eqStr, ↓o_neStr, ↓o_len, ↓o_lenS, ↓o_min, ↓o_max, ↓o_extract, ↓o_convInt, ↓cd_true, ↓cd_false, ↓gate_tt, ↓gate_ff, ↓gate_tf, ↓gate_ft, ↓gate_undef, ↓o_bind, ↓stay_v, ↓pop_cons, ↓fin_nil, Option.isNone_none, Option.isNone_some, Bool.not_true, Bool.not_false, Nat.zero_add, decide_true, decide_false, if_true, if_false, Bool.false_eq_true, ↓reduceIte]
  obtain ⟨ea, lea⟩ := key_ok g1
  obtain ⟨eall, leall⟩ := key_ok g2
  have hane : a ≠ [] := by
    rintro rfl
    revert g1; decide
  obtain ⟨la, ela⟩ := enc_last hane
  have ell : (enc a).length = la.length + 1 := by rw [ela]; simp
  rw [ea, eall] at h
  have hxy : enc all = enc a ++ enc b := by rw [← hall, enc_append]
  have lxy : lexB (enc all) (enc a) = false := by rw [hxy]; exact lex_longer _ _
  have lyA : lexB (enc all) (la ++ [2]) = true := ((between la (enc all)).2 (by rw [← ela, hxy]; exact List.prefix_append _ _)).2
  refine Key_spec h rb.right.right.right fun v5 w h => ?_
  rw [o_extract, o_extract]
  have rx : ∀ (X Y : HP), Rds (X * (Y * (osl 9 1 v3 all.length (all.map tv) * (osl 5 1 v1 (enc a).length ((enc a).map bv) * H)))) v1 (enc a).length ((enc a).map bv) := fun X Y => Rds.osl.left.right.right.right
  have ry : ∀ X : HP, Rds (X * (osl 5 1 v4 (enc all).length ((enc all).map bv) * (osl 9 1 v3 all.length (all.map tv) * (osl 5 1 v1 (enc a).length ((enc a).map bv) * H)))) v4 (enc all).length ((enc all).map bv) := fun X => Rds.osl.left.right
  refine After_spec (l := la) h (by omega) (by rw [← ela]; exact rx _ _) fun v6 w h => ?_
  refine RAfter_spec (l := la) h (by omega) (by rw [← ela]; exact (rx _ _).right) fun v7 w h => ?_
  refine SameBytes_spec (l := la ++ [2]) (m := la ++ [2]) h Rds.osl.left.right Rds.osl.left (by simp; omega) fun w h => ?_
  simp only [decide_true, ↓o_nil, ↓o_field, ↓o_add, ↓o_sub, ↓o_mul, ↓o_lss, ↓o_leq, ↓o_gtr, ↓o_geq, ↓o_not, ↓o_pick, ↓o_eqInt, ↓o_neInt, ↓o_eqBool, ↓o_neBool, ↓o_eqPtr, ↓o_nePtr, ↓o_eqPtr', ↓o_eqSl, ↓o_neSl, ↓o_eqStr, ↓o_neStr, ↓o_len, ↓o_lenS, ↓o_min, ↓o_max, ↓o_extract, ↓o_convInt, ↓cd_true, ↓cd_false, ↓gate_tt, ↓gate_ff, ↓gate_tf, ↓gate_ft, ↓gate_undef, ↓o_bind, ↓stay_v, ↓pop_cons, ↓fin_nil, Option.isNone_none, Option.isNone_some, Bool.not_true, Bool.not_false, Nat.zero_add, decide_true, decide_false, if_true, if_false, Bool.false_eq_true, ↓reduceIte]
  refine After_nil h fun v8 w h => ?_
  refine buildSlice_sl (e := 5) (cs := #[bv 255]) h (fun w => by kernel_rfl) fun b9 w h => ?_
  refine SameBytes_spec (l := [255]) (m := [255]) h Rds.osl.left.right (rds_row (b := b9) (xs := [bv 255]) (sp := []) (Nat.le_refl _)) (by simp) fun w h => ?_
  simp only [decide_true, ↓o_nil, ↓o_field, ↓o_add, ↓o_sub, ↓o_mul, ↓o_lss, ↓o_leq, ↓o_gtr, ↓o_geq, ↓o_not, ↓o_pick, ↓o_eqInt, ↓o_neInt, ↓o_eqBool, ↓o_neBool, ↓o_eqPtr, ↓o_nePtr, ↓o_eqPtr', ↓o_eqSl, ↓o_neSl, ↓o_eqStr, ↓o_neStr, ↓o_len, ↓o_lenS, ↓o_min, ↓o_max, ↓o_extract, ↓o_convInt, ↓cd_true, ↓cd_false, ↓gate_tt, ↓gate_ff, ↓gate_tf, ↓gate_ft, ↓gate_undef, ↓o_bind, ↓stay_v, ↓pop_cons, ↓fin_nil, Option.isNone_none, Option.isNone_some, Bool.not_true, Bool.not_false, Nat.zero_add, decide_true, decide_false, if_true, if_false, Bool.false_eq_true, ↓reduceIte]
  have h := h.drop.drop.drop.drop
  have hdd : Dbt (osl 5 1 v5 (key b).1.length ((key b).1.map bv) * (osl 5 1 v4 (enc all).length ((enc all).map bv) * (osl 9 1 v3 all.length (all.map tv) * (osl 5 1 v1 (enc a).length ((enc a).map bv) * H)))) := hd.right.right.right.right
  have ry2 : ∀ X Y : HP, Rds (X * (Y * (osl 5 1 v4 (enc all).length ((enc all).map bv) * (osl 9 1 v3 all.length (all.map tv) * (osl 5 1 v1 (enc a).length ((enc a).map bv) * H))))) v4 (enc all).length ((enc all).map bv) := fun X Y => Rds.osl.left.right.right
  have rz : Rds (osl 5 1 v5 (key b).1.length ((key b).1.map bv) * (osl 5 1 v4 (enc all).length ((enc all).map bv) * (osl 9 1 v3 all.length (all.map tv) * (osl 5 1 v1 (enc a).length ((enc a).map bv) * H)))) v5 (key b).1.length ((key b).1.map bv) := Rds.osl.left
  have lkb : (key b).1.length ≤ 64 := key_le' b
  by_cases g3 : (key b).2 = 0
  · obtain ⟨eb, leb⟩ := key_ok g3
    have hbt := between la (enc b)
    rw [← ela, pre_enc] at hbt
    simp only [g3, t0, ↓o_eqInt, ↓o_not, ↓o_pick, ↓gate_tt, ↓gate_ff, ↓gate_tf, ↓gate_ft, ↓gate_undef, Bool.not_true, Bool.not_false, if_true, if_false, Bool.false_eq_true, ↓reduceIte, decide_true, decide_false]
    refine Less_spec (a := (key b).1) (b := enc a) h rz (rx _ _) (by omega) fun w h => ?_
    rw [eb] at rz hdd h ⊢
    by_cases b1 : lexB (enc b) (enc a) = true
    · simp only [b1, ↓o_eqInt, ↓o_not, ↓o_pick, ↓gate_tt, ↓gate_ff, ↓gate_tf, ↓gate_ft, ↓gate_undef, Bool.not_true, Bool.not_false, if_true, if_false, Bool.false_eq_true, ↓reduceIte, decide_true, decide_false]
      have hr := fun hx => rest_spec (g := 0) (i := false) (v5 := v5) hd ra rb ma mb hcb ela lea leall lxy lyA hx h k
      try simp only [t0, ↓o_nil, ↓o_field, ↓o_add, ↓o_sub, ↓o_mul, ↓o_lss, ↓o_leq, ↓o_gtr, ↓o_geq, ↓o_not, ↓o_pick, ↓o_eqInt, ↓o_neInt, ↓o_eqBool, ↓o_neBool, ↓o_eqPtr, ↓o_nePtr, ↓o_eqPtr', ↓o_eqSl, ↓o_neSl, ↓o_eqStr, ↓o_neStr, ↓o_len, ↓o_lenS, ↓o_min, ↓o_max, ↓o_extract, ↓o_convInt, ↓cd_true, ↓cd_false, ↓gate_tt, ↓gate_ff, ↓gate_tf, ↓gate_ft, ↓gate_undef, ↓o_bind, ↓stay_v, ↓pop_cons, ↓fin_nil, Option.isNone_none, Option.isNone_some, Bool.not_true, Bool.not_false, Nat.zero_add, decide_true, decide_false, if_true, if_false, Bool.false_eq_true, ↓reduceIte] at hr
      try simp only [t0, ↓o_nil, ↓o_field, ↓o_add, ↓o_sub, ↓o_mul, ↓o_lss, ↓o_leq, ↓o_gtr, ↓o_geq, ↓o_not, ↓o_pick, ↓o_eqInt, ↓o_neInt, ↓o_eqBool, ↓o_neBool, ↓o_eqPtr, ↓o_nePtr, ↓o_eqPtr', ↓o_eqSl, ↓o_neSl, ↓o_eqStr, ↓o_neStr, ↓o_len, ↓o_lenS, ↓o_min, ↓o_max, ↓o_extract, ↓o_convInt, ↓cd_true, ↓cd_false, ↓gate_tt, ↓gate_ff, ↓gate_tf, ↓gate_ft, ↓gate_undef, ↓o_bind, ↓stay_v, ↓pop_cons, ↓fin_nil, Option.isNone_none, Option.isNone_some, Bool.not_true, Bool.not_false, Nat.zero_add, decide_true, decide_false, if_true, if_false, Bool.false_eq_true, ↓reduceIte]
      refine hr fun _ => ?_
      symm
      rw [decide_eq_false_iff_not, ← hbt, b1]
      rintro ⟨h1, _⟩
      cases h1
    · have b1' : lexB (enc b) (enc a) = false := by simpa using b1
      simp only [b1', ↓o_eqInt, ↓o_not, ↓o_pick, ↓gate_tt, ↓gate_ff, ↓gate_tf, ↓gate_ft, ↓gate_undef, Bool.not_true, Bool.not_false, if_true, if_false, Bool.false_eq_true, ↓reduceIte, decide_true, decide_false]
      refine After_spec (l := la) h (by omega) (by rw [← ela]; exact rx _ _) fun vz w h => ?_
      refine Less_spec (a := enc b) (b := la ++ [2]) h (Rds.right rz) Rds.osl.left (by omega) fun w h => ?_
      try simp only [↓o_eqInt, ↓o_not, ↓o_pick, ↓gate_tt, ↓gate_ff, ↓gate_tf, ↓gate_ft, ↓gate_undef, Bool.not_true, Bool.not_false, if_true, if_false, Bool.false_eq_true, ↓reduceIte, decide_true, decide_false]
      have hr := fun hx => rest_spec (g := 0) (i := lexB (enc b) (la ++ [2])) (v5 := v5) hd ra rb ma mb hcb ela lea leall lxy lyA hx h.drop k
      try simp only [t0, ↓o_nil, ↓o_field, ↓o_add, ↓o_sub, ↓o_mul, ↓o_lss, ↓o_leq, ↓o_gtr, ↓o_geq, ↓o_not, ↓o_pick, ↓o_eqInt, ↓o_neInt, ↓o_eqBool, ↓o_neBool, ↓o_eqPtr, ↓o_nePtr, ↓o_eqPtr', ↓o_eqSl, ↓o_neSl, ↓o_eqStr, ↓o_neStr, ↓o_len, ↓o_lenS, ↓o_min, ↓o_max, ↓o_extract, ↓o_convInt, ↓cd_true, ↓cd_false, ↓gate_tt, ↓gate_ff, ↓gate_tf, ↓gate_ft, ↓gate_undef, ↓o_bind, ↓stay_v, ↓pop_cons, ↓fin_nil, Option.isNone_none, Option.isNone_some, Bool.not_true, Bool.not_false, Nat.zero_add, decide_true, decide_false, if_true, if_false, Bool.false_eq_true, ↓reduceIte] at hr
      try simp only [t0, ↓o_nil, ↓o_field, ↓o_add, ↓o_sub, ↓o_mul, ↓o_lss, ↓o_leq, ↓o_gtr, ↓o_geq, ↓o_not, ↓o_pick, ↓o_eqInt, ↓o_neInt, ↓o_eqBool, ↓o_neBool, ↓o_eqPtr, ↓o_nePtr, ↓o_eqPtr', ↓o_eqSl, ↓o_neSl, ↓o_eqStr, ↓o_neStr, ↓o_len, ↓o_lenS, ↓o_min, ↓o_max, ↓o_extract, ↓o_convInt, ↓cd_true, ↓cd_false, ↓gate_tt, ↓gate_ff, ↓gate_tf, ↓gate_ft, ↓gate_undef, ↓o_bind, ↓stay_v, ↓pop_cons, ↓fin_nil, Option.isNone_none, Option.isNone_some, Bool.not_true, Bool.not_false, Nat.zero_add, decide_true, decide_false, if_true, if_false, Bool.false_eq_true, ↓reduceIte]
      refine hr fun _ => ?_
      rw [Bool.eq_iff_iff, decide_eq_true_iff, ← hbt, b1']
      simp
  · simp only [g3, ↓o_eqInt, ↓o_not, ↓o_pick, ↓gate_tt, ↓gate_ff, ↓gate_tf, ↓gate_ft, ↓gate_undef, Bool.not_true, Bool.not_false, if_true, if_false, Bool.false_eq_true, ↓reduceIte, decide_true, decide_false]
    have hr := rest_spec (g := (key b).2) (i := false) (v5 := v5) hd ra rb ma mb hcb ela lea leall lxy lyA (fun h0 => absurd h0 g3) h k
    try simp only [g3, ↓o_nil, ↓o_field, ↓o_add, ↓o_sub, ↓o_mul, ↓o_lss, ↓o_leq, ↓o_gtr, ↓o_geq, ↓o_not, ↓o_pick, ↓o_eqInt, ↓o_neInt, ↓o_eqBool, ↓o_neBool, ↓o_eqPtr, ↓o_nePtr, ↓o_eqPtr', ↓o_eqSl, ↓o_neSl, ↓o_eqStr, ↓o_neStr, ↓o_len, ↓o_lenS, ↓o_min, ↓o_max, ↓o_extract, ↓o_convInt, ↓cd_true, ↓cd_false, ↓gate_tt, ↓gate_ff, ↓gate_tf, ↓gate_ft, ↓gate_undef, ↓o_bind, ↓stay_v, ↓pop_cons, ↓fin_nil, Option.isNone_none, Option.isNone_some, Bool.not_true, Bool.not_false, Nat.zero_add, decide_true, decide_false, if_true, if_false, Bool.false_eq_true, ↓reduceIte] at hr
    try simp only [g3, ↓o_nil, ↓o_field, ↓o_add, ↓o_sub, ↓o_mul, ↓o_lss, ↓o_leq, ↓o_gtr, ↓o_geq, ↓o_not, ↓o_pick, ↓o_eqInt, ↓o_neInt, ↓o_eqBool, ↓o_neBool, ↓o_eqPtr, ↓o_nePtr, ↓o_eqPtr', ↓o_eqSl, ↓o_neSl, ↓o_eqStr, ↓o_neStr, ↓o_len, ↓o_lenS, ↓o_min, ↓o_max, ↓o_extract, ↓o_convInt, ↓cd_true, ↓cd_false, ↓gate_tt, ↓gate_ff, ↓gate_tf, ↓gate_ft, ↓gate_undef, ↓o_bind, ↓stay_v, ↓pop_cons, ↓fin_nil, Option.isNone_none, Option.isNone_some, Bool.not_true, Bool.not_false, Nat.zero_add, decide_true, decide_false, if_true, if_false, Bool.false_eq_true, ↓reduceIte]
    exact hr
end Go.Proofs.YtnkmgkilfkgfhaaDoor.Under
