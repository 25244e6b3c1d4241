/-
  A book is loaded from the row of one user.
-/
import Derived.Test.YtmnaalpjhkkglaaGreatDoorCrC
import Derived.Test.YtmnaalpjhkkglaaGreatDoorTests
import Derived.Test.YtmnaalpjhkkglaaGreatDoorHshR
set_option linter.all false
set_option maxRecDepth 100000
namespace Go.Proofs.YtmnaalpjhkkglaaGreatDoor
open Go Hold
variable {E : World0} {w : World} {H R : HP} {K : Value → World → Prop}
theorem Rds.cut1 {a : Option Addr} {n c lo : Nat} {xs : List Value} (hb : Rds H (.slice a n c) n xs) (hl : xs.length = n) (h1 : lo ≤ n) : Rds H (.slice (cutA a c lo 1) (n - lo) (c - lo)) (n - lo) (xs.drop lo) := fun E w hs => by
  obtain ⟨_, _, e, hc, hw⟩ := hb E w hs
  cases e
  exact ⟨_, _, rfl, by omega, by simpa using win_cut (sz := 1) hw (c := c) (n := lo) (fun e => by omega)⟩
section
variable {p m : Nat} {r : Rc}
theorem rc_build5 {r : Rc} (hr : r.h.length = 32) {K : Value → World → Prop} (k : K (.agg (rcc r).toArray) w) :
    pvv prog (Instr.build 105 #[(0, .agg #[.int .i64 (r.tr : Int), .int .i64 (r.un : Int)]), (1, .agg (r.h.map bv).toArray), (2, tv r.salt), (3, .int .i64 (r.cost : Int)), (4, .slice none 0 0)]) w K := by
  obtain ⟨t, u, h, s, c⟩ := r
  obtain ⟨f, rfl⟩ := fn32 hr
  exact pvv_of (fun w => by kernel_rfl) k
structure Fit (r : Rc) : Prop where
  h : r.h.length = 32
  salt : r.salt.length ≤ 8
  c1 : 1 ≤ r.cost
  c2 : r.cost ≤ 64
  tr : r.tr ≤ 3
  un : r.un ≤ 1099511627876
theorem Take_spec {cv : Value} (f : Fit r) (hd : Dbt R) (hc : Rds R cv 5 ((rcols r).map tv)) (h : sat E w (bkI p m [] R)) (k : ∀ w', sat E w' (bkI p m (oneU r) R) → K (.bool true) w') :
    Calls prog 44 #[.pointer (some ⟨p, 0, none⟩), .agg #[tv qk, cv]] w (Ret K) := by
  have hr := f.h
  obtain ⟨va, vc, rfl, hvc, hc, _⟩ := hc.shape (h.drop.drop)
  obtain ⟨vb, vo, _, e, _, hc⟩ := hc.opened (h.drop.drop) (by simp [rcols])
  cases e
  refine c44 ?_
  unfold B44
  refine box_sl h fun rb w h => ?_
  have h : sat E w (pts rb (.cells [tv qk, .slice (some ⟨vb, vo, none⟩) 5 vc].toArray 41 (0, 0)) * bkI p m [] R) := h
  try simp only [↓o_nil, ↓o_field, ↓o_add, ↓o_sub, ↓o_mul, ↓o_lss, ↓o_leq, ↓o_gtr, ↓o_geq, ↓o_not, ↓o_pick, ↓o_eqInt, ↓o_neInt, ↓o_eqBool, ↓o_neBool, ↓o_eqPtr, ↓o_nePtr, ↓o_eqPtr', ↓o_eqSl, ↓o_neSl, ↓o_eqStr, ↓o_neStr, ↓o_len, ↓o_lenS, ↓o_min, ↓o_max, ↓o_extract, ↓o_convInt, ↓cd_true, ↓cd_false, ↓gate_tt, ↓gate_ff, ↓gate_tf, ↓gate_ft, ↓gate_undef, ↓o_bind, ↓stay_v, ↓pop_cons, ↓fin_nil, Option.isNone_none, Option.isNone_some, Bool.not_true, Bool.not_false, Nat.zero_add, decide_true, decide_false, if_true, if_false, Bool.false_eq_true, ↓reduceIte]
  refine ld_in (b := rb) (v := tv qk) h rfl ?_
  refine Split_spec h fun sb w h => ?_
  simp only [show decide (((2 : Nat) : Int) < 2) = false from rfl, ↓o_nil, ↓o_field, ↓o_add, ↓o_sub, ↓o_mul, ↓o_lss, ↓o_leq, ↓o_gtr, ↓o_geq, ↓o_not, ↓o_pick, ↓o_eqInt, ↓o_neInt, ↓o_eqBool, ↓o_neBool, ↓o_eqPtr, ↓o_nePtr, ↓o_eqPtr', ↓o_eqSl, ↓o_neSl, ↓o_eqStr, ↓o_neStr, ↓o_len, ↓o_lenS, ↓o_min, ↓o_max, ↓o_extract, ↓o_convInt, ↓cd_true, ↓cd_false, ↓gate_tt, ↓gate_ff, ↓gate_tf, ↓gate_ft, ↓gate_undef, ↓o_bind, ↓stay_v, ↓pop_cons, ↓fin_nil, Option.isNone_none, Option.isNone_some, Bool.not_true, Bool.not_false, Nat.zero_add, decide_true, decide_false, if_true, if_false, Bool.false_eq_true, ↓reduceIte]
  rw [o_index (by decide) (by decide)]
  try simp only [↓o_nil, ↓o_field, ↓o_add, ↓o_sub, ↓o_mul, ↓o_lss, ↓o_leq, ↓o_gtr, ↓o_geq, ↓o_not, ↓o_pick, ↓o_eqInt, ↓o_neInt, ↓o_eqBool, ↓o_neBool, ↓o_eqPtr, ↓o_nePtr, ↓o_eqPtr', ↓o_eqSl, ↓o_neSl, ↓o_eqStr, ↓o_neStr, ↓o_len, ↓o_lenS, ↓o_min, ↓o_max, ↓o_extract, ↓o_convInt, ↓cd_true, ↓cd_false, ↓gate_tt, ↓gate_ff, ↓gate_tf, ↓gate_ft, ↓gate_undef, ↓o_bind, ↓stay_v, ↓pop_cons, ↓fin_nil, Option.isNone_none, Option.isNone_some, Bool.not_true, Bool.not_false, Nat.zero_add, decide_true, decide_false, if_true, if_false, Bool.false_eq_true, ↓reduceIte]
  refine ld_in (b := sb) (v := tv [116]) h rfl ?_
  refine IsName_spec h (by decide) fun w h => ?_
  simp only [show isName [116] = true by decide, ↓o_nil, ↓o_field, ↓o_add, ↓o_sub, ↓o_mul, ↓o_lss, ↓o_leq, ↓o_gtr, ↓o_geq, ↓o_not, ↓o_pick, ↓o_eqInt, ↓o_neInt, ↓o_eqBool, ↓o_neBool, ↓o_eqPtr, ↓o_nePtr, ↓o_eqPtr', ↓o_eqSl, ↓o_neSl, ↓o_eqStr, ↓o_neStr, ↓o_len, ↓o_lenS, ↓o_min, ↓o_max, ↓o_extract, ↓o_convInt, ↓cd_true, ↓cd_false, ↓gate_tt, ↓gate_ff, ↓gate_tf, ↓gate_ft, ↓gate_undef, ↓o_bind, ↓stay_v, ↓pop_cons, ↓fin_nil, Option.isNone_none, Option.isNone_some, Bool.not_true, Bool.not_false, Nat.zero_add, decide_true, decide_false, if_true, if_false, Bool.false_eq_true, ↓reduceIte]
  rw [o_index (by decide) (by decide)]
  try simp only [↓o_nil, ↓o_field, ↓o_add, ↓o_sub, ↓o_mul, ↓o_lss, ↓o_leq, ↓o_gtr, ↓o_geq, ↓o_not, ↓o_pick, ↓o_eqInt, ↓o_neInt, ↓o_eqBool, ↓o_neBool, ↓o_eqPtr, ↓o_nePtr, ↓o_eqPtr', ↓o_eqSl, ↓o_neSl, ↓o_eqStr, ↓o_neStr, ↓o_len, ↓o_lenS, ↓o_min, ↓o_max, ↓o_extract, ↓o_convInt, ↓cd_true, ↓cd_false, ↓gate_tt, ↓gate_ff, ↓gate_tf, ↓gate_ft, ↓gate_undef, ↓o_bind, ↓stay_v, ↓pop_cons, ↓fin_nil, Option.isNone_none, Option.isNone_some, Bool.not_true, Bool.not_false, Nat.zero_add, decide_true, decide_false, if_true, if_false, Bool.false_eq_true, ↓reduceIte]
  refine ld_in (b := sb) (v := tv [117]) h rfl ?_
  refine IsName_spec h (by decide) fun w h => ?_
  simp only [show isName [117] = true by decide, ↓o_nil, ↓o_field, ↓o_add, ↓o_sub, ↓o_mul, ↓o_lss, ↓o_leq, ↓o_gtr, ↓o_geq, ↓o_not, ↓o_pick, ↓o_eqInt, ↓o_neInt, ↓o_eqBool, ↓o_neBool, ↓o_eqPtr, ↓o_nePtr, ↓o_eqPtr', ↓o_eqSl, ↓o_neSl, ↓o_eqStr, ↓o_neStr, ↓o_len, ↓o_lenS, ↓o_min, ↓o_max, ↓o_extract, ↓o_convInt, ↓cd_true, ↓cd_false, ↓gate_tt, ↓gate_ff, ↓gate_tf, ↓gate_ft, ↓gate_undef, ↓o_bind, ↓stay_v, ↓pop_cons, ↓fin_nil, Option.isNone_none, Option.isNone_some, Bool.not_true, Bool.not_false, Nat.zero_add, decide_true, decide_false, if_true, if_false, Bool.false_eq_true, ↓reduceIte]
  refine ld_in (b := rb) (v := .slice (some ⟨vb, vo, none⟩) 5 vc) h rfl ?_
  simp only [show decide (((5 : Nat) : Int) = 0) = false from rfl, ↓o_nil, ↓o_field, ↓o_add, ↓o_sub, ↓o_mul, ↓o_lss, ↓o_leq, ↓o_gtr, ↓o_geq, ↓o_not, ↓o_pick, ↓o_eqInt, ↓o_neInt, ↓o_eqBool, ↓o_neBool, ↓o_eqPtr, ↓o_nePtr, ↓o_eqPtr', ↓o_eqSl, ↓o_neSl, ↓o_eqStr, ↓o_neStr, ↓o_len, ↓o_lenS, ↓o_min, ↓o_max, ↓o_extract, ↓o_convInt, ↓cd_true, ↓cd_false, ↓gate_tt, ↓gate_ff, ↓gate_tf, ↓gate_ft, ↓gate_undef, ↓o_bind, ↓stay_v, ↓pop_cons, ↓fin_nil, Option.isNone_none, Option.isNone_some, Bool.not_true, Bool.not_false, Nat.zero_add, decide_true, decide_false, if_true, if_false, Bool.false_eq_true, ↓reduceIte]
  refine ld_in (b := rb) (v := .slice (some ⟨vb, vo, none⟩) 5 vc) h rfl ?_
  rw [o_index (by omega) (by omega)]
  try simp only [↓o_nil, ↓o_field, ↓o_add, ↓o_sub, ↓o_mul, ↓o_lss, ↓o_leq, ↓o_gtr, ↓o_geq, ↓o_not, ↓o_pick, ↓o_eqInt, ↓o_neInt, ↓o_eqBool, ↓o_neBool, ↓o_eqPtr, ↓o_nePtr, ↓o_eqPtr', ↓o_eqSl, ↓o_neSl, ↓o_eqStr, ↓o_neStr, ↓o_len, ↓o_lenS, ↓o_min, ↓o_max, ↓o_extract, ↓o_convInt, ↓cd_true, ↓cd_false, ↓gate_tt, ↓gate_ff, ↓gate_tf, ↓gate_ft, ↓gate_undef, ↓o_bind, ↓stay_v, ↓pop_cons, ↓fin_nil, Option.isNone_none, Option.isNone_some, Bool.not_true, Bool.not_false, Nat.zero_add, decide_true, decide_false, if_true, if_false, Bool.false_eq_true, ↓reduceIte]
  refine ld_rd h hc.right.right.right.right 0 rfl (v := tv r.h) rfl ?_
  rw [o_lenT, hr]
  simp only [show decide (((32 : Nat) : Int) = 32) = true from rfl, ↓o_nil, ↓o_field, ↓o_add, ↓o_sub, ↓o_mul, ↓o_lss, ↓o_leq, ↓o_gtr, ↓o_geq, ↓o_not, ↓o_pick, ↓o_eqInt, ↓o_neInt, ↓o_eqBool, ↓o_neBool, ↓o_eqPtr, ↓o_nePtr, ↓o_eqPtr', ↓o_eqSl, ↓o_neSl, ↓o_eqStr, ↓o_neStr, ↓o_len, ↓o_lenS, ↓o_min, ↓o_max, ↓o_extract, ↓o_convInt, ↓cd_true, ↓cd_false, ↓gate_tt, ↓gate_ff, ↓gate_tf, ↓gate_ft, ↓gate_undef, ↓o_bind, ↓stay_v, ↓pop_cons, ↓fin_nil, Option.isNone_none, Option.isNone_some, Bool.not_true, Bool.not_false, Nat.zero_add, decide_true, decide_false, if_true, if_false, Bool.false_eq_true, ↓reduceIte]
  refine dr_sl h fun w h _ => ?_
  rw [o_index (by decide) (by decide), o_index (by decide) (by decide)]
  refine ld_in (b := sb) (v := tv [116]) h rfl ?_
  refine ld_in (b := sb) (v := tv [117]) h rfl ?_
  refine pvv_of (v := .agg [tv [116], tv [117]].toArray) (fun w => by kernel_rfl) ?_
  refine alloc_sl h fun ob w h => ?_
  have h : sat E w (pts ob (.cells [tv [], tv []].toArray 54 (0, 0)) * _) := h
  refine st_in (b := sb) (v := tv [117]) h rfl ?_
  refine st_in (b := sb) (v := tv [116]) h rfl ?_
  refine store_all (b := ob) h (xs := [tv [], tv []]) (vs := [tv [116], tv [117]]) rfl rfl (by intro v hv; simp at hv; rcases hv with rfl | rfl <;> rfl) fun w h => ?_
  refine dr_sl h fun w h _ => ?_
  try simp only [↓o_nil, ↓o_field, ↓o_add, ↓o_sub, ↓o_mul, ↓o_lss, ↓o_leq, ↓o_gtr, ↓o_geq, ↓o_not, ↓o_pick, ↓o_eqInt, ↓o_neInt, ↓o_eqBool, ↓o_neBool, ↓o_eqPtr, ↓o_nePtr, ↓o_eqPtr', ↓o_eqSl, ↓o_neSl, ↓o_eqStr, ↓o_neStr, ↓o_len, ↓o_lenS, ↓o_min, ↓o_max, ↓o_extract, ↓o_convInt, ↓cd_true, ↓cd_false, ↓gate_tt, ↓gate_ff, ↓gate_tf, ↓gate_ft, ↓gate_undef, ↓o_bind, ↓stay_v, ↓pop_cons, ↓fin_nil, Option.isNone_none, Option.isNone_some, Bool.not_true, Bool.not_false, Nat.zero_add, decide_true, decide_false, if_true, if_false, Bool.false_eq_true, ↓reduceIte]
  refine ld_in (b := p) (v := .map (some m)) h rfl ?_
  refine ld_agg (b := ob) h rfl ?_
  refine Mk.look_no (b := m) (l := ([] : List (K2 × Value))) (k := qO) h rfl ?_
  try simp only [↓o_nil, ↓o_field, ↓o_add, ↓o_sub, ↓o_mul, ↓o_lss, ↓o_leq, ↓o_gtr, ↓o_geq, ↓o_not, ↓o_pick, ↓o_eqInt, ↓o_neInt, ↓o_eqBool, ↓o_neBool, ↓o_eqPtr, ↓o_nePtr, ↓o_eqPtr', ↓o_eqSl, ↓o_neSl, ↓o_eqStr, ↓o_neStr, ↓o_len, ↓o_lenS, ↓o_min, ↓o_max, ↓o_extract, ↓o_convInt, ↓cd_true, ↓cd_false, ↓gate_tt, ↓gate_ff, ↓gate_tf, ↓gate_ft, ↓gate_undef, ↓o_bind, ↓stay_v, ↓pop_cons, ↓fin_nil, Option.isNone_none, Option.isNone_some, Bool.not_true, Bool.not_false, Nat.zero_add, decide_true, decide_false, if_true, if_false, Bool.false_eq_true, ↓reduceIte]
  refine alloc_sl h fun ab w h => ?_
  have h : sat E w (pts ab (.cells (rcc zrc).toArray 105 (0, 0)) * _) := h
  refine Mk.st_no (b := m) (l := ([] : List (K2 × Value))) (k := qO) h rfl ?_
  refine st_agg (b := ob) h rfl ?_
  refine st_in (b := p) (v := .map (some m)) h rfl ?_
  refine store_all (b := ab) h (xs := rcc zrc) (vs := rcc zrc) rfl rfl (rcc_one _) fun w h => ?_
  have h := h.drop
  try simp only [↓o_nil, ↓o_field, ↓o_add, ↓o_sub, ↓o_mul, ↓o_lss, ↓o_leq, ↓o_gtr, ↓o_geq, ↓o_not, ↓o_pick, ↓o_eqInt, ↓o_neInt, ↓o_eqBool, ↓o_neBool, ↓o_eqPtr, ↓o_nePtr, ↓o_eqPtr', ↓o_eqSl, ↓o_neSl, ↓o_eqStr, ↓o_neStr, ↓o_len, ↓o_lenS, ↓o_min, ↓o_max, ↓o_extract, ↓o_convInt, ↓cd_true, ↓cd_false, ↓gate_tt, ↓gate_ff, ↓gate_tf, ↓gate_ft, ↓gate_undef, ↓o_bind, ↓stay_v, ↓pop_cons, ↓fin_nil, Option.isNone_none, Option.isNone_some, Bool.not_true, Bool.not_false, Nat.zero_add, decide_true, decide_false, if_true, if_false, Bool.false_eq_true, ↓reduceIte]
  refine ld_in (b := rb) (v := .slice (some ⟨vb, vo, none⟩) 5 vc) h rfl ?_
  rw [o_index (by omega) (by omega)]
  refine ld_rd h hc.right.right.right.right.right 0 rfl (v := tv r.h) rfl ?_
  refine conv_sb h fun cb cc sp cfr w h hcc => ?_
  refine arr_at (by omega) ?_
  refine ld_part (b := cb) h (r.h.map bv) (by simpa using hr) (by rw [List.drop_zero, List.take_left' (by simpa using hr)]) ?_
  refine hash_var h hr fun hb w h => ?_
  simp only [show decide (((2 : Nat) : Int) = 3) = false from rfl, ↓o_nil, ↓o_field, ↓o_add, ↓o_sub, ↓o_mul, ↓o_lss, ↓o_leq, ↓o_gtr, ↓o_geq, ↓o_not, ↓o_pick, ↓o_eqInt, ↓o_neInt, ↓o_eqBool, ↓o_neBool, ↓o_eqPtr, ↓o_nePtr, ↓o_eqPtr', ↓o_eqSl, ↓o_neSl, ↓o_eqStr, ↓o_neStr, ↓o_len, ↓o_lenS, ↓o_min, ↓o_max, ↓o_extract, ↓o_convInt, ↓cd_true, ↓cd_false, ↓gate_tt, ↓gate_ff, ↓gate_tf, ↓gate_ft, ↓gate_undef, ↓o_bind, ↓stay_v, ↓pop_cons, ↓fin_nil, Option.isNone_none, Option.isNone_some, Bool.not_true, Bool.not_false, Nat.zero_add, decide_true, decide_false, if_true, if_false, Bool.false_eq_true, ↓reduceIte]
  refine ld_in (b := rb) (v := .slice (some ⟨vb, vo, none⟩) 5 vc) h rfl ?_
  simp only [show decide (((5 : Nat) : Int) = 5) = true from rfl, ↓o_nil, ↓o_field, ↓o_add, ↓o_sub, ↓o_mul, ↓o_lss, ↓o_leq, ↓o_gtr, ↓o_geq, ↓o_not, ↓o_pick, ↓o_eqInt, ↓o_neInt, ↓o_eqBool, ↓o_neBool, ↓o_eqPtr, ↓o_nePtr, ↓o_eqPtr', ↓o_eqSl, ↓o_neSl, ↓o_eqStr, ↓o_neStr, ↓o_len, ↓o_lenS, ↓o_min, ↓o_max, ↓o_extract, ↓o_convInt, ↓cd_true, ↓cd_false, ↓gate_tt, ↓gate_ff, ↓gate_tf, ↓gate_ft, ↓gate_undef, ↓o_bind, ↓stay_v, ↓pop_cons, ↓fin_nil, Option.isNone_none, Option.isNone_some, Bool.not_true, Bool.not_false, Nat.zero_add, decide_true, decide_false, if_true, if_false, Bool.false_eq_true, ↓reduceIte]
  refine ld_in (b := rb) (v := .slice (some ⟨vb, vo, none⟩) 5 vc) h rfl ?_
  rw [o_index (by omega) (by omega)]
  refine ld_rd h hc.right.right.right.right.right.right.right 1 rfl (v := tv r.salt) rfl ?_
  rw [o_lenT]
  have hsl := f.salt
  simp only [decide_eq_false (show ¬ (8 : Int) < ((r.salt.length : Nat) : Int) by omega), ↓o_nil, ↓o_field, ↓o_add, ↓o_sub, ↓o_mul, ↓o_lss, ↓o_leq, ↓o_gtr, ↓o_geq, ↓o_not, ↓o_pick, ↓o_eqInt, ↓o_neInt, ↓o_eqBool, ↓o_neBool, ↓o_eqPtr, ↓o_nePtr, ↓o_eqPtr', ↓o_eqSl, ↓o_neSl, ↓o_eqStr, ↓o_neStr, ↓o_len, ↓o_lenS, ↓o_min, ↓o_max, ↓o_extract, ↓o_convInt, ↓cd_true, ↓cd_false, ↓gate_tt, ↓gate_ff, ↓gate_tf, ↓gate_ft, ↓gate_undef, ↓o_bind, ↓stay_v, ↓pop_cons, ↓fin_nil, Option.isNone_none, Option.isNone_some, Bool.not_true, Bool.not_false, Nat.zero_add, decide_true, decide_false, if_true, if_false, Bool.false_eq_true, ↓reduceIte]
  rw [o_index (by decide) (by decide)]
  try simp only [↓o_nil, ↓o_field, ↓o_add, ↓o_sub, ↓o_mul, ↓o_lss, ↓o_leq, ↓o_gtr, ↓o_geq, ↓o_not, ↓o_pick, ↓o_eqInt, ↓o_neInt, ↓o_eqBool, ↓o_neBool, ↓o_eqPtr, ↓o_nePtr, ↓o_eqPtr', ↓o_eqSl, ↓o_neSl, ↓o_eqStr, ↓o_neStr, ↓o_len, ↓o_lenS, ↓o_min, ↓o_max, ↓o_extract, ↓o_convInt, ↓cd_true, ↓cd_false, ↓gate_tt, ↓gate_ff, ↓gate_tf, ↓gate_ft, ↓gate_undef, ↓o_bind, ↓stay_v, ↓pop_cons, ↓fin_nil, Option.isNone_none, Option.isNone_some, Bool.not_true, Bool.not_false, Nat.zero_add, decide_true, decide_false, if_true, if_false, Bool.false_eq_true, ↓reduceIte]
  refine ld_in (b := sb) (v := tv [116]) h rfl ?_
  have h := h.perm (show _ = bkI p m [] (pts hb (.cells (r.h.map bv).toArray 28 (0, 0)) * (pts cb (.cells (r.h.map bv ++ sp).toArray 5 cfr) * (pts ob (.cells [tv [116], tv [117]].toArray 54 (0, 0)) * (pts sb (.cells [tv [116], tv [117], tv []].toArray 9 (0, 0)) * (pts rb (.cells [tv qk, .slice (some ⟨vb, vo, none⟩) 5 vc].toArray 41 (0, 0)) * R))))) by unfold bkI; ac_rfl)
  refine full0_spec h fun w h => ?_
  simp only [↓o_nil, ↓o_field, ↓o_add, ↓o_sub, ↓o_mul, ↓o_lss, ↓o_leq, ↓o_gtr, ↓o_geq, ↓o_not, ↓o_pick, ↓o_eqInt, ↓o_neInt, ↓o_eqBool, ↓o_neBool, ↓o_eqPtr, ↓o_nePtr, ↓o_eqPtr', ↓o_eqSl, ↓o_neSl, ↓o_eqStr, ↓o_neStr, ↓o_len, ↓o_lenS, ↓o_min, ↓o_max, ↓o_extract, ↓o_convInt, ↓cd_true, ↓cd_false, ↓gate_tt, ↓gate_ff, ↓gate_tf, ↓gate_ft, ↓gate_undef, ↓o_bind, ↓stay_v, ↓pop_cons, ↓fin_nil, Option.isNone_none, Option.isNone_some, Bool.not_true, Bool.not_false, Nat.zero_add, decide_true, decide_false, if_true, if_false, Bool.false_eq_true, ↓reduceIte]
  refine ld_in (b := rb) (v := .slice (some ⟨vb, vo, none⟩) 5 vc) h rfl ?_
  rw [o_slice_l (by omega) (by omega), show (2 : Int).toNat = 2 from rfl, show 5 - 2 = 3 from rfl]
  have hcut := (Rds.cut1 (lo := 2) hc rfl (by omega)).right (X := pts rb (.cells [tv qk, .slice (some ⟨vb, vo, none⟩) 5 vc].toArray 41 (0, 0))) |>.right (X := pts sb (.cells [tv [116], tv [117], tv []].toArray 9 (0, 0))) |>.right (X := pts ob (.cells [tv [116], tv [117]].toArray 54 (0, 0))) |>.right (X := pts cb (.cells (r.h.map bv ++ sp).toArray 5 cfr)) |>.right (X := pts hb (.cells (r.h.map bv).toArray 28 (0, 0))) |>.right (X := Mk.omap m ([] : List (K2 × Value))) |>.right (X := pts p (.cells [Value.map (some m)].toArray 100 (0, 0)))
  have := f.c1; have := f.c2; have := f.tr; have := f.un
  refine numbers_spec (ns := [r.cost, r.tr, r.un]) (by intro n hn; simp at hn; rcases hn with rfl | rfl | rfl <;> omega) (by simp) (by unfold bkI; exact hd.right.right.right.right.right.right.right) h hcut fun u w h => ?_
  rw [show ([r.cost, r.tr, r.un] : List Nat).length = 3 from rfl] at h
  obtain ⟨ua, uc, rfl, huc, _, hpos⟩ := osl_shape h
  obtain ⟨ub, rfl⟩ := hpos (by decide)
  simp only [↓o_nil, ↓o_field, ↓o_add, ↓o_sub, ↓o_mul, ↓o_lss, ↓o_leq, ↓o_gtr, ↓o_geq, ↓o_not, ↓o_pick, ↓o_eqInt, ↓o_neInt, ↓o_eqBool, ↓o_neBool, ↓o_eqPtr, ↓o_nePtr, ↓o_eqPtr', ↓o_eqSl, ↓o_neSl, ↓o_eqStr, ↓o_neStr, ↓o_len, ↓o_lenS, ↓o_min, ↓o_max, ↓o_extract, ↓o_convInt, ↓cd_true, ↓cd_false, ↓gate_tt, ↓gate_ff, ↓gate_tf, ↓gate_ft, ↓gate_undef, ↓o_bind, ↓stay_v, ↓pop_cons, ↓fin_nil, Option.isNone_none, Option.isNone_some, Bool.not_true, Bool.not_false, Nat.zero_add, decide_true, decide_false, if_true, if_false, Bool.false_eq_true, ↓reduceIte]
  have hu : Rds (osl 3 1 (.slice (some ⟨ub, 0, none⟩) 3 uc) 3 ([r.cost, r.tr, r.un].map fun n : Nat => .int .i64 (n : Int)) * bkI p m [] (pts hb (.cells (r.h.map bv).toArray 28 (0, 0)) * (pts cb (.cells (r.h.map bv ++ sp).toArray 5 cfr) * (pts ob (.cells [tv [116], tv [117]].toArray 54 (0, 0)) * (pts sb (.cells [tv [116], tv [117], tv []].toArray 9 (0, 0)) * (pts rb (.cells [tv qk, .slice (some ⟨vb, vo, none⟩) 5 vc].toArray 41 (0, 0)) * R)))))) (.slice (some ⟨ub, 0, none⟩) 3 uc) 3 ([r.cost, r.tr, r.un].map fun n : Nat => .int .i64 (n : Int)) := Rds.osl.left
  rw [o_index (by decide) (by decide)]
  try simp only [↓o_nil, ↓o_field, ↓o_add, ↓o_sub, ↓o_mul, ↓o_lss, ↓o_leq, ↓o_gtr, ↓o_geq, ↓o_not, ↓o_pick, ↓o_eqInt, ↓o_neInt, ↓o_eqBool, ↓o_neBool, ↓o_eqPtr, ↓o_nePtr, ↓o_eqPtr', ↓o_eqSl, ↓o_neSl, ↓o_eqStr, ↓o_neStr, ↓o_len, ↓o_lenS, ↓o_min, ↓o_max, ↓o_extract, ↓o_convInt, ↓cd_true, ↓cd_false, ↓gate_tt, ↓gate_ff, ↓gate_tf, ↓gate_ft, ↓gate_undef, ↓o_bind, ↓stay_v, ↓pop_cons, ↓fin_nil, Option.isNone_none, Option.isNone_some, Bool.not_true, Bool.not_false, Nat.zero_add, decide_true, decide_false, if_true, if_false, Bool.false_eq_true, ↓reduceIte]
  refine ld_rd h hu 0 rfl (v := .int .i64 (r.cost : Int)) rfl ?_
  simp only [decide_eq_false (show ¬ ((r.cost : Nat) : Int) < 1 by omega), ↓o_nil, ↓o_field, ↓o_add, ↓o_sub, ↓o_mul, ↓o_lss, ↓o_leq, ↓o_gtr, ↓o_geq, ↓o_not, ↓o_pick, ↓o_eqInt, ↓o_neInt, ↓o_eqBool, ↓o_neBool, ↓o_eqPtr, ↓o_nePtr, ↓o_eqPtr', ↓o_eqSl, ↓o_neSl, ↓o_eqStr, ↓o_neStr, ↓o_len, ↓o_lenS, ↓o_min, ↓o_max, ↓o_extract, ↓o_convInt, ↓cd_true, ↓cd_false, ↓gate_tt, ↓gate_ff, ↓gate_tf, ↓gate_ft, ↓gate_undef, ↓o_bind, ↓stay_v, ↓pop_cons, ↓fin_nil, Option.isNone_none, Option.isNone_some, Bool.not_true, Bool.not_false, Nat.zero_add, decide_true, decide_false, if_true, if_false, Bool.false_eq_true, ↓reduceIte]
  rw [o_index (by decide) (by decide)]
  try simp only [↓o_nil, ↓o_field, ↓o_add, ↓o_sub, ↓o_mul, ↓o_lss, ↓o_leq, ↓o_gtr, ↓o_geq, ↓o_not, ↓o_pick, ↓o_eqInt, ↓o_neInt, ↓o_eqBool, ↓o_neBool, ↓o_eqPtr, ↓o_nePtr, ↓o_eqPtr', ↓o_eqSl, ↓o_neSl, ↓o_eqStr, ↓o_neStr, ↓o_len, ↓o_lenS, ↓o_min, ↓o_max, ↓o_extract, ↓o_convInt, ↓cd_true, ↓cd_false, ↓gate_tt, ↓gate_ff, ↓gate_tf, ↓gate_ft, ↓gate_undef, ↓o_bind, ↓stay_v, ↓pop_cons, ↓fin_nil, Option.isNone_none, Option.isNone_some, Bool.not_true, Bool.not_false, Nat.zero_add, decide_true, decide_false, if_true, if_false, Bool.false_eq_true, ↓reduceIte]
  refine ld_rd h hu 0 rfl (v := .int .i64 (r.cost : Int)) rfl ?_
  simp only [decide_eq_false (show ¬ (64 : Int) < ((r.cost : Nat) : Int) by omega), ↓o_nil, ↓o_field, ↓o_add, ↓o_sub, ↓o_mul, ↓o_lss, ↓o_leq, ↓o_gtr, ↓o_geq, ↓o_not, ↓o_pick, ↓o_eqInt, ↓o_neInt, ↓o_eqBool, ↓o_neBool, ↓o_eqPtr, ↓o_nePtr, ↓o_eqPtr', ↓o_eqSl, ↓o_neSl, ↓o_eqStr, ↓o_neStr, ↓o_len, ↓o_lenS, ↓o_min, ↓o_max, ↓o_extract, ↓o_convInt, ↓cd_true, ↓cd_false, ↓gate_tt, ↓gate_ff, ↓gate_tf, ↓gate_ft, ↓gate_undef, ↓o_bind, ↓stay_v, ↓pop_cons, ↓fin_nil, Option.isNone_none, Option.isNone_some, Bool.not_true, Bool.not_false, Nat.zero_add, decide_true, decide_false, if_true, if_false, Bool.false_eq_true, ↓reduceIte]
  rw [o_index (by decide) (by decide)]
  try simp only [↓o_nil, ↓o_field, ↓o_add, ↓o_sub, ↓o_mul, ↓o_lss, ↓o_leq, ↓o_gtr, ↓o_geq, ↓o_not, ↓o_pick, ↓o_eqInt, ↓o_neInt, ↓o_eqBool, ↓o_neBool, ↓o_eqPtr, ↓o_nePtr, ↓o_eqPtr', ↓o_eqSl, ↓o_neSl, ↓o_eqStr, ↓o_neStr, ↓o_len, ↓o_lenS, ↓o_min, ↓o_max, ↓o_extract, ↓o_convInt, ↓cd_true, ↓cd_false, ↓gate_tt, ↓gate_ff, ↓gate_tf, ↓gate_ft, ↓gate_undef, ↓o_bind, ↓stay_v, ↓pop_cons, ↓fin_nil, Option.isNone_none, Option.isNone_some, Bool.not_true, Bool.not_false, Nat.zero_add, decide_true, decide_false, if_true, if_false, Bool.false_eq_true, ↓reduceIte]
  refine ld_rd h hu 1 rfl (v := .int .i64 (r.tr : Int)) rfl ?_
  simp only [decide_eq_false (show ¬ (3 : Int) < ((r.tr : Nat) : Int) by omega), ↓o_nil, ↓o_field, ↓o_add, ↓o_sub, ↓o_mul, ↓o_lss, ↓o_leq, ↓o_gtr, ↓o_geq, ↓o_not, ↓o_pick, ↓o_eqInt, ↓o_neInt, ↓o_eqBool, ↓o_neBool, ↓o_eqPtr, ↓o_nePtr, ↓o_eqPtr', ↓o_eqSl, ↓o_neSl, ↓o_eqStr, ↓o_neStr, ↓o_len, ↓o_lenS, ↓o_min, ↓o_max, ↓o_extract, ↓o_convInt, ↓cd_true, ↓cd_false, ↓gate_tt, ↓gate_ff, ↓gate_tf, ↓gate_ft, ↓gate_undef, ↓o_bind, ↓stay_v, ↓pop_cons, ↓fin_nil, Option.isNone_none, Option.isNone_some, Bool.not_true, Bool.not_false, Nat.zero_add, decide_true, decide_false, if_true, if_false, Bool.false_eq_true, ↓reduceIte]
  rw [o_index (by decide) (by decide)]
  try simp only [↓o_nil, ↓o_field, ↓o_add, ↓o_sub, ↓o_mul, ↓o_lss, ↓o_leq, ↓o_gtr, ↓o_geq, ↓o_not, ↓o_pick, ↓o_eqInt, ↓o_neInt, ↓o_eqBool, ↓o_neBool, ↓o_eqPtr, ↓o_nePtr, ↓o_eqPtr', ↓o_eqSl, ↓o_neSl, ↓o_eqStr, ↓o_neStr, ↓o_len, ↓o_lenS, ↓o_min, ↓o_max, ↓o_extract, ↓o_convInt, ↓cd_true, ↓cd_false, ↓gate_tt, ↓gate_ff, ↓gate_tf, ↓gate_ft, ↓gate_undef, ↓o_bind, ↓stay_v, ↓pop_cons, ↓fin_nil, Option.isNone_none, Option.isNone_some, Bool.not_true, Bool.not_false, Nat.zero_add, decide_true, decide_false, if_true, if_false, Bool.false_eq_true, ↓reduceIte]
  refine ld_rd h hu 2 rfl (v := .int .i64 (r.un : Int)) rfl ?_
  simp only [decide_eq_false (show ¬ (1099511627876 : Int) < ((r.un : Nat) : Int) by omega), ↓o_nil, ↓o_field, ↓o_add, ↓o_sub, ↓o_mul, ↓o_lss, ↓o_leq, ↓o_gtr, ↓o_geq, ↓o_not, ↓o_pick, ↓o_eqInt, ↓o_neInt, ↓o_eqBool, ↓o_neBool, ↓o_eqPtr, ↓o_nePtr, ↓o_eqPtr', ↓o_eqSl, ↓o_neSl, ↓o_eqStr, ↓o_neStr, ↓o_len, ↓o_lenS, ↓o_min, ↓o_max, ↓o_extract, ↓o_convInt, ↓cd_true, ↓cd_false, ↓gate_tt, ↓gate_ff, ↓gate_tf, ↓gate_ft, ↓gate_undef, ↓o_bind, ↓stay_v, ↓pop_cons, ↓fin_nil, Option.isNone_none, Option.isNone_some, Bool.not_true, Bool.not_false, Nat.zero_add, decide_true, decide_false, if_true, if_false, Bool.false_eq_true, ↓reduceIte]
  refine dr_sl h fun w h _ => ?_
  rw [o_index (by decide) (by decide), o_index (by decide) (by decide), o_index (by decide) (by decide)]
  try simp only [↓o_nil, ↓o_field, ↓o_add, ↓o_sub, ↓o_mul, ↓o_lss, ↓o_leq, ↓o_gtr, ↓o_geq, ↓o_not, ↓o_pick, ↓o_eqInt, ↓o_neInt, ↓o_eqBool, ↓o_neBool, ↓o_eqPtr, ↓o_nePtr, ↓o_eqPtr', ↓o_eqSl, ↓o_neSl, ↓o_eqStr, ↓o_neStr, ↓o_len, ↓o_lenS, ↓o_min, ↓o_max, ↓o_extract, ↓o_convInt, ↓cd_true, ↓cd_false, ↓gate_tt, ↓gate_ff, ↓gate_tf, ↓gate_ft, ↓gate_undef, ↓o_bind, ↓stay_v, ↓pop_cons, ↓fin_nil, Option.isNone_none, Option.isNone_some, Bool.not_true, Bool.not_false, Nat.zero_add, decide_true, decide_false, if_true, if_false, Bool.false_eq_true, ↓reduceIte]
  refine ld_in (b := p) (v := .map (some m)) h rfl ?_
  refine ld_agg (b := ob) h rfl ?_
  refine ld_rd h hu 1 rfl (v := .int .i64 (r.tr : Int)) rfl ?_
  refine ld_rd h hu 2 rfl (v := .int .i64 (r.un : Int)) rfl ?_
  refine pvv_of (v := .agg #[.int .i64 (r.tr : Int), .int .i64 (r.un : Int)]) (fun w => by kernel_rfl) ?_
  refine ld_agg (b := hb) h (by simpa using hr) ?_
  refine ld_in (b := rb) (v := .slice (some ⟨vb, vo, none⟩) 5 vc) h rfl ?_
  rw [o_index (by omega) (by omega)]
  refine ld_rd h hc.right.right.right.right.right.right.right.right 1 rfl (v := tv r.salt) rfl ?_
  refine ld_rd h hu 0 rfl (v := .int .i64 (r.cost : Int)) rfl ?_
  refine rc_build5 hr ?_
  refine Mk.update_sl (b := m) (l := ([] : List (K2 × Value))) (k := qO) h fun w h => ?_
  rw [show Mk.putM ([] : List (K2 × Value)) qO (.agg (rcc r).toArray) = oneU r from rfl] at h
  refine k w ?_
  generalize hG : osl 3 1 (.slice (some ⟨ub, 0, none⟩) 3 uc) 3 ([r.cost, r.tr, r.un].map fun n : Nat => .int .i64 (n : Int)) = G at h
  exact (h.perm (show _ = G * (pts hb (.cells (r.h.map bv).toArray 28 (0, 0)) * (pts cb (.cells (r.h.map bv ++ sp).toArray 5 cfr) * (pts ob (.cells [tv [116], tv [117]].toArray 54 (0, 0)) * (pts sb (.cells [tv [116], tv [117], tv []].toArray 9 (0, 0)) * (pts rb (.cells [tv qk, .slice (some ⟨vb, vo, none⟩) 5 vc].toArray 41 (0, 0)) * bkI p m (oneU r) R))))) by unfold bkI; ac_rfl)).drop.drop.drop.drop.drop.drop
theorem BLoad_spec {u cv : Value} (f : Fit r) (hd : Dbt H) (hu : Rds H u 1 [tv qk, cv]) (hc : Rds H cv 5 ((rcols r).map tv)) (h : sat E w H) (k : ∀ p m w', sat E w' (bkI p m (oneU r) H) → K (.tuple #[.pointer (some ⟨p, 0, none⟩), .int .i64 0]) w') :
    Calls prog 21 #[u] w (Ret K) := by
  obtain ⟨ua, uc, rfl, huc, hu, _⟩ := hu.shape h
  obtain ⟨ub, uo, _, e, _, hu⟩ := hu.opened h (by simp)
  cases e
  refine c21 ?_
  unfold B21
  refine BNew_spec h fun p m w h => ?_
  simp only [↓o_nil, ↓o_field, ↓o_add, ↓o_sub, ↓o_mul, ↓o_lss, ↓o_leq, ↓o_gtr, ↓o_geq, ↓o_not, ↓o_pick, ↓o_eqInt, ↓o_neInt, ↓o_eqBool, ↓o_neBool, ↓o_eqPtr, ↓o_nePtr, ↓o_eqPtr', ↓o_eqSl, ↓o_neSl, ↓o_eqStr, ↓o_neStr, ↓o_len, ↓o_lenS, ↓o_min, ↓o_max, ↓o_extract, ↓o_convInt, ↓cd_true, ↓cd_false, ↓gate_tt, ↓gate_ff, ↓gate_tf, ↓gate_ft, ↓gate_undef, ↓o_bind, ↓stay_v, ↓pop_cons, ↓fin_nil, Option.isNone_none, Option.isNone_some, Bool.not_true, Bool.not_false, Nat.zero_add, decide_true, decide_false, if_true, if_false, Bool.false_eq_true, ↓reduceIte]
  refine lp_nat (fun q σ w => (q = 1 ∧ σ = [.int .i64 0] ∧ sat E w (bkI p m [] H)) ∨ (q = 0 ∧ σ = [.int .i64 1] ∧ sat E w (bkI p m (oneU r) H))) 1 (.inl ⟨rfl, rfl, h⟩) ?_
  clear h
  rintro q σ w again (⟨rfl, rfl, h⟩ | ⟨rfl, rfl, h⟩) hag
  · rw [pop_cons, fin_nil, o_lss, decide_eq_true (by omega), cd_true]
    rw [o_index (by omega) (by omega)]
    refine ld_el h hu.right.right 0 rfl [tv qk, cv] rfl rfl ?_
    have hone : cv.oneCell' = true := by
      obtain ⟨_, _, rfl, _⟩ := hc E w h.drop.drop
      rfl
    refine alloc_sl h fun rb w h => ?_
    have h : sat E w (pts rb (.cells [tv [], .slice none 0 0].toArray 41 (0, 0)) * bkI p m [] H) := h
    refine store_all (b := rb) h (xs := [tv [], .slice none 0 0]) (vs := [tv qk, cv]) rfl rfl (by intro v hv; simp at hv; rcases hv with rfl | rfl; exact rfl; exact hone) fun w h => ?_
    refine dr_sl h fun w h _ => ?_
    simp only [show decide ((0 : Int) < 0) = false from rfl, ↓o_nil, ↓o_field, ↓o_add, ↓o_sub, ↓o_mul, ↓o_lss, ↓o_leq, ↓o_gtr, ↓o_geq, ↓o_not, ↓o_pick, ↓o_eqInt, ↓o_neInt, ↓o_eqBool, ↓o_neBool, ↓o_eqPtr, ↓o_nePtr, ↓o_eqPtr', ↓o_eqSl, ↓o_neSl, ↓o_eqStr, ↓o_neStr, ↓o_len, ↓o_lenS, ↓o_min, ↓o_max, ↓o_extract, ↓o_convInt, ↓cd_true, ↓cd_false, ↓gate_tt, ↓gate_ff, ↓gate_tf, ↓gate_ft, ↓gate_undef, ↓o_bind, ↓stay_v, ↓pop_cons, ↓fin_nil, Option.isNone_none, Option.isNone_some, Bool.not_true, Bool.not_false, Nat.zero_add, decide_true, decide_false, if_true, if_false, Bool.false_eq_true, ↓reduceIte]
    refine ld_agg (b := rb) h rfl ?_
    have h := h.perm (show _ = bkI p m [] (pts rb (.cells [tv qk, cv].toArray 41 (0, 0)) * H) by unfold bkI; ac_rfl)
    refine Take_spec f hd.right hc.right h fun w h => ?_
    simp only [↓o_nil, ↓o_field, ↓o_add, ↓o_sub, ↓o_mul, ↓o_lss, ↓o_leq, ↓o_gtr, ↓o_geq, ↓o_not, ↓o_pick, ↓o_eqInt, ↓o_neInt, ↓o_eqBool, ↓o_neBool, ↓o_eqPtr, ↓o_nePtr, ↓o_eqPtr', ↓o_eqSl, ↓o_neSl, ↓o_eqStr, ↓o_neStr, ↓o_len, ↓o_lenS, ↓o_min, ↓o_max, ↓o_extract, ↓o_convInt, ↓cd_true, ↓cd_false, ↓gate_tt, ↓gate_ff, ↓gate_tf, ↓gate_ft, ↓gate_undef, ↓o_bind, ↓stay_v, ↓pop_cons, ↓fin_nil, Option.isNone_none, Option.isNone_some, Bool.not_true, Bool.not_false, Nat.zero_add, decide_true, decide_false, if_true, if_false, Bool.false_eq_true, ↓reduceIte]
    rw [show IntKind.i64.wrap (0 + 1) = 1 from rfl]
    refine st_shut (by decide) (st_shut (by decide) ?_)
    refine hag 0 _ _ (by omega) (.inr ⟨rfl, rfl, ?_⟩)
    exact (h.perm (show _ = pts rb (.cells [tv qk, cv].toArray 41 (0, 0)) * bkI p m (oneU r) H by unfold bkI; ac_rfl)).drop
  · rw [pop_cons, fin_nil, o_lss, decide_eq_false (by omega), cd_false]
    exact k p m w h
end
end Go.Proofs.YtmnaalpjhkkglaaGreatDoor

/-
  TopBooked: the walk.
-/
set_option linter.all false
set_option maxRecDepth 100000
namespace Go.Proofs.YtmnaalpjhkkglaaGreatDoor
open Go Hold
variable {E : World0} {w : World} {H R : HP} {K : Value → World → Prop}
def saltB : List UInt8 := [115, 97, 108, 116]
theorem iter_cases (pw : List UInt8) : (iter pw saltB 2).2 = 0 ∨ (iter pw saltB 2).2 = 6 := by
  unfold iter
  split
  · exact .inr rfl
  · split
    · rename_i h; omega
    · exact .inl rfl
abbrev colC (u cv : Value) (cs : List (List UInt8)) (X : HP) : HP := osl 41 2 u 1 [tv qk, cv] * (osl 9 1 cv 5 (cs.map tv) * X)
theorem numT_le (n : Int) : (numT n).length ≤ 17 := by
  unfold numT number
  split
  · simp
  · have := hexs_length 16 n.toNat (by show n.toNat < 16 ^ 16; omega)
    simp only [numText, List.length_cons]
    omega
section
variable {q g a m p : Nat} {root : Bs}
/-- One column is sealed, sealed anew behind rotations, and opened: the same. -/
theorem Col_spec (hr : root.length = 32) {n v : Nat} (hn : n ≤ 1000) (hv1 : 1 ≤ v) (hv2 : v ≤ 16) {n8 : UInt8} {c : List UInt8} (hc : c.length ≤ 1024) {X : HP} (hd : Dbt X) (h : sat E w (tV q root n g a qR v X))
    (k : ∀ x n' v' w', n' ≤ n + 2 → 1 ≤ v' → v' ≤ 16 → sat E w' (tV q root n' g a qR v' (osl 5 1 x c.length (c.map bv) * X)) → K x w') {A : World → Prop} :
    efv prog (convert 9 22 (tv c)) w fun t_38 w =>
          Calls prog 11 #[.pointer (some ⟨q, 0, none⟩), (.string ⟨#[116]⟩), (.string ⟨#[114, 111, 119, 115]⟩), t_38] w (Ret fun t_39 w =>
          pvv prog (Instr.extract t_39 0) w fun t_40 w =>
          pvv prog (Instr.extract t_39 1) w fun t_41 w =>
          lp (fun σ w again_43 => pop σ fun j_42 σ => fin σ <|
            pvv prog (convert 5 3 (bv n8)) w fun t_44 w =>
            pvv prog (binOp .rem 3 t_44 (.int .i64 15)) w fun t_45 w =>
            pvv prog (binOp .lss 3 j_42 t_45) w fun t_46 w =>
            cd t_46 (
              Calls prog 19 #[.pointer (some ⟨q, 0, none⟩), (.string ⟨#[116]⟩), (.string ⟨#[114, 111, 119, 115]⟩)] w (Ret fun t_47 w =>
              pvv prog (binOp .add 3 j_42 (.int .i64 1)) w fun t_48 w =>
              again_43 [t_48] w)) <|
            Calls prog 20 #[.pointer (some ⟨q, 0, none⟩), (.string ⟨#[116]⟩), (.string ⟨#[114, 111, 119, 115]⟩), t_40] w (Ret fun t_49 w =>
            pvv prog (Instr.extract t_49 0) w fun t_50 w =>
            pvv prog (Instr.extract t_49 1) w fun t_51 w =>
            pvv prog (Instr.extract t_49 2) w fun t_52 w =>
            Calls prog 12 #[.pointer (some ⟨q, 0, none⟩), (.string ⟨#[116]⟩), (.string ⟨#[114, 111, 119, 115]⟩), t_50] w (Ret fun t_53 w =>
            pvv prog (Instr.extract t_53 0) w fun t_54 w =>
            pvv prog (Instr.extract t_53 1) w fun t_55 w =>
            pvv prog (Instr.extract t_53 2) w fun t_56 w =>
            pvv prog (oEq .neq 32 (.tmp 103) (.const (.int .i64 0)) t_41 (.int .i64 0)) w fun t_57 w =>
            gate (some (t_57, false)) (fun K => K t_52 w) w fun t_58 w =>
            gate (some (t_57, false)) (fun K => pvv prog (oEq .neq 32 (.tmp 106) (.const (.int .i64 0)) t_58 (.int .i64 0)) w K) w fun t_59 w =>
            pv prog (oPick t_57 (.bool true) t_59) w fun t_60 w =>
            gate (some (t_60, false)) (fun K => K t_56 w) w fun t_61 w =>
            gate (some (t_60, false)) (fun K => pvv prog (oEq .neq 32 (.tmp 110) (.const (.int .i64 0)) t_61 (.int .i64 0)) w K) w fun t_62 w =>
            pv prog (oPick t_60 (.bool true) t_62) w fun t_63 w =>
            cd t_63 (
              A w) <| K t_54 w))) [(.int .i64 0)] w) := by
  obtain ⟨t0, t1, t2, t3⟩ := qR_ok
  refine conv_sb h fun cb cc sp cfr w h hcc => ?_
  have h := h.perm (show _ = tV q root n g a qR v (pts cb (.cells (c.map bv ++ sp).toArray 5 cfr) * X) by unfold tV; ac_rfl)
  refine VSeal_spec hr (by omega) hv1 hv2 hd.right (l := c) hc (rds_row (b := cb) (xs := c.map bv) (sp := sp) hcc).left h fun sv w h => ?_
  rw [o_extract, o_extract]
  have h := h.perm (show _ = pts cb (.cells (c.map bv ++ sp).toArray 5 cfr) * tV q root (n + 1) g a qR v (osl 5 1 sv (1 + (c.length + 24)) ((UInt8.ofNat v :: sealB (keyR root v) n c).map bv) * X) by unfold tV; ac_rfl) |>.drop
  have hn8 := n8.toNat_lt
  refine lp_nat (fun r σ w => ∃ (j v' : Nat), σ = [.int .i64 (j : Int)] ∧ r = n8.toNat % 15 - j ∧ j ≤ n8.toNat % 15 ∧ v ≤ v' ∧ v' ≤ 16 ∧
      sat E w (tV q root (n + 1) g a qR v' (osl 5 1 sv (1 + (c.length + 24)) ((UInt8.ofNat v :: sealB (keyR root v) n c).map bv) * X))) (n8.toNat % 15)
    ⟨0, v, rfl, rfl, by omega, by omega, hv2, h⟩ ?_
  clear h
  rintro r σ w again ⟨j, v', rfl, rfl, hj, hv', hv16, h⟩ hag
  rw [pop_cons, fin_nil]
  unfold bv
  rw [o_convInt, i64_of (n := (n8.toNat : Int)) (by omega) (by omega), o_rem (by decide)]
  rw [show ((n8.toNat : Nat) : Int).tmod 15 = ((n8.toNat % 15 : Nat) : Int) by rw [Int.tmod_eq_emod_of_nonneg (by omega)]; omega, o_lss]
  refine cd_dec (fun hlt => ?_) (fun hge => ?_)
  · refine VRotate_spec (q := qR) hr t0 t1 t2 t3 (by omega) hv16 h fun x v'' w h1 h2 h => ?_
    rw [o_add, i64_of (by omega) (by omega)]
    exact hag (n8.toNat % 15 - (j + 1)) _ _ (by omega) ⟨j + 1, v'', rfl, rfl, by omega, by omega, h2, h⟩
  · refine Reseal_spec hr (by omega) hv1 hv' hv16 (hd.right) (by omega) hc Rds.osl.left h fun x b m' n' w hm' hn1 hn2 h => ?_
    rw [o_extract, o_extract, o_extract]
    have h := h.perm (show _ = tV q root n' g a qR v' (osl 5 1 x (1 + (c.length + 24)) ((UInt8.ofNat v' :: sealB (keyR root v') m' c).map bv) * (osl 5 1 sv (1 + (c.length + 24)) ((UInt8.ofNat v :: sealB (keyR root v) n c).map bv) * X)) by unfold tV; ac_rfl)
    have hop : openB (keyR root v') (sealB (keyR root v') m' c) = (c, m', 0) := open_seal (by omega) hc
    have hsl := sealB_length (keyR root v') m' c
    refine VOpen_spec hr (by omega) (t := v') (by omega) (Nat.le_refl v') hv16 hd.right.right (q := sealB (keyR root v') m' c) (by omega) hop (by rw [hsl]; exact Rds.osl.left) h fun y w h => ?_
    simp only [show decide ((0 : Int) = 0) = true from rfl, ↓o_nil, ↓o_field, ↓o_add, ↓o_sub, ↓o_mul, ↓o_lss, ↓o_leq, ↓o_gtr, ↓o_geq, ↓o_not, ↓o_pick, ↓o_eqInt, ↓o_neInt, ↓o_eqBool, ↓o_neBool, ↓o_eqPtr, ↓o_nePtr, ↓o_eqPtr', ↓o_eqSl, ↓o_neSl, ↓o_eqStr, ↓o_neStr, ↓o_len, ↓o_lenS, ↓o_min, ↓o_max, ↓o_extract, ↓o_convInt, ↓cd_true, ↓cd_false, ↓gate_tt, ↓gate_ff, ↓gate_tf, ↓gate_ft, ↓gate_undef, ↓o_bind, ↓stay_v, ↓pop_cons, ↓fin_nil, Option.isNone_none, Option.isNone_some, Bool.not_true, Bool.not_false, Nat.zero_add, decide_true, decide_false, if_true, if_false, Bool.false_eq_true, ↓reduceIte]
    refine k y n' v' w (by omega) (by omega) hv16 ?_
    exact (h.perm (show _ = osl 5 1 x (1 + (c.length + 24)) ((UInt8.ofNat v' :: sealB (keyR root v') m' c).map bv) * (osl 5 1 sv (1 + (c.length + 24)) ((UInt8.ofNat v :: sealB (keyR root v) n c).map bv) * tV q root n' g a qR v' (osl 5 1 y c.length (c.map bv) * X)) by unfold tV; ac_rfl)).drop.drop
end
end Go.Proofs.YtmnaalpjhkkglaaGreatDoor

/-
  TopBooked: the walk, put together.
-/
set_option linter.all false
set_option maxRecDepth 100000
namespace Go.Proofs.YtmnaalpjhkkglaaGreatDoor
open Go Hold
variable {E : World0} {w : World} {H R : HP} {K : Value → World → Prop}
theorem Booked_spec (h : sat E w H) (hd : Dbt H) (pw : List UInt8) (_ : pw.length ≤ 140737488351232) (n8 : UInt8)
    (k : ∀ w', sat E w' H → K (.bool true) w') : Calls prog 4 #[tv pw, bv n8] w (Ret K) := by
  refine c4 ?_
  unfold B4
  refine BNew_spec h fun p m w h => ?_
  refine buildSlice_sl (e := 5) (cs := (([114, 111, 111, 116] : List UInt8).map bv).toArray) h (fun w => by kernel_rfl) fun tb w h => ?_
  refine conv_const (b := tb) h fun tfr w h => ?_
  refine Sum_spec h (b := [114, 111, 111, 116]) (rds_block (b := tb) (Nat.le_refl _)) (by simp) fun w h => ?_
  have hr := sha_length [114, 111, 111, 116]
  generalize sha [114, 111, 111, 116] = root at hr
  have h := h.drop
  refine VNew_spec hr qR h fun q g a w h => ?_
  have h := h.perm (show _ = bkI p m [] (tV q root 0 g a qR 1 H) by unfold bkI tV; ac_rfl)
  simp only [↓o_nil, ↓o_field, ↓o_add, ↓o_sub, ↓o_mul, ↓o_lss, ↓o_leq, ↓o_gtr, ↓o_geq, ↓o_not, ↓o_pick, ↓o_eqInt, ↓o_neInt, ↓o_eqBool, ↓o_neBool, ↓o_eqPtr, ↓o_nePtr, ↓o_eqPtr', ↓o_eqSl, ↓o_neSl, ↓o_eqStr, ↓o_neStr, ↓o_len, ↓o_lenS, ↓o_min, ↓o_max, ↓o_extract, ↓o_convInt, ↓cd_true, ↓cd_false, ↓gate_tt, ↓gate_ff, ↓gate_tf, ↓gate_ft, ↓gate_undef, ↓o_bind, ↓stay_v, ↓pop_cons, ↓fin_nil, Option.isNone_none, Option.isNone_some, Bool.not_true, Bool.not_false, Nat.zero_add, decide_true, decide_false, if_true, if_false, Bool.false_eq_true, ↓reduceIte]
  refine pvv_of (v := .agg [tv [116], tv [117]].toArray) (fun w => by kernel_rfl) ?_
  refine alloc_sl h fun ob w h => ?_
  have h : sat E w (pts ob (.cells [tv [], tv []].toArray 54 (0, 0)) * bkI p m [] (tV q root 0 g a qR 1 H)) := h
  refine store_all (b := ob) h (xs := [tv [], tv []]) (vs := [tv [116], tv [117]]) rfl rfl (by intro v hv; simp at hv; rcases hv with rfl | rfl <;> rfl) fun w h => ?_
  refine ld_agg (b := ob) h rfl ?_
  have h := h.perm (show _ = bkI p m [] (pts ob (.cells [tv [116], tv [117]].toArray 54 (0, 0)) * tV q root 0 g a qR 1 H) by unfold bkI; ac_rfl)
  have hbad : ∀ {w} {l : List (K2 × Value)}, sat E w (bkI p m l (pts ob (.cells [tv [116], tv [117]].toArray 54 (0, 0)) * tV q root 0 g a qR 1 H)) → sat E w H := fun h => by unfold bkI tV at h; exact h.drop.drop.drop.drop.drop.drop
  refine Add_spec (salt := saltB) h (fun he w h => ?_) (fun he w h => ?_)
  · have h6 : (iter pw saltB 2).2 = 6 := by rcases iter_cases pw with e | e; exact absurd e he; exact e
    rw [h6]
    simp only [show decide ((6 : Int) = 0) = false from rfl, show decide ((6 : Int) = 6) = true from rfl, ↓o_nil, ↓o_field, ↓o_add, ↓o_sub, ↓o_mul, ↓o_lss, ↓o_leq, ↓o_gtr, ↓o_geq, ↓o_not, ↓o_pick, ↓o_eqInt, ↓o_neInt, ↓o_eqBool, ↓o_neBool, ↓o_eqPtr, ↓o_nePtr, ↓o_eqPtr', ↓o_eqSl, ↓o_neSl, ↓o_eqStr, ↓o_neStr, ↓o_len, ↓o_lenS, ↓o_min, ↓o_max, ↓o_extract, ↓o_convInt, ↓cd_true, ↓cd_false, ↓gate_tt, ↓gate_ff, ↓gate_tf, ↓gate_ft, ↓gate_undef, ↓o_bind, ↓stay_v, ↓pop_cons, ↓fin_nil, Option.isNone_none, Option.isNone_some, Bool.not_true, Bool.not_false, Nat.zero_add, decide_true, decide_false, if_true, if_false, Bool.false_eq_true, ↓reduceIte]
    refine Rows0_spec h fun w h => ?_
    simp only [show decide (((0 : Nat) : Int) = 0) = true from rfl, ↓o_nil, ↓o_field, ↓o_add, ↓o_sub, ↓o_mul, ↓o_lss, ↓o_leq, ↓o_gtr, ↓o_geq, ↓o_not, ↓o_pick, ↓o_eqInt, ↓o_neInt, ↓o_eqBool, ↓o_neBool, ↓o_eqPtr, ↓o_nePtr, ↓o_eqPtr', ↓o_eqSl, ↓o_neSl, ↓o_eqStr, ↓o_neStr, ↓o_len, ↓o_lenS, ↓o_min, ↓o_max, ↓o_extract, ↓o_convInt, ↓cd_true, ↓cd_false, ↓gate_tt, ↓gate_ff, ↓gate_tf, ↓gate_ft, ↓gate_undef, ↓o_bind, ↓stay_v, ↓pop_cons, ↓fin_nil, Option.isNone_none, Option.isNone_some, Bool.not_true, Bool.not_false, Nat.zero_add, decide_true, decide_false, if_true, if_false, Bool.false_eq_true, ↓reduceIte]
    exact k w (hbad h)
  have hil := iter_length pw saltB 2
  have hit : iter pw saltB 2 = ((iter pw saltB 2).1, 0) := by rw [← he]
  generalize (iter pw saltB 2).1 = hh at hil hit h
  clear he hbad
  simp only [show decide ((0 : Int) = 0) = true from rfl, ↓o_nil, ↓o_field, ↓o_add, ↓o_sub, ↓o_mul, ↓o_lss, ↓o_leq, ↓o_gtr, ↓o_geq, ↓o_not, ↓o_pick, ↓o_eqInt, ↓o_neInt, ↓o_eqBool, ↓o_neBool, ↓o_eqPtr, ↓o_nePtr, ↓o_eqPtr', ↓o_eqSl, ↓o_neSl, ↓o_eqStr, ↓o_neStr, ↓o_len, ↓o_lenS, ↓o_min, ↓o_max, ↓o_extract, ↓o_convInt, ↓cd_true, ↓cd_false, ↓gate_tt, ↓gate_ff, ↓gate_tf, ↓gate_ft, ↓gate_undef, ↓o_bind, ↓stay_v, ↓pop_cons, ↓fin_nil, Option.isNone_none, Option.isNone_some, Bool.not_true, Bool.not_false, Nat.zero_add, decide_true, decide_false, if_true, if_false, Bool.false_eq_true, ↓reduceIte]
  generalize hR0 : (⟨0, 0, hh, saltB, 2⟩ : Rc) = r at h
  have hrh : r.h.length = 32 := by rw [← hR0]; exact hil
  have hdO : Dbt (pts ob (.cells [tv [116], tv [117]].toArray 54 (0, 0)) * tV q root 0 g a qR 1 H) := by unfold tV; exact hd.right.right.right.right
  refine Rows1_spec hrh hdO h fun u cv w h => ?_
  obtain ⟨ua, uc, rfl, huc, _, hup⟩ := osl_shape h
  obtain ⟨ub, rfl⟩ := hup (by omega)
  obtain ⟨ca, cc, rfl, hcc, _, hcp⟩ := osl_shape (h.perm (star_left_comm _ _ _))
  obtain ⟨cb, rfl⟩ := hcp (by omega)
  generalize hB : bkI p m (oneU r) (pts ob (.cells [tv [116], tv [117]].toArray 54 (0, 0)) * H) = BB
  have hdB : Dbt BB := by rw [← hB]; unfold bkI; exact hd.right.right.right
  have h := h.perm (show _ = colC (.slice (some ⟨ub, 0, none⟩) 1 uc) (.slice (some ⟨cb, 0, none⟩) 5 cc) (rcols r) (tV q root 0 g a qR 1 BB) by rw [← hB]; unfold colC bkI tV; ac_rfl)
  have hcl : (rcols r).length = 5 := rfl
  have hc1 : ∀ c ∈ rcols r, c.length ≤ 1024 := by
    intro c hc
    have h1 := numT_le r.cost; have h2 := numT_le r.tr; have h3 := numT_le r.un
    have h4 : r.salt.length = 4 := by rw [← hR0]; rfl
    simp only [rcols, List.mem_cons, List.not_mem_nil, or_false] at hc
    rcases hc with rfl | rfl | rfl | rfl | rfl <;> omega
  have hru : ∀ {X : HP}, Rds (colC (.slice (some ⟨ub, 0, none⟩) 1 uc) (.slice (some ⟨cb, 0, none⟩) 5 cc) (rcols r) X) (.slice (some ⟨ub, 0, none⟩) 1 uc) 1 [tv qk, .slice (some ⟨cb, 0, none⟩) 5 cc] := fun {X} => Rds.osl.left
  have hrc : ∀ {X : HP}, Rds (colC (.slice (some ⟨ub, 0, none⟩) 1 uc) (.slice (some ⟨cb, 0, none⟩) 5 cc) (rcols r) X) (.slice (some ⟨cb, 0, none⟩) 5 cc) 5 ((rcols r).map tv) := fun {X} => Rds.osl.left.right
  refine lp_nat (fun s σ w => (s = 1 ∧ σ = [.int .i64 0] ∧ sat E w (colC (.slice (some ⟨ub, 0, none⟩) 1 uc) (.slice (some ⟨cb, 0, none⟩) 5 cc) (rcols r) (tV q root 0 g a qR 1 BB))) ∨
      ∃ n v : Nat, s = 0 ∧ σ = [.int .i64 1] ∧ sat E w (colC (.slice (some ⟨ub, 0, none⟩) 1 uc) (.slice (some ⟨cb, 0, none⟩) 5 cc) (rcols r) (tV q root n g a qR v BB))) 1 (.inl ⟨rfl, rfl, h⟩) ?_
  clear h
  rintro s σ w again (⟨rfl, rfl, h⟩ | ⟨n, v, rfl, rfl, h⟩) hag
  · rw [pop_cons, fin_nil, o_len, o_lss, decide_eq_true (by omega), cd_true]
    refine lp_nat (fun s σ w => ∃ j n v : Nat, σ = [.int .i64 (j : Int)] ∧ s = 5 - j ∧ j ≤ 5 ∧ n ≤ 2 * j ∧ 1 ≤ v ∧ v ≤ 16 ∧ sat E w (colC (.slice (some ⟨ub, 0, none⟩) 1 uc) (.slice (some ⟨cb, 0, none⟩) 5 cc) (rcols r) (tV q root n g a qR v BB))) 5
      ⟨0, 0, 1, rfl, rfl, by omega, by omega, by omega, by omega, h⟩ ?_
    clear h
    rintro s σ w again2 ⟨j, n, v, rfl, rfl, hj, hn, hv1, hv2, h⟩ hag2
    rw [pop_cons, fin_nil, o_index (by omega) (by omega)]
    simp only [show (0 : Int).toNat = 0 from rfl]
    refine pvv_of (v := .pointer (some ⟨ub, 1, none⟩)) (fun w => by kernel_rfl) ?_
    refine ld_rd h hru 1 (by omega) (v := .slice (some ⟨cb, 0, none⟩) 5 cc) rfl ?_
    rw [o_len, o_lss]
    refine cd_dec (fun hlt => ?_) (fun hge => ?_)
    · have hj2 : j < (rcols r).length := by omega
      have hx : (rcols r)[j]? = some (rcols r)[j] := List.getElem?_eq_getElem hj2
      have hxm : (rcols r)[j] ∈ rcols r := List.getElem_mem hj2
      generalize (rcols r)[j] = c at hx hxm
      have hcx := hc1 c hxm
      rw [o_index (by omega) (by omega)]
      refine pvv_of (v := .pointer (some ⟨ub, 1, none⟩)) (fun w => by kernel_rfl) ?_
      refine ld_rd h hru 1 (by omega) (v := .slice (some ⟨cb, 0, none⟩) 5 cc) rfl ?_
      rw [o_index (by omega) (by omega), Int.toNat_natCast]
      refine ld_rd h hrc j (by omega) (v := tv c) (by rw [List.getElem?_map, hx]; rfl) ?_
      have h := h.perm (show _ = tV q root n g a qR v (colC (.slice (some ⟨ub, 0, none⟩) 1 uc) (.slice (some ⟨cb, 0, none⟩) 5 cc) (rcols r) BB) by unfold colC tV; ac_rfl)
      refine Col_spec hr (by omega) hv1 hv2 hcx hdB.right.right h fun x n' v' w hn' hv1' hv2' h => ?_
      have h := h.perm (show _ = colC (.slice (some ⟨ub, 0, none⟩) 1 uc) (.slice (some ⟨cb, 0, none⟩) 5 cc) (rcols r) (osl 5 1 x c.length (c.map bv) * tV q root n' g a qR v' BB) by unfold colC tV; ac_rfl)
      refine dr_sl h fun w h _ => ?_
      rw [o_index (by omega) (by omega)]
      refine pvv_of (v := .pointer (some ⟨ub, 1, none⟩)) (fun w => by kernel_rfl) ?_
      refine ld_rd h hru 1 (by omega) (v := .slice (some ⟨cb, 0, none⟩) 5 cc) rfl ?_
      refine conv_bs (l := c) ((show Rds (colC (.slice (some ⟨ub, 0, none⟩) 1 uc) (.slice (some ⟨cb, 0, none⟩) 5 cc) (rcols r) (osl 5 1 x c.length (c.map bv) * tV q root n' g a qR v' BB)) x c.length (c.map bv) from Rds.osl.left.right.right) E w h) ?_
      refine st_rd h hru 1 (by omega) (v := .slice (some ⟨cb, 0, none⟩) 5 cc) rfl ?_
      rw [o_index (by omega) (by omega), Int.toNat_natCast, show 0 + j * 1 = j by omega]
      have hset : ((rcols r).map tv).set j (tv c) = (rcols r).map tv := by
        have hg : ((rcols r).map tv)[j]? = some (tv c) := by rw [List.getElem?_map, hx]; rfl
        obtain ⟨hl, he⟩ := List.getElem?_eq_some_iff.1 hg
        rw [← he, List.set_getElem_self]
      refine osl_store h (c := cc) (n := 5) (i := j) (xs := (rcols r).map tv) (u := tv c) (b := cb) (by omega) rfl fun w h => ?_
      rw [hset] at h
      rw [o_add, i64_of (by omega) (by omega)]
      refine hag2 (5 - (j + 1)) _ _ (by omega) ⟨j + 1, n', v', rfl, rfl, by omega, by omega, hv1', hv2', ?_⟩
      exact (h.perm (show _ = osl 5 1 x c.length (c.map bv) * colC (.slice (some ⟨ub, 0, none⟩) 1 uc) (.slice (some ⟨cb, 0, none⟩) 5 cc) (rcols r) (tV q root n' g a qR v' BB) by unfold colC tV; ac_rfl)).drop
    · have hj5 : j = 5 := by omega
      subst hj5
      rw [o_add, show IntKind.i64.wrap (0 + 1) = 1 from rfl]
      exact hag 0 _ _ (by omega) (.inr ⟨n, v, rfl, rfl, h⟩)
  · rw [pop_cons, fin_nil, o_len, o_lss, decide_eq_false (by omega), cd_false]
    clear hag hrc hc1 hcl
    have fit : Fit r := by
      rw [← hR0]
      exact ⟨hil, show saltB.length ≤ 8 by decide, show 1 ≤ 2 by decide, show 2 ≤ 64 by decide, show 0 ≤ 3 by decide, show 0 ≤ 1099511627876 by decide⟩
    have hi2 : iter pw r.salt (r.cost : Int) = (r.h, 0) := by rw [← hR0]; exact hit
    have hr0 : r.un = 0 ∧ r.tr = 0 ∧ r.cost ≤ 64 := by rw [← hR0]; exact ⟨rfl, rfl, show 2 ≤ 64 by decide⟩
    obtain ⟨hun, htr, hco⟩ := hr0
    have hdC : Dbt (colC (.slice (some ⟨ub, 0, none⟩) 1 uc) (.slice (some ⟨cb, 0, none⟩) 5 cc) (rcols r) (tV q root n g a qR v BB)) := by unfold colC tV; exact hdB.right.right.right.right.right
    refine BLoad_spec fit hdC hru (Rds.osl.left.right) h fun p2 m2 w h => ?_
    simp only [show decide ((0 : Int) = 0) = true from rfl, ↓o_nil, ↓o_field, ↓o_add, ↓o_sub, ↓o_mul, ↓o_lss, ↓o_leq, ↓o_gtr, ↓o_geq, ↓o_not, ↓o_pick, ↓o_eqInt, ↓o_neInt, ↓o_eqBool, ↓o_neBool, ↓o_eqPtr, ↓o_nePtr, ↓o_eqPtr', ↓o_eqSl, ↓o_neSl, ↓o_eqStr, ↓o_neStr, ↓o_len, ↓o_lenS, ↓o_min, ↓o_max, ↓o_extract, ↓o_convInt, ↓cd_true, ↓cd_false, ↓gate_tt, ↓gate_ff, ↓gate_tf, ↓gate_ft, ↓gate_undef, ↓o_bind, ↓stay_v, ↓pop_cons, ↓fin_nil, Option.isNone_none, Option.isNone_some, Bool.not_true, Bool.not_false, Nat.zero_add, decide_true, decide_false, if_true, if_false, Bool.false_eq_true, ↓reduceIte]
    have hob : ∀ {X Y : HP}, Has (X * (Y * colC (.slice (some ⟨ub, 0, none⟩) 1 uc) (.slice (some ⟨cb, 0, none⟩) 5 cc) (rcols r) (tV q root n g a qR v BB))) ob (.cells [tv [116], tv [117]].toArray 54 (0, 0)) := fun {X Y} => by rw [← hB]; unfold colC tV bkI; infer_instance
    refine ld_agg (b := ob) (hb := hob) h rfl ?_
    refine Try_spec hrh hun htr h fun w h => ?_
    simp only [show decide ((0 : Int) = 0) = true from rfl, ↓o_nil, ↓o_field, ↓o_add, ↓o_sub, ↓o_mul, ↓o_lss, ↓o_leq, ↓o_gtr, ↓o_geq, ↓o_not, ↓o_pick, ↓o_eqInt, ↓o_neInt, ↓o_eqBool, ↓o_neBool, ↓o_eqPtr, ↓o_nePtr, ↓o_eqPtr', ↓o_eqSl, ↓o_neSl, ↓o_eqStr, ↓o_neStr, ↓o_len, ↓o_lenS, ↓o_min, ↓o_max, ↓o_extract, ↓o_convInt, ↓cd_true, ↓cd_false, ↓gate_tt, ↓gate_ff, ↓gate_tf, ↓gate_ft, ↓gate_undef, ↓o_bind, ↓stay_v, ↓pop_cons, ↓fin_nil, Option.isNone_none, Option.isNone_some, Bool.not_true, Bool.not_false, Nat.zero_add, decide_true, decide_false, if_true, if_false, Bool.false_eq_true, ↓reduceIte]
    refine ld_agg (b := ob) (hb := hob) h rfl ?_
    refine Check_spec (r := { r with tr := 1 }) hrh hco hi2 h fun w h => ?_
    simp only [show decide ((0 : Int) = 0) = true from rfl, ↓o_nil, ↓o_field, ↓o_add, ↓o_sub, ↓o_mul, ↓o_lss, ↓o_leq, ↓o_gtr, ↓o_geq, ↓o_not, ↓o_pick, ↓o_eqInt, ↓o_neInt, ↓o_eqBool, ↓o_neBool, ↓o_eqPtr, ↓o_nePtr, ↓o_eqPtr', ↓o_eqSl, ↓o_neSl, ↓o_eqStr, ↓o_neStr, ↓o_len, ↓o_lenS, ↓o_min, ↓o_max, ↓o_extract, ↓o_convInt, ↓cd_true, ↓cd_false, ↓gate_tt, ↓gate_ff, ↓gate_tf, ↓gate_ft, ↓gate_undef, ↓o_bind, ↓stay_v, ↓pop_cons, ↓fin_nil, Option.isNone_none, Option.isNone_some, Bool.not_true, Bool.not_false, Nat.zero_add, decide_true, decide_false, if_true, if_false, Bool.false_eq_true, ↓reduceIte]
    refine Rows1_spec (r := { r with tr := 0, un := 0 }) hrh hdC h fun u2 cv2 w h => ?_
    obtain ⟨ua2, uc2, rfl, _, _, _⟩ := osl_shape h
    simp only [show decide (((1 : Nat) : Int) = ((1 : Nat) : Int)) = true from rfl, ↓o_nil, ↓o_field, ↓o_add, ↓o_sub, ↓o_mul, ↓o_lss, ↓o_leq, ↓o_gtr, ↓o_geq, ↓o_not, ↓o_pick, ↓o_eqInt, ↓o_neInt, ↓o_eqBool, ↓o_neBool, ↓o_eqPtr, ↓o_nePtr, ↓o_eqPtr', ↓o_eqSl, ↓o_neSl, ↓o_eqStr, ↓o_neStr, ↓o_len, ↓o_lenS, ↓o_min, ↓o_max, ↓o_extract, ↓o_convInt, ↓cd_true, ↓cd_false, ↓gate_tt, ↓gate_ff, ↓gate_tf, ↓gate_ft, ↓gate_undef, ↓o_bind, ↓stay_v, ↓pop_cons, ↓fin_nil, Option.isNone_none, Option.isNone_some, Bool.not_true, Bool.not_false, Nat.zero_add, decide_true, decide_false, if_true, if_false, Bool.false_eq_true, ↓reduceIte]
    refine k w ?_
    rw [← hB] at h
    unfold bkI colC tV at h
    have h := h.drop.drop.drop.drop.drop.drop.drop.drop.drop.drop.drop.drop
    exact h
end Go.Proofs.YtmnaalpjhkkglaaGreatDoor
