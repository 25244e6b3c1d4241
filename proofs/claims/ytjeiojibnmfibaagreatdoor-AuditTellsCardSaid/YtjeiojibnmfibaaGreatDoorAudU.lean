/-
  A deed on both chains; the deeds that are handed in.
-/
import Derived.Test.YtjeiojibnmfibaaGreatDoorAudS
import Derived.Test.YtjeiojibnmfibaaGreatDoorElems
set_option linter.all false
set_option maxRecDepth 10000
namespace Go.Proofs.YtjeiojibnmfibaaGreatDoor
open Go Hold
variable {E : World0} {w : World} {H R X : HP} {K : Value → World → Prop}
structure Deed where
  kind : Int
  t : Int
  n : Int
  what : List UInt8
  who : List UInt8
def dcells (x : Deed) : List Value := [.int .i64 x.kind, .int .i64 x.t, .int .i64 x.n, tv x.what, tv x.who]
def doS (s : Ch) (x : Deed) : Ch :=
  if x.kind = 0 then (addS s x.t x.what x.who).1 else if x.kind = 1 then anchorS s else if x.kind = 2 then (pruneS s x.n).1 else s
theorem ok_do {s : Ch} {m : Nat} {x : Deed} (ok : Ok s m) : Ok (doS s x) (m + 1) := by
  have up : ∀ {s : Ch}, Ok s m → Ok s (m + 1) := fun ok => ⟨ok.b, ok.a, ok.h, ok.b0, ok.a0, ok.le, by have := ok.top; omega, ok.few⟩
  unfold doS
  split
  · exact ok_add ok
  · split
    · exact up (ok_anchor ok)
    · split
      · exact up (ok_prune ok)
      · exact up ok
theorem swapIR {p q : Nat} {s t : Ch} {v u : Value} (h : sat E w (chI p s v (chR q t u R))) : sat E w (chR q t u (chI p s v R)) := by
  unfold chI chR at h ⊢
  exact h.perm (by ac_rfl)
theorem swapRI {p q : Nat} {s t : Ch} {v u : Value} (h : sat E w (chR q t u (chI p s v R))) : sat E w (chI p s v (chR q t u R)) := by
  unfold chI chR at h ⊢
  exact h.perm (by ac_rfl)
theorem inIR {p q : Nat} {s t : Ch} {v u : Value} (h : sat E w (X * chI p s v (chR q t u R))) : sat E w (chI p s v (chR q t u (X * R))) := by
  unfold chI chR at h ⊢
  exact h.perm (by ac_rfl)
theorem inRI {p q : Nat} {s t : Ch} {v u : Value} (h : sat E w (X * chI p s v (chR q t u R))) : sat E w (chR q t u (chI p s v (X * R))) := by
  unfold chI chR at h ⊢
  exact h.perm (by ac_rfl)
theorem do_spec {p q m : Nat} {s : Ch} {v u : Value} {x : Deed} (ok : Ok s m) (hm : m ≤ 1000000000000) (hd : Dbt R) (h : sat E w (chI p s v (chR q s u R)))
    (k : ∀ v' u' w', sat E w' (chI p (doS s x) v' (chR q (doS s x) u' R)) → K (.bool true) w') : Calls prog 7 #[.pointer (some ⟨p, 0, none⟩), .pointer (some ⟨q, 0, none⟩), .agg (dcells x).toArray] w (Ret K) := by
  have t0 : ∀ n : Int, decide (n = n) = true := fun n => decide_eq_true rfl
  refine c7 ?_
  unfold B7
  refine box_sl h fun b w h => ?_
  have h : sat E w (pts b (.cells (dcells x).toArray 24 (0, 0)) * chI p s v (chR q s u R)) := h
  have h := inIR h
  simp only [↓o_nil, ↓o_field, ↓o_add, ↓o_sub, ↓o_mul, ↓o_lss, ↓o_leq, ↓o_gtr, ↓o_geq, ↓o_not, ↓o_pick, ↓o_eqInt, ↓o_neInt, ↓o_eqBool, ↓o_neBool, ↓o_eqPtr, ↓o_nePtr, ↓o_eqPtr', ↓o_eqSl, ↓o_neSl, ↓o_eqStr, ↓o_neStr, ↓o_len, ↓o_lenS, ↓o_min, ↓o_max, ↓o_extract, ↓o_convInt, ↓cd_true, ↓cd_false, ↓gate_tt, ↓gate_ff, ↓gate_tf, ↓gate_ft, ↓gate_undef, ↓o_bind, ↓stay_v, ↓pop_cons, ↓fin_nil, Option.isNone_none, Option.isNone_some, Bool.not_true, Bool.not_false, Nat.zero_add, decide_true, decide_false, if_true, if_false, Bool.false_eq_true, ↓reduceIte]
  refine ld_in (b := b) (v := .int .i64 x.kind) h rfl ?_
  rw [o_eqInt]
  by_cases k0 : x.kind = 0
  · have e : doS s x = (addS s x.t x.what x.who).1 := by unfold doS; rw [if_pos k0]
    rw [e] at k
    simp only [k0, t0, ↓o_nil, ↓o_field, ↓o_add, ↓o_sub, ↓o_mul, ↓o_lss, ↓o_leq, ↓o_gtr, ↓o_geq, ↓o_not, ↓o_pick, ↓o_eqInt, ↓o_neInt, ↓o_eqBool, ↓o_neBool, ↓o_eqPtr, ↓o_nePtr, ↓o_eqPtr', ↓o_eqSl, ↓o_neSl, ↓o_eqStr, ↓o_neStr, ↓o_len, ↓o_lenS, ↓o_min, ↓o_max, ↓o_extract, ↓o_convInt, ↓cd_true, ↓cd_false, ↓gate_tt, ↓gate_ff, ↓gate_tf, ↓gate_ft, ↓gate_undef, ↓o_bind, ↓stay_v, ↓pop_cons, ↓fin_nil, Option.isNone_none, Option.isNone_some, Bool.not_true, Bool.not_false, Nat.zero_add, decide_true, decide_false, if_true, if_false, Bool.false_eq_true, ↓reduceIte]
    refine ld_in (b := b) (v := .int .i64 x.t) h rfl ?_
    refine ld_in (b := b) (v := tv x.what) h rfl ?_
    refine ld_in (b := b) (v := tv x.who) h rfl ?_
    refine Add_spec ok hm hd.up h fun v' w h => ?_
    rw [o_extract, o_extract]
    refine evt_in h fun b1 w h => ?_
    try simp only [↓o_nil, ↓o_field, ↓o_add, ↓o_sub, ↓o_mul, ↓o_lss, ↓o_leq, ↓o_gtr, ↓o_geq, ↓o_not, ↓o_pick, ↓o_eqInt, ↓o_neInt, ↓o_eqBool, ↓o_neBool, ↓o_eqPtr, ↓o_nePtr, ↓o_eqPtr', ↓o_eqSl, ↓o_neSl, ↓o_eqStr, ↓o_neStr, ↓o_len, ↓o_lenS, ↓o_min, ↓o_max, ↓o_extract, ↓o_convInt, ↓cd_true, ↓cd_false, ↓gate_tt, ↓gate_ff, ↓gate_tf, ↓gate_ft, ↓gate_undef, ↓o_bind, ↓stay_v, ↓pop_cons, ↓fin_nil, Option.isNone_none, Option.isNone_some, Bool.not_true, Bool.not_false, Nat.zero_add, decide_true, decide_false, if_true, if_false, Bool.false_eq_true, ↓reduceIte]
    refine ld_in (b := b) (v := .int .i64 x.t) h rfl ?_
    refine ld_in (b := b) (v := tv x.what) h rfl ?_
    refine ld_in (b := b) (v := tv x.who) h rfl ?_
    refine RAdd_spec ok hm (inRI h) fun u' w h => ?_
    rw [o_extract, o_extract]
    refine evt_in h fun b2 w h => ?_
    refine ld_agg (b := b1) (xs := ecells (addS s x.t x.what x.who).2.1) h rfl ?_
    refine ld_agg (b := b2) (xs := ecells (addS s x.t x.what x.who).2.1) h rfl ?_
    have e1 : ∀ (xo yo : Operand) (y : Evt) (K : Value → World → Prop), pvv prog (oEq .eql 56 xo yo (.agg (ecells y).toArray) (.agg (ecells y).toArray)) w K = K (.bool true) w := fun xo yo y K => by
      have := eq_ev (K := K) (w := w) (x := y) (y := y) (xo := xo) (yo := yo)
      rw [decide_eq_true rfl] at this
      exact this
    rw [e1]
    simp only [t0, ↓o_nil, ↓o_field, ↓o_add, ↓o_sub, ↓o_mul, ↓o_lss, ↓o_leq, ↓o_gtr, ↓o_geq, ↓o_not, ↓o_pick, ↓o_eqInt, ↓o_neInt, ↓o_eqBool, ↓o_neBool, ↓o_eqPtr, ↓o_nePtr, ↓o_eqPtr', ↓o_eqSl, ↓o_neSl, ↓o_eqStr, ↓o_neStr, ↓o_len, ↓o_lenS, ↓o_min, ↓o_max, ↓o_extract, ↓o_convInt, ↓cd_true, ↓cd_false, ↓gate_tt, ↓gate_ff, ↓gate_tf, ↓gate_ft, ↓gate_undef, ↓o_bind, ↓stay_v, ↓pop_cons, ↓fin_nil, Option.isNone_none, Option.isNone_some, Bool.not_true, Bool.not_false, Nat.zero_add, decide_true, decide_false, if_true, if_false, Bool.false_eq_true, ↓reduceIte]
    refine k v' u' w ?_
    have h := ((h.lose b2).lose b1).lose b
    unfold chI chR
    exact h.perm (by ac_rfl)
  simp only [k0, ↓o_nil, ↓o_field, ↓o_add, ↓o_sub, ↓o_mul, ↓o_lss, ↓o_leq, ↓o_gtr, ↓o_geq, ↓o_not, ↓o_pick, ↓o_eqInt, ↓o_neInt, ↓o_eqBool, ↓o_neBool, ↓o_eqPtr, ↓o_nePtr, ↓o_eqPtr', ↓o_eqSl, ↓o_neSl, ↓o_eqStr, ↓o_neStr, ↓o_len, ↓o_lenS, ↓o_min, ↓o_max, ↓o_extract, ↓o_convInt, ↓cd_true, ↓cd_false, ↓gate_tt, ↓gate_ff, ↓gate_tf, ↓gate_ft, ↓gate_undef, ↓o_bind, ↓stay_v, ↓pop_cons, ↓fin_nil, Option.isNone_none, Option.isNone_some, Bool.not_true, Bool.not_false, Nat.zero_add, decide_true, decide_false, if_true, if_false, Bool.false_eq_true, ↓reduceIte]
  by_cases k1 : x.kind = 1
  · have e : doS s x = anchorS s := by unfold doS; rw [if_neg k0, if_pos k1]
    rw [e] at k
    simp only [k1, t0, ↓o_nil, ↓o_field, ↓o_add, ↓o_sub, ↓o_mul, ↓o_lss, ↓o_leq, ↓o_gtr, ↓o_geq, ↓o_not, ↓o_pick, ↓o_eqInt, ↓o_neInt, ↓o_eqBool, ↓o_neBool, ↓o_eqPtr, ↓o_nePtr, ↓o_eqPtr', ↓o_eqSl, ↓o_neSl, ↓o_eqStr, ↓o_neStr, ↓o_len, ↓o_lenS, ↓o_min, ↓o_max, ↓o_extract, ↓o_convInt, ↓cd_true, ↓cd_false, ↓gate_tt, ↓gate_ff, ↓gate_tf, ↓gate_ft, ↓gate_undef, ↓o_bind, ↓stay_v, ↓pop_cons, ↓fin_nil, Option.isNone_none, Option.isNone_some, Bool.not_true, Bool.not_false, Nat.zero_add, decide_true, decide_false, if_true, if_false, Bool.false_eq_true, ↓reduceIte]
    refine Anchor_spec ok (by omega) h fun w h => ?_
    rw [o_extract, o_extract]
    refine hash_in h (ok_anchor ok).a fun b1 w h => ?_
    refine RAnchor_spec ok (by omega) (inRI h) fun w h => ?_
    rw [o_extract, o_extract]
    refine hash_in h (ok_anchor ok).a fun b2 w h => ?_
    simp only [t0, ↓o_nil, ↓o_field, ↓o_add, ↓o_sub, ↓o_mul, ↓o_lss, ↓o_leq, ↓o_gtr, ↓o_geq, ↓o_not, ↓o_pick, ↓o_eqInt, ↓o_neInt, ↓o_eqBool, ↓o_neBool, ↓o_eqPtr, ↓o_nePtr, ↓o_eqPtr', ↓o_eqSl, ↓o_neSl, ↓o_eqStr, ↓o_neStr, ↓o_len, ↓o_lenS, ↓o_min, ↓o_max, ↓o_extract, ↓o_convInt, ↓cd_true, ↓cd_false, ↓gate_tt, ↓gate_ff, ↓gate_tf, ↓gate_ft, ↓gate_undef, ↓o_bind, ↓stay_v, ↓pop_cons, ↓fin_nil, Option.isNone_none, Option.isNone_some, Bool.not_true, Bool.not_false, Nat.zero_add, decide_true, decide_false, if_true, if_false, Bool.false_eq_true, ↓reduceIte]
    refine ld_agg (b := b1) h (by simp [(ok_anchor ok).a]) ?_
    refine ld_agg (b := b2) h (by simp [(ok_anchor ok).a]) ?_
    try simp only [↓o_nil, ↓o_field, ↓o_add, ↓o_sub, ↓o_mul, ↓o_lss, ↓o_leq, ↓o_gtr, ↓o_geq, ↓o_not, ↓o_pick, ↓o_eqInt, ↓o_neInt, ↓o_eqBool, ↓o_neBool, ↓o_eqPtr, ↓o_nePtr, ↓o_eqPtr', ↓o_eqSl, ↓o_neSl, ↓o_eqStr, ↓o_neStr, ↓o_len, ↓o_lenS, ↓o_min, ↓o_max, ↓o_extract, ↓o_convInt, ↓cd_true, ↓cd_false, ↓gate_tt, ↓gate_ff, ↓gate_tf, ↓gate_ft, ↓gate_undef, ↓o_bind, ↓stay_v, ↓pop_cons, ↓fin_nil, Option.isNone_none, Option.isNone_some, Bool.not_true, Bool.not_false, Nat.zero_add, decide_true, decide_false, if_true, if_false, Bool.false_eq_true, ↓reduceIte]
    rw [eq36 (ok_anchor ok).a (ok_anchor ok).a]
    simp only [beq_self_eq_true, ↓o_nil, ↓o_field, ↓o_add, ↓o_sub, ↓o_mul, ↓o_lss, ↓o_leq, ↓o_gtr, ↓o_geq, ↓o_not, ↓o_pick, ↓o_eqInt, ↓o_neInt, ↓o_eqBool, ↓o_neBool, ↓o_eqPtr, ↓o_nePtr, ↓o_eqPtr', ↓o_eqSl, ↓o_neSl, ↓o_eqStr, ↓o_neStr, ↓o_len, ↓o_lenS, ↓o_min, ↓o_max, ↓o_extract, ↓o_convInt, ↓cd_true, ↓cd_false, ↓gate_tt, ↓gate_ff, ↓gate_tf, ↓gate_ft, ↓gate_undef, ↓o_bind, ↓stay_v, ↓pop_cons, ↓fin_nil, Option.isNone_none, Option.isNone_some, Bool.not_true, Bool.not_false, Nat.zero_add, decide_true, decide_false, if_true, if_false, Bool.false_eq_true, ↓reduceIte]
    refine k v u w ?_
    have h := ((h.lose b2).lose b1).lose b
    unfold chI chR
    exact h.perm (by ac_rfl)
  simp only [k1, ↓o_nil, ↓o_field, ↓o_add, ↓o_sub, ↓o_mul, ↓o_lss, ↓o_leq, ↓o_gtr, ↓o_geq, ↓o_not, ↓o_pick, ↓o_eqInt, ↓o_neInt, ↓o_eqBool, ↓o_neBool, ↓o_eqPtr, ↓o_nePtr, ↓o_eqPtr', ↓o_eqSl, ↓o_neSl, ↓o_eqStr, ↓o_neStr, ↓o_len, ↓o_lenS, ↓o_min, ↓o_max, ↓o_extract, ↓o_convInt, ↓cd_true, ↓cd_false, ↓gate_tt, ↓gate_ff, ↓gate_tf, ↓gate_ft, ↓gate_undef, ↓o_bind, ↓stay_v, ↓pop_cons, ↓fin_nil, Option.isNone_none, Option.isNone_some, Bool.not_true, Bool.not_false, Nat.zero_add, decide_true, decide_false, if_true, if_false, Bool.false_eq_true, ↓reduceIte]
  by_cases k2 : x.kind = 2
  · have e : doS s x = (pruneS s x.n).1 := by unfold doS; rw [if_neg k0, if_neg k1, if_pos k2]
    rw [e] at k
    simp only [k2, t0, ↓o_nil, ↓o_field, ↓o_add, ↓o_sub, ↓o_mul, ↓o_lss, ↓o_leq, ↓o_gtr, ↓o_geq, ↓o_not, ↓o_pick, ↓o_eqInt, ↓o_neInt, ↓o_eqBool, ↓o_neBool, ↓o_eqPtr, ↓o_nePtr, ↓o_eqPtr', ↓o_eqSl, ↓o_neSl, ↓o_eqStr, ↓o_neStr, ↓o_len, ↓o_lenS, ↓o_min, ↓o_max, ↓o_extract, ↓o_convInt, ↓cd_true, ↓cd_false, ↓gate_tt, ↓gate_ff, ↓gate_tf, ↓gate_ft, ↓gate_undef, ↓o_bind, ↓stay_v, ↓pop_cons, ↓fin_nil, Option.isNone_none, Option.isNone_some, Bool.not_true, Bool.not_false, Nat.zero_add, decide_true, decide_false, if_true, if_false, Bool.false_eq_true, ↓reduceIte]
    refine ld_in (b := b) (v := .int .i64 x.n) h rfl ?_
    refine Prune_spec ok hm hd.up h fun v' w h => ?_
    rw [o_extract, o_extract]
    try simp only [↓o_nil, ↓o_field, ↓o_add, ↓o_sub, ↓o_mul, ↓o_lss, ↓o_leq, ↓o_gtr, ↓o_geq, ↓o_not, ↓o_pick, ↓o_eqInt, ↓o_neInt, ↓o_eqBool, ↓o_neBool, ↓o_eqPtr, ↓o_nePtr, ↓o_eqPtr', ↓o_eqSl, ↓o_neSl, ↓o_eqStr, ↓o_neStr, ↓o_len, ↓o_lenS, ↓o_min, ↓o_max, ↓o_extract, ↓o_convInt, ↓cd_true, ↓cd_false, ↓gate_tt, ↓gate_ff, ↓gate_tf, ↓gate_ft, ↓gate_undef, ↓o_bind, ↓stay_v, ↓pop_cons, ↓fin_nil, Option.isNone_none, Option.isNone_some, Bool.not_true, Bool.not_false, Nat.zero_add, decide_true, decide_false, if_true, if_false, Bool.false_eq_true, ↓reduceIte]
    refine ld_in (b := b) (v := .int .i64 x.n) h rfl ?_
    refine RPrune_spec ok hm (swapIR h) fun u' w h => ?_
    rw [o_extract, o_extract]
    simp only [t0, ↓o_nil, ↓o_field, ↓o_add, ↓o_sub, ↓o_mul, ↓o_lss, ↓o_leq, ↓o_gtr, ↓o_geq, ↓o_not, ↓o_pick, ↓o_eqInt, ↓o_neInt, ↓o_eqBool, ↓o_neBool, ↓o_eqPtr, ↓o_nePtr, ↓o_eqPtr', ↓o_eqSl, ↓o_neSl, ↓o_eqStr, ↓o_neStr, ↓o_len, ↓o_lenS, ↓o_min, ↓o_max, ↓o_extract, ↓o_convInt, ↓cd_true, ↓cd_false, ↓gate_tt, ↓gate_ff, ↓gate_tf, ↓gate_ft, ↓gate_undef, ↓o_bind, ↓stay_v, ↓pop_cons, ↓fin_nil, Option.isNone_none, Option.isNone_some, Bool.not_true, Bool.not_false, Nat.zero_add, decide_true, decide_false, if_true, if_false, Bool.false_eq_true, ↓reduceIte]
    refine k v' u' w ?_
    have h := h.lose b
    unfold chI chR
    exact h.perm (by ac_rfl)
  · have e : doS s x = s := by unfold doS; rw [if_neg k0, if_neg k1, if_neg k2]
    rw [e] at k
    simp only [k2, ↓o_nil, ↓o_field, ↓o_add, ↓o_sub, ↓o_mul, ↓o_lss, ↓o_leq, ↓o_gtr, ↓o_geq, ↓o_not, ↓o_pick, ↓o_eqInt, ↓o_neInt, ↓o_eqBool, ↓o_neBool, ↓o_eqPtr, ↓o_nePtr, ↓o_eqPtr', ↓o_eqSl, ↓o_neSl, ↓o_eqStr, ↓o_neStr, ↓o_len, ↓o_lenS, ↓o_min, ↓o_max, ↓o_extract, ↓o_convInt, ↓cd_true, ↓cd_false, ↓gate_tt, ↓gate_ff, ↓gate_tf, ↓gate_ft, ↓gate_undef, ↓o_bind, ↓stay_v, ↓pop_cons, ↓fin_nil, Option.isNone_none, Option.isNone_some, Bool.not_true, Bool.not_false, Nat.zero_add, decide_true, decide_false, if_true, if_false, Bool.false_eq_true, ↓reduceIte]
    refine Verify_spec ok hm hd.up h fun w h => ?_
    refine RVerify_spec ok hm (swapIR h) fun w h => ?_
    simp only [t0, ↓o_nil, ↓o_field, ↓o_add, ↓o_sub, ↓o_mul, ↓o_lss, ↓o_leq, ↓o_gtr, ↓o_geq, ↓o_not, ↓o_pick, ↓o_eqInt, ↓o_neInt, ↓o_eqBool, ↓o_neBool, ↓o_eqPtr, ↓o_nePtr, ↓o_eqPtr', ↓o_eqSl, ↓o_neSl, ↓o_eqStr, ↓o_neStr, ↓o_len, ↓o_lenS, ↓o_min, ↓o_max, ↓o_extract, ↓o_convInt, ↓cd_true, ↓cd_false, ↓gate_tt, ↓gate_ff, ↓gate_tf, ↓gate_ft, ↓gate_undef, ↓o_bind, ↓stay_v, ↓pop_cons, ↓fin_nil, Option.isNone_none, Option.isNone_some, Bool.not_true, Bool.not_false, Nat.zero_add, decide_true, decide_false, if_true, if_false, Bool.false_eq_true, ↓reduceIte]
    refine k v u w ?_
    have h := h.lose b
    unfold chI chR
    exact h.perm (by ac_rfl)
theorem flds30 : ∃ f0 f1 f2 f3 f4 : Field, prog.underlying 24 = some (.struct #[f0, f1, f2, f3, f4]) ∧ f0.type = 3 ∧ f0.offset = 0 ∧ f1.type = 3 ∧ f1.offset = 1 ∧ f2.type = 3 ∧ f2.offset = 2 ∧ f3.type = 9 ∧ f3.offset = 3 ∧ f4.type = 9 ∧ f4.offset = 4 :=
  ⟨(prog.fieldsOf 24).toList.getD 0 default, (prog.fieldsOf 24).toList.getD 1 default, (prog.fieldsOf 24).toList.getD 2 default, (prog.fieldsOf 24).toList.getD 3 default, (prog.fieldsOf 24).toList.getD 4 default, by kernel_rfl, by kernel_rfl, by kernel_rfl, by kernel_rfl, by kernel_rfl, by kernel_rfl, by kernel_rfl, by kernel_rfl, by kernel_rfl, by kernel_rfl, by kernel_rfl⟩
theorem deed_of {W : World} {H : Type} {enc : TypeId × Value → H} {n : Nat} {cs : List Value} {D : DataW H × List MemPlace} (h : DataW.trod enc prog W 0 (fun _ => true) true n 24 cs = some D) : ∃ x : Deed, cs = dcells x := by
  obtain ⟨f0, f1, f2, f3, f4, hu, t0, o0, t1, o1, t2, o2, t3, o3, t4, o4⟩ := flds30
  obtain ⟨xs, m, _, _, hl, hlen, hf⟩ := DataW.trod_struct hu h
  rw [show prog.cellsOf 24 = 5 by kernel_rfl] at hl
  have c3 : prog.cellsOf 3 = 1 := by kernel_rfl
  have c9 : prog.cellsOf 9 = 1 := by kernel_rfl
  match xs, hlen, cs, hl with
  | [y0, y1, y2, y3, y4], _, [a, b, c, d, e], _ =>
    have g0 := hf 0 f0 rfl
    have g1 := hf 1 f1 rfl
    have g2 := hf 2 f2 rfl
    have g3 := hf 3 f3 rfl
    have g4 := hf 4 f4 rfl
    simp only [t0, o0, t1, o1, t2, o2, t3, o3, t4, o4, c3, c9, List.drop, List.take] at g0 g1 g2 g3 g4
    obtain ⟨n0, e0, _⟩ := DataW.trod_int ul_3.ul g0
    obtain ⟨n1, e1, _⟩ := DataW.trod_int ul_3.ul g1
    obtain ⟨n2, e2, _⟩ := DataW.trod_int ul_3.ul g2
    obtain ⟨s3, e3, _⟩ := DataW.trod_string ul_9.ul g3
    obtain ⟨s4, e4, _⟩ := DataW.trod_string ul_9.ul g4
    simp only [List.cons.injEq, and_true] at e0 e1 e2 e3 e4
    subst e0 e1 e2 e3 e4
    exact ⟨⟨n0, n1, n2, s3.data.toList, s4.data.toList⟩, by simp [dcells, tv]⟩
theorem open_deeds {W : World} {H : Type} {enc : TypeId × Value → H} {r : Reach} {b0 : Nat} {v : Value} {d : DataW H} {p : List MemPlace}
    (hv : Value.okWide prog W r b0 22 v) (h : DataW.Trod enc prog W 0 (fun _ => true) true 22 v d p) (hw : ∀ n ∈ d.weights prog 22, n ≤ 140737488351232) : ∃ l : List Deed, Rds (old W) v l.length (l.flatMap dcells) ∧ l.length ≤ 9223372036854775807 :=
  open_elems (t := 22) (e := 24) (k := 5) (by kernel_rfl) (by kernel_rfl) (by omega) (fun _ => rfl) deed_of hv h
end Go.Proofs.YtjeiojibnmfibaaGreatDoor

/-
  What holds of every chain that was made by these calls; two tests in a row.
-/
set_option linter.all false
set_option maxRecDepth 10000
namespace Go.Proofs.YtjeiojibnmfibaaGreatDoor
open Go Hold
variable {E : World0} {w : World} {H R X : HP} {K : Value → World → Prop}
theorem two_tests {a b c : Int} {k : Value → World → Prop} :
    (pvv prog (binOp .lss 3 (.int .i64 a) (.int .i64 b)) w fun t_7 w => gate (some (t_7, true)) (fun K => K (.int .i64 a) w) w fun t_8 w => gate (some (t_7, true)) (fun K => pvv prog (binOp .lss 3 t_8 (.int .i64 c)) w K) w fun t_9 w => pv prog (oPick t_7 t_9 (.bool false)) w fun t_10 w => k t_10 w) = k (.bool (decide (a < b ∧ a < c))) w := by
  rw [o_lss]
  by_cases h1 : a < b
  · by_cases h2 : a < c
    · simp only [h1, h2, and_self, ↓o_nil, ↓o_field, ↓o_add, ↓o_sub, ↓o_mul, ↓o_lss, ↓o_leq, ↓o_gtr, ↓o_geq, ↓o_not, ↓o_pick, ↓o_eqInt, ↓o_neInt, ↓o_eqBool, ↓o_neBool, ↓o_eqPtr, ↓o_nePtr, ↓o_eqPtr', ↓o_eqSl, ↓o_neSl, ↓o_eqStr, ↓o_neStr, ↓o_len, ↓o_lenS, ↓o_min, ↓o_max, ↓o_extract, ↓o_convInt, ↓cd_true, ↓cd_false, ↓gate_tt, ↓gate_ff, ↓gate_tf, ↓gate_ft, ↓gate_undef, ↓o_bind, ↓stay_v, ↓pop_cons, ↓fin_nil, Option.isNone_none, Option.isNone_some, Bool.not_true, Bool.not_false, Nat.zero_add, decide_true, decide_false, if_true, if_false, Bool.false_eq_true, ↓reduceIte]
    · simp only [h1, h2, and_false, ↓o_nil, ↓o_field, ↓o_add, ↓o_sub, ↓o_mul, ↓o_lss, ↓o_leq, ↓o_gtr, ↓o_geq, ↓o_not, ↓o_pick, ↓o_eqInt, ↓o_neInt, ↓o_eqBool, ↓o_neBool, ↓o_eqPtr, ↓o_nePtr, ↓o_eqPtr', ↓o_eqSl, ↓o_neSl, ↓o_eqStr, ↓o_neStr, ↓o_len, ↓o_lenS, ↓o_min, ↓o_max, ↓o_extract, ↓o_convInt, ↓cd_true, ↓cd_false, ↓gate_tt, ↓gate_ff, ↓gate_tf, ↓gate_ft, ↓gate_undef, ↓o_bind, ↓stay_v, ↓pop_cons, ↓fin_nil, Option.isNone_none, Option.isNone_some, Bool.not_true, Bool.not_false, Nat.zero_add, decide_true, decide_false, if_true, if_false, Bool.false_eq_true, ↓reduceIte]
  · simp only [h1, false_and, ↓o_nil, ↓o_field, ↓o_add, ↓o_sub, ↓o_mul, ↓o_lss, ↓o_leq, ↓o_gtr, ↓o_geq, ↓o_not, ↓o_pick, ↓o_eqInt, ↓o_neInt, ↓o_eqBool, ↓o_neBool, ↓o_eqPtr, ↓o_nePtr, ↓o_eqPtr', ↓o_eqSl, ↓o_neSl, ↓o_eqStr, ↓o_neStr, ↓o_len, ↓o_lenS, ↓o_min, ↓o_max, ↓o_extract, ↓o_convInt, ↓cd_true, ↓cd_false, ↓gate_tt, ↓gate_ff, ↓gate_tf, ↓gate_ft, ↓gate_undef, ↓o_bind, ↓stay_v, ↓pop_cons, ↓fin_nil, Option.isNone_none, Option.isNone_some, Bool.not_true, Bool.not_false, Nat.zero_add, decide_true, decide_false, if_true, if_false, Bool.false_eq_true, ↓reduceIte]
theorem st_no {P : Program} {s : Sem Value} {v : Value} {b want : Bool} {A : Prop} (h : b ≠ want) (k : A) : stv P (some (.bool b, want)) s v w A := ⟨fun hw => by simp [wantedG] at hw; exact absurd hw h, k⟩
theorem deeds_at {l : List Deed} {i : Nat} {x : Deed} (h : l[i]? = some x) : ((l.flatMap dcells).drop (i * 5)).take 5 = dcells x := fm_at (k := 5) (cells := dcells) (fun _ => rfl) h
structure Risen (s : Ch) : Prop where
  num : ∀ (i : Nat) (x : Evt), s.l[i]? = some x → x.n = s.bn + i + 1 ∧ x.t ≤ s.last
  up : ∀ (i : Nat) (x y : Evt), s.l[i]? = some x → s.l[i + 1]? = some y → x.t ≤ y.t
theorem inv_new : Risen newS := ⟨fun i x h => by simp [newS] at h, fun i x y h => by simp [newS] at h⟩
theorem inv_add {s : Ch} {t : Int} {a b : List UInt8} (h : Risen s) : Risen (addS s t a b).1 := by
  unfold addS
  split
  · exact h
  · split
    · exact h
    · split
      · exact h
      · rename_i ht
        split
        · exact h
        · refine ⟨fun i x hx => ?_, fun i x y hx hy => ?_⟩
          · simp only at hx ⊢
            by_cases hi : i < s.l.length
            · rw [List.getElem?_append_left hi] at hx
              obtain ⟨h1, h2⟩ := h.num i x hx
              exact ⟨h1, by omega⟩
            · rw [List.getElem?_append_right (by omega)] at hx
              have hlt := (List.getElem?_eq_some_iff.1 hx).1
              simp at hlt
              have hi2 : i = s.l.length := by omega
              subst hi2
              simp at hx
              subst hx
              exact ⟨rfl, Int.le_refl _⟩
          · simp only at hx hy
            have hlt := (List.getElem?_eq_some_iff.1 hy).1
            simp at hlt
            rw [List.getElem?_append_left (by omega)] at hx
            by_cases hi : i + 1 < s.l.length
            · rw [List.getElem?_append_left hi] at hy
              exact h.up i x y hx hy
            · have hi2 : i + 1 = s.l.length := by omega
              rw [List.getElem?_append_right (by omega), hi2] at hy
              simp at hy
              subst hy
              have := (h.num i x hx).2
              show x.t ≤ t
              omega
theorem inv_do {s : Ch} {x : Deed} (h : Risen s) : Risen (doS s x) := by
  unfold doS
  split
  · exact inv_add h
  · split
    · exact ⟨h.num, h.up⟩
    · split
      · unfold pruneS
        split
        · exact h
        · rename_i hn
          refine ⟨fun i y hy => ?_, fun i y z hy hz => ?_⟩
          · simp only [List.getElem?_drop] at hy
            obtain ⟨h1, h2⟩ := h.num _ y hy
            refine ⟨?_, h2⟩
            simp only
            omega
          · simp only [List.getElem?_drop] at hy hz
            exact h.up _ y z hy (by rw [← hz]; congr 1)
      · exact h
structure Right (s : Ch) : Prop where
  hd : links s.bh s.l = s.hd
  ah : s.bn ≤ s.an → links s.bh (s.l.take (s.an - s.bn).toNat) = s.ah
theorem Right.ok {s : Ch} (h : Right s) : verifyS s = 0 := by
  unfold verifyS
  rw [if_neg]
  rintro (⟨h1, h2⟩ | h2)
  · exact h2 (h.ah h1)
  · exact h2 h.hd
theorem right_new : Right newS := ⟨rfl, fun _ => rfl⟩
theorem links_append (h : List UInt8) (a b : List Evt) : links h (a ++ b) = links (links h a) b := by unfold links; rw [List.foldl_append]
theorem right_anchor {s : Ch} {m : Nat} (ok : Ok s m) (h : Right s) : Right (anchorS s) :=
  ⟨h.hd, fun _ => by
    show links s.bh (s.l.take (s.bn + s.l.length - s.bn).toNat) = s.hd
    rw [show (s.bn + (s.l.length : Int) - s.bn).toNat = s.l.length by omega, List.take_length]
    exact h.hd⟩
theorem right_prune {s : Ch} {m : Nat} {n : Int} (ok : Ok s m) (h : Right s) : Right (pruneS s n).1 := by
  unfold pruneS
  split
  · exact h
  · have := ok.le
    refine ⟨?_, fun hb => ?_⟩
    · show links (links s.bh (s.l.take (n - s.bn).toNat)) (s.l.drop (n - s.bn).toNat) = s.hd
      rw [← links_append, List.take_append_drop]
      exact h.hd
    · show links (links s.bh (s.l.take (n - s.bn).toNat)) ((s.l.drop (n - s.bn).toNat).take (s.an - n).toNat) = s.ah
      have e : s.l.take (n - s.bn).toNat ++ (s.l.drop (n - s.bn).toNat).take (s.an - n).toNat = s.l.take (s.an - s.bn).toNat := by
        rw [← List.take_add]
        congr 1
        omega
      rw [← links_append, e]
      exact h.ah (by omega)
theorem right_do {s : Ch} {m : Nat} {x : Deed} (ok : Ok s m) (h : Right s) : Right (doS s x) := by
  unfold doS
  split
  · unfold addS
    split
    · exact h
    · split
      · exact h
      · split
        · exact h
        · split
          · exact h
          · have := ok.le
            refine ⟨?_, fun hb => ?_⟩
            · show links s.bh (s.l ++ [_]) = nx s.hd _
              rw [links_append, h.hd]; rfl
            · show links s.bh ((s.l ++ [_]).take (s.an - s.bn).toNat) = s.ah
              rw [List.take_append_of_le_length (by omega)]
              exact h.ah hb
  · split
    · exact right_anchor ok h
    · split
      · exact right_prune ok h
      · exact h
theorem evs_cell {l : List Evt} {i f : Nat} {x : Evt} {v : Value} (h : l[i]? = some x) (hf : (ecells x)[f]? = some v) : (evs l)[i * 4 + f]? = some v := take_cell (evs_at h) hf
end Go.Proofs.YtjeiojibnmfibaaGreatDoor
