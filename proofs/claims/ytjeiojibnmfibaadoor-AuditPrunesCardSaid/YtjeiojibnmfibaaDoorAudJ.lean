/-
  What must be whatever is asked of a chain.
-/
import Derived.Test.YtjeiojibnmfibaaDoorAudH
set_option linter.all false
set_option maxRecDepth 10000
namespace Go.Proofs.YtjeiojibnmfibaaDoor
open Go Hold
variable {E : World0} {w : World} {H R X : HP} {K : Value → World → Prop}
def lg : List UInt8 := [108, 111, 103, 105, 110]
def tu : List UInt8 := [116, 47, 117]
def tk : List UInt8 := [116, 105, 99, 107]
def x1 : Evt := ⟨1, 5, lg, tu⟩
def y1 : Evt := ⟨2, 6, tk, []⟩
def h1 : List UInt8 := nx zeros32 x1
def h2 : List UInt8 := nx h1 y1
theorem numT_small {n : Nat} (h : n < 16) (h0 : n ≠ 0) : numT (n : Int) = [98, dig n] := by
  unfold numT number
  rw [if_neg (by omega)]
  show numText (n : Int).toNat = _
  rw [Int.toNat_natCast]
  unfold numText
  rw [hexs_small h h0]; rfl
theorem row_x1 : rowE x1 = [4, 2, 98, 49, 2, 98, 53, 5, 108, 111, 103, 105, 110, 3, 116, 47, 117] := by
  unfold rowE colsE
  rw [show x1.n = ((1 : Nat) : Int) from rfl, show x1.t = ((5 : Nat) : Int) from rfl, numT_small (by decide) (by decide), numT_small (by decide) (by decide)]
  decide
theorem h1_ne : (h1 == zeros32) = false := by
  have e : sha (zeros32 ++ [4, 2, 98, 49, 2, 98, 53, 5, 108, 111, 103, 105, 110, 3, 116, 47, 117]) ≠ zeros32 := by decide +kernel
  have e2 : h1 = sha (zeros32 ++ [4, 2, 98, 49, 2, 98, 53, 5, 108, 111, 103, 105, 110, 3, 116, 47, 117]) := by unfold h1 nx; rw [row_x1]
  rw [e2]
  simpa using e
def q1 : Ch := ⟨0, zeros32, 0, zeros32, h1, 5, [x1]⟩
def q2 : Ch := ⟨0, zeros32, 1, h1, h1, 5, [x1]⟩
def q3 : Ch := ⟨1, h1, 1, h1, h1, 5, []⟩
def q4 : Ch := ⟨1, h1, 1, h1, h2, 6, [y1]⟩
theorem add1 : addS newS 5 lg tu = (q1, x1, 0) := rfl
theorem anc1 : anchorS q1 = q2 := rfl
theorem pru1 : pruneS q2 1 = (q3, 1, 0) := rfl
theorem add2 : addS q3 6 tk [] = (q4, y1, 0) := rfl
theorem ver1 : verifyS q4 = 0 := by
  unfold verifyS
  rw [if_neg]
  rintro (h | h)
  · exact h.2 rfl
  · exact h rfl
theorem chI_in {p : Nat} {s : Ch} {v : Value} (h : sat E w (X * chI p s v R)) : sat E w (chI p s v (X * R)) := by
  unfold chI at h ⊢
  exact h.perm (by ac_rfl)
theorem hash_in (h : sat E w H) {l : List UInt8} (hl : l.length = 32) {K : Value → World → Prop} (k : ∀ b w', sat E w' (pts b (.cells (l.map bv).toArray 36 (0, 0)) * H) → K (.pointer (some ⟨b, 0, none⟩)) w') :
    efv prog (Instr.alloc 36 true (.tuple #[])) w fun x w => efu prog (Instr.storeAt 36 x (.agg (l.map bv).toArray)) w fun _ w => K x w := hash_var h hl k
theorem evt_in (h : sat E w H) {x : Evt} {K : Value → World → Prop} (k : ∀ b w', sat E w' (pts b (.cells (ecells x).toArray 34 (0, 0)) * H) → K (.pointer (some ⟨b, 0, none⟩)) w') :
    efv prog (Instr.alloc 34 true (.tuple #[])) w fun x' w => efu prog (Instr.storeAt 34 x' (ev x)) w fun _ w => K x' w := by
  refine alloc_sl h fun b w h => ?_
  have h : sat E w (pts b (.cells (ecells zeroE).toArray 34 (0, 0)) * H) := h
  exact store_all (b := b) h (xs := ecells zeroE) (vs := ecells x) rfl rfl (ecells_one x) fun w h => k b w h
theorem live_spec (h : sat E w H) (hd : Dbt H) (k : ∀ w', sat E w' H → K (.bool true) w') : Calls prog 11 #[] w (Ret K) := by
  have t0 : ∀ n : Int, decide (n = n) = true := fun n => decide_eq_true rfl
  have t1 : decide (q2.an = 1) = true := rfl
  refine c11 ?_
  unfold B11
  refine New_spec h fun p w h => ?_
  simp only [↓o_eqPtr, Option.isNone_some, ↓cd_false]
  refine Add_spec (a := lg) (b := tu) ok_new (by omega) hd h fun v w h => ?_
  rw [add1] at h ⊢
  rw [o_extract, o_extract]
  refine evt_in h fun xb w h => ?_
  have o1 : Ok q1 1 := ok_add (t := 5) (a := lg) (b := tu) ok_new
  refine Anchor_spec o1 (by omega) (chI_in h) fun w h => ?_
  rw [anc1] at h ⊢
  have o2 : Ok q2 1 := ok_anchor o1
  rw [o_extract, o_extract]
  refine hash_in h o2.a fun hb w h => ?_
  refine Prune_spec o2 (by omega) hd.up (chI_in h) fun v w h => ?_
  rw [pru1] at h ⊢
  have o3 : Ok q3 1 := ok_prune (n := 1) o2
  rw [o_extract, o_extract]
  refine Add_spec (a := tk) (b := []) o3 (by omega) hd.up h fun v w h => ?_
  rw [add2] at h ⊢
  have o4 : Ok q4 2 := ok_add (t := 6) (a := tk) (b := []) o3
  rw [o_extract, o_extract]
  refine evt_in h fun yb w h => ?_
  try simp only [t0, t1, ↓o_nil, ↓o_field, ↓o_add, ↓o_sub, ↓o_mul, ↓o_lss, ↓o_leq, ↓o_gtr, ↓o_geq, ↓o_not, ↓o_pick, ↓o_eqInt, ↓o_neInt, ↓o_eqBool, ↓o_neBool, ↓o_eqPtr, ↓o_nePtr, ↓o_eqPtr', ↓o_eqSl, ↓o_neSl, ↓o_eqStr, ↓o_neStr, ↓o_len, ↓o_lenS, ↓o_min, ↓o_max, ↓o_extract, ↓o_convInt, ↓cd_true, ↓cd_false, ↓gate_tt, ↓gate_ff, ↓gate_tf, ↓gate_ft, ↓gate_undef, ↓o_bind, ↓stay_v, ↓pop_cons, ↓fin_nil, Option.isNone_none, Option.isNone_some, Bool.not_true, Bool.not_false, Nat.zero_add, decide_true, decide_false, if_true, if_false, Bool.false_eq_true, ↓reduceIte]
  refine ld_in (b := xb) (v := .int .i64 1) h rfl ?_
  try simp only [t0, t1, ↓o_nil, ↓o_field, ↓o_add, ↓o_sub, ↓o_mul, ↓o_lss, ↓o_leq, ↓o_gtr, ↓o_geq, ↓o_not, ↓o_pick, ↓o_eqInt, ↓o_neInt, ↓o_eqBool, ↓o_neBool, ↓o_eqPtr, ↓o_nePtr, ↓o_eqPtr', ↓o_eqSl, ↓o_neSl, ↓o_eqStr, ↓o_neStr, ↓o_len, ↓o_lenS, ↓o_min, ↓o_max, ↓o_extract, ↓o_convInt, ↓cd_true, ↓cd_false, ↓gate_tt, ↓gate_ff, ↓gate_tf, ↓gate_ft, ↓gate_undef, ↓o_bind, ↓stay_v, ↓pop_cons, ↓fin_nil, Option.isNone_none, Option.isNone_some, Bool.not_true, Bool.not_false, Nat.zero_add, decide_true, decide_false, if_true, if_false, Bool.false_eq_true, ↓reduceIte]
  refine ld_agg (b := hb) h (by simpa using o2.a) ?_
  try simp only [t0, t1, ↓o_nil, ↓o_field, ↓o_add, ↓o_sub, ↓o_mul, ↓o_lss, ↓o_leq, ↓o_gtr, ↓o_geq, ↓o_not, ↓o_pick, ↓o_eqInt, ↓o_neInt, ↓o_eqBool, ↓o_neBool, ↓o_eqPtr, ↓o_nePtr, ↓o_eqPtr', ↓o_eqSl, ↓o_neSl, ↓o_eqStr, ↓o_neStr, ↓o_len, ↓o_lenS, ↓o_min, ↓o_max, ↓o_extract, ↓o_convInt, ↓cd_true, ↓cd_false, ↓gate_tt, ↓gate_ff, ↓gate_tf, ↓gate_ft, ↓gate_undef, ↓o_bind, ↓stay_v, ↓pop_cons, ↓fin_nil, Option.isNone_none, Option.isNone_some, Bool.not_true, Bool.not_false, Nat.zero_add, decide_true, decide_false, if_true, if_false, Bool.false_eq_true, ↓reduceIte]
  refine zeroH_build ?_
  try simp only [t0, t1, ↓o_nil, ↓o_field, ↓o_add, ↓o_sub, ↓o_mul, ↓o_lss, ↓o_leq, ↓o_gtr, ↓o_geq, ↓o_not, ↓o_pick, ↓o_eqInt, ↓o_neInt, ↓o_eqBool, ↓o_neBool, ↓o_eqPtr, ↓o_nePtr, ↓o_eqPtr', ↓o_eqSl, ↓o_neSl, ↓o_eqStr, ↓o_neStr, ↓o_len, ↓o_lenS, ↓o_min, ↓o_max, ↓o_extract, ↓o_convInt, ↓cd_true, ↓cd_false, ↓gate_tt, ↓gate_ff, ↓gate_tf, ↓gate_ft, ↓gate_undef, ↓o_bind, ↓stay_v, ↓pop_cons, ↓fin_nil, Option.isNone_none, Option.isNone_some, Bool.not_true, Bool.not_false, Nat.zero_add, decide_true, decide_false, if_true, if_false, Bool.false_eq_true, ↓reduceIte]
  rw [neq36 (show q2.ah.length = 32 from o2.a) (show zeros32.length = 32 from rfl), show (q2.ah == zeros32) = false from h1_ne]
  try simp only [t0, t1, ↓o_nil, ↓o_field, ↓o_add, ↓o_sub, ↓o_mul, ↓o_lss, ↓o_leq, ↓o_gtr, ↓o_geq, ↓o_not, ↓o_pick, ↓o_eqInt, ↓o_neInt, ↓o_eqBool, ↓o_neBool, ↓o_eqPtr, ↓o_nePtr, ↓o_eqPtr', ↓o_eqSl, ↓o_neSl, ↓o_eqStr, ↓o_neStr, ↓o_len, ↓o_lenS, ↓o_min, ↓o_max, ↓o_extract, ↓o_convInt, ↓cd_true, ↓cd_false, ↓gate_tt, ↓gate_ff, ↓gate_tf, ↓gate_ft, ↓gate_undef, ↓o_bind, ↓stay_v, ↓pop_cons, ↓fin_nil, Option.isNone_none, Option.isNone_some, Bool.not_true, Bool.not_false, Nat.zero_add, decide_true, decide_false, if_true, if_false, Bool.false_eq_true, ↓reduceIte]
  refine ld_in (b := yb) (v := .int .i64 2) h rfl ?_
  try simp only [t0, t1, ↓o_nil, ↓o_field, ↓o_add, ↓o_sub, ↓o_mul, ↓o_lss, ↓o_leq, ↓o_gtr, ↓o_geq, ↓o_not, ↓o_pick, ↓o_eqInt, ↓o_neInt, ↓o_eqBool, ↓o_neBool, ↓o_eqPtr, ↓o_nePtr, ↓o_eqPtr', ↓o_eqSl, ↓o_neSl, ↓o_eqStr, ↓o_neStr, ↓o_len, ↓o_lenS, ↓o_min, ↓o_max, ↓o_extract, ↓o_convInt, ↓cd_true, ↓cd_false, ↓gate_tt, ↓gate_ff, ↓gate_tf, ↓gate_ft, ↓gate_undef, ↓o_bind, ↓stay_v, ↓pop_cons, ↓fin_nil, Option.isNone_none, Option.isNone_some, Bool.not_true, Bool.not_false, Nat.zero_add, decide_true, decide_false, if_true, if_false, Bool.false_eq_true, ↓reduceIte]
  refine Verify_spec o4 (by omega) hd.up (chI_in h) fun w h => ?_
  rw [ver1]
  try simp only [t0, t1, ↓o_nil, ↓o_field, ↓o_add, ↓o_sub, ↓o_mul, ↓o_lss, ↓o_leq, ↓o_gtr, ↓o_geq, ↓o_not, ↓o_pick, ↓o_eqInt, ↓o_neInt, ↓o_eqBool, ↓o_neBool, ↓o_eqPtr, ↓o_nePtr, ↓o_eqPtr', ↓o_eqSl, ↓o_neSl, ↓o_eqStr, ↓o_neStr, ↓o_len, ↓o_lenS, ↓o_min, ↓o_max, ↓o_extract, ↓o_convInt, ↓cd_true, ↓cd_false, ↓gate_tt, ↓gate_ff, ↓gate_tf, ↓gate_ft, ↓gate_undef, ↓o_bind, ↓stay_v, ↓pop_cons, ↓fin_nil, Option.isNone_none, Option.isNone_some, Bool.not_true, Bool.not_false, Nat.zero_add, decide_true, decide_false, if_true, if_false, Bool.false_eq_true, ↓reduceIte]
  have h := ((h.lose yb).lose hb).lose xb
  unfold chI at h
  exact k _ h.drop.drop
end Go.Proofs.YtjeiojibnmfibaaDoor
