/-
  A builder that grows; texts counted, searched, replaced.
-/
import Derived.Test.YtnkmgkilfkgfhaaDoorPB
import Derived.Test.YtnkmgkilfkgfhaaDoorBld
import Derived.Lib.MakeNoZero
import Derived.Lib.IndexLaws
set_option linter.all false
set_option maxRecDepth 10000
namespace Go.Proofs.YtnkmgkilfkgfhaaDoor
open Go Hold
variable {E : World0} {w : World} {H R : HP} {K : Value → World → Prop}
theorem o_cap {P : Program} {t ty e : TypeId} {cs : Array Bool} {a : Option Addr} {l c : Nat} [i : Ul P t (.slice e)] : pv P (oBi .cap #[t] ty cs #[.slice a l c]) w K = K (.int .i64 c) w := pv_eq fun w => by
  simp [oBi, builtin, Builtin.cap_, run_underlying' i.ul, goInt]
theorem grow_spec {b : Nat} {l : List UInt8} {n : Nat} {p : Option Addr} (hp : p = none ∨ p = some ⟨b, 0, none⟩) {v : Value} (hn : n ≤ 1000000) (hl : l.length ≤ 1000000) {a : Option Addr} {c : Nat} (hv : v = .slice a l.length c) (hc : c ≤ 1000000)
    (h : sat E w (pts b (.cells [.pointer p, v].toArray 68 (0, 0)) * (osl 5 1 v l.length (l.map bv) * R))) (k : ∀ w' v', sat E w' (pts b (.cells [.pointer p, v'].toArray 68 (0, 0)) * (osl 5 1 v' l.length (l.map bv) * R)) → K (.tuple #[]) w') :
    Calls prog 75 #[.pointer (some ⟨b, 0, none⟩), .int .i64 (n : Int)] w (Ret K) := by
  subst hv
  refine c75 ?_
  unfold B75
  refine dr_sl h fun w h _ => ?_
  try simp only [↓o_nil, ↓o_field, ↓o_add, ↓o_sub, ↓o_mul, ↓o_lss, ↓o_leq, ↓o_gtr, ↓o_geq, ↓o_not, ↓o_pick, ↓o_eqInt, ↓o_neInt, ↓o_eqBool, ↓o_neBool, ↓o_eqPtr, ↓o_nePtr, ↓o_eqPtr', ↓o_eqSl, ↓o_neSl, ↓o_eqStr, ↓o_neStr, ↓o_len, ↓o_lenS, ↓o_min, ↓o_max, ↓o_extract, ↓o_convInt, ↓cd_true, ↓cd_false, ↓gate_tt, ↓gate_ff, ↓gate_tf, ↓gate_ft, ↓gate_undef, ↓o_bind, ↓stay_v, ↓pop_cons, ↓fin_nil, Option.isNone_none, Option.isNone_some, Bool.not_true, Bool.not_false, Nat.zero_add, decide_true, decide_false, if_true, if_false, Bool.false_eq_true, ↓reduceIte]
  refine ld_at (b := b) h ?_
  rw [o_cap]
  try simp only [↓o_nil, ↓o_field, ↓o_add, ↓o_sub, ↓o_mul, ↓o_lss, ↓o_leq, ↓o_gtr, ↓o_geq, ↓o_not, ↓o_pick, ↓o_eqInt, ↓o_neInt, ↓o_eqBool, ↓o_neBool, ↓o_eqPtr, ↓o_nePtr, ↓o_eqPtr', ↓o_eqSl, ↓o_neSl, ↓o_eqStr, ↓o_neStr, ↓o_len, ↓o_lenS, ↓o_min, ↓o_max, ↓o_extract, ↓o_convInt, ↓cd_true, ↓cd_false, ↓gate_tt, ↓gate_ff, ↓gate_tf, ↓gate_ft, ↓gate_undef, ↓o_bind, ↓stay_v, ↓pop_cons, ↓fin_nil, Option.isNone_none, Option.isNone_some, Bool.not_true, Bool.not_false, Nat.zero_add, decide_true, decide_false, if_true, if_false, Bool.false_eq_true, ↓reduceIte]
  refine ld_at (b := b) h ?_
  try simp only [↓o_nil, ↓o_field, ↓o_add, ↓o_sub, ↓o_mul, ↓o_lss, ↓o_leq, ↓o_gtr, ↓o_geq, ↓o_not, ↓o_pick, ↓o_eqInt, ↓o_neInt, ↓o_eqBool, ↓o_neBool, ↓o_eqPtr, ↓o_nePtr, ↓o_eqPtr', ↓o_eqSl, ↓o_neSl, ↓o_eqStr, ↓o_neStr, ↓o_len, ↓o_lenS, ↓o_min, ↓o_max, ↓o_extract, ↓o_convInt, ↓cd_true, ↓cd_false, ↓gate_tt, ↓gate_ff, ↓gate_tf, ↓gate_ft, ↓gate_undef, ↓o_bind, ↓stay_v, ↓pop_cons, ↓fin_nil, Option.isNone_none, Option.isNone_some, Bool.not_true, Bool.not_false, Nat.zero_add, decide_true, decide_false, if_true, if_false, Bool.false_eq_true, ↓reduceIte]
  have e1 : IntKind.i64.wrap (IntKind.i64.wrap (2 * (c : Int)) + (n : Int)) = ((2 * c + n : Nat) : Int) := by
    rw [i64_of (n := 2 * (c : Int)) (by omega) (by omega), i64_of (by omega) (by omega)]; omega
  rw [e1]
  obtain ⟨cs, hr, hge, hmx⟩ := Lib.run_makeNoZero (P := prog) w #[3] 23 5 (by kernel_rfl) (2 * c + n) (by omega)
  have h1 : (oCall (.func (.func 89) #[] #[]) #[.int .i64 ((2 * c + n : Nat) : Int)]).run prog w = (vN (Extern.BytealgMakeNoZero.makeNoZero #[3] #[23] #[.int .i64 ((2 * c + n : Nat) : Int)])).run prog w := by kernel_rfl
  refine ef_of (h1.trans (vN_run hr)) ?_
  have h := h.drew.drew.alloc (.cells cs 5 (0, 0))
  generalize hbn : w.heap.size = bn at *
  have hw : w.drew.drew.heap.size = bn := hbn
  rw [hw] at h
  refine st_at (b := b) h (st_at (b := b) h ?_)
  have hlc : l.length ≤ c := by
    obtain ⟨a', c', e, hc', _, _⟩ := osl_shape (h.drop.drop)
    cases e; exact hc'
  rw [o_slice_h (by omega) (by omega)]
  have ecut : cutA (some ⟨bn, 0, none⟩) cs.size 0 1 = some ⟨bn, 0, none⟩ := by
    unfold cutA; split
    · rfl
    · simp [Addr.add]
  rw [ecut, Int.toNat_natCast]
  try simp only [↓o_nil, ↓o_field, ↓o_add, ↓o_sub, ↓o_mul, ↓o_lss, ↓o_leq, ↓o_gtr, ↓o_geq, ↓o_not, ↓o_pick, ↓o_eqInt, ↓o_neInt, ↓o_eqBool, ↓o_neBool, ↓o_eqPtr, ↓o_nePtr, ↓o_eqPtr', ↓o_eqSl, ↓o_neSl, ↓o_eqStr, ↓o_neStr, ↓o_len, ↓o_lenS, ↓o_min, ↓o_max, ↓o_extract, ↓o_convInt, ↓cd_true, ↓cd_false, ↓gate_tt, ↓gate_ff, ↓gate_tf, ↓gate_ft, ↓gate_undef, ↓o_bind, ↓stay_v, ↓pop_cons, ↓fin_nil, Option.isNone_none, Option.isNone_some, Bool.not_true, Bool.not_false, Nat.zero_add, decide_true, decide_false, if_true, if_false, Bool.false_eq_true, ↓reduceIte]
  refine ld_at (b := b) h ?_
  have h : sat E (w.drew.drew.alloc (.cells cs 5 (0, 0))) (pts bn (.cells cs.toList.toArray 5 (0, 0)) * (pts b (.cells [.pointer p, .slice a l.length c].toArray 68 (0, 0)) * (osl 5 1 (.slice a l.length c) l.length (l.map bv) * R))) := by
    simpa using h
  have hwin := (Rds.osl (e := 5) (n := l.length) (v := .slice a l.length c) (xs := l.map bv) (sz := 1)).win (h.drop.drop.drop')
  refine copy_in (b := bn) h (news := l.map bv) (by simp) hwin (bv_one _) (by simp; omega) fun w h => ?_
  try simp only [↓o_nil, ↓o_field, ↓o_add, ↓o_sub, ↓o_mul, ↓o_lss, ↓o_leq, ↓o_gtr, ↓o_geq, ↓o_not, ↓o_pick, ↓o_eqInt, ↓o_neInt, ↓o_eqBool, ↓o_neBool, ↓o_eqPtr, ↓o_nePtr, ↓o_eqPtr', ↓o_eqSl, ↓o_neSl, ↓o_eqStr, ↓o_neStr, ↓o_len, ↓o_lenS, ↓o_min, ↓o_max, ↓o_extract, ↓o_convInt, ↓cd_true, ↓cd_false, ↓gate_tt, ↓gate_ff, ↓gate_tf, ↓gate_ft, ↓gate_undef, ↓o_bind, ↓stay_v, ↓pop_cons, ↓fin_nil, Option.isNone_none, Option.isNone_some, Bool.not_true, Bool.not_false, Nat.zero_add, decide_true, decide_false, if_true, if_false, Bool.false_eq_true, ↓reduceIte]
  have h := h.own b
  refine store_at (b := b) h rfl (by simp) fun w h => ?_
  refine k _ (.slice (some ⟨bn, 0, none⟩) l.length cs.size) ?_
  have hcsl : cs.size ≤ maxLen := hmx (by simp only [maxLen]; omega)
  have h2 : sat E w (pts bn (.cells (l.map bv ++ cs.toList.drop l.length).toArray 5 (0, 0)) * (pts b (.cells [.pointer p, .slice (some ⟨bn, 0, none⟩) l.length cs.size].toArray 68 (0, 0)) * (osl 5 1 (.slice a l.length c) l.length (l.map bv) * R))) := by
    have e : cs.toList.take 0 ++ l.map bv ++ cs.toList.drop (0 + (l.map bv).length) = l.map bv ++ cs.toList.drop l.length := by simp
    rw [e] at h
    exact h.perm (star_left_comm _ _ _)
  have h3 : sat E w (osl 5 1 (.slice (some ⟨bn, 0, none⟩) l.length cs.size) l.length (l.map bv) * (pts b (.cells [.pointer p, .slice (some ⟨bn, 0, none⟩) l.length cs.size].toArray 68 (0, 0)) * (osl 5 1 (.slice a l.length c) l.length (l.map bv) * R))) :=
    sat_osl.2 (.inr ⟨bn, cs.size, cs.toList.drop l.length, rfl, by simp, by simp; omega, by omega, by simp only [maxLen] at hcsl; omega, h2⟩)
  have h4 := h3.perm (star_left_comm _ _ _)
  exact (h4.perm (by ac_rfl : _ = osl 5 1 (.slice a l.length c) l.length (l.map bv) * (pts b (.cells [.pointer p, .slice (some ⟨bn, 0, none⟩) l.length cs.size].toArray 68 (0, 0)) * (osl 5 1 (.slice (some ⟨bn, 0, none⟩) l.length cs.size) l.length (l.map bv) * R)))).drop
/-- A builder that is new, made greater. -/
theorem Grow_spec {b n : Nat} (h : sat E w (pts b (.cells [.pointer none, .slice none 0 0].toArray 68 (0, 0)) * R)) (hn : n ≤ 1000000) (k : ∀ w', sat E w' (bld b [] * R) → K (.tuple #[]) w') :
    Calls prog 53 #[.pointer (some ⟨b, 0, none⟩), .int .i64 (n : Int)] w (Ret K) := by
  refine c53 ?_
  unfold B53
  refine copyCheck_spec (.inl rfl) h fun w h => ?_
  have hneg : ¬ ((n : Int) < 0) := by omega
  simp only [hneg, ↓o_nil, ↓o_field, ↓o_add, ↓o_sub, ↓o_mul, ↓o_lss, ↓o_leq, ↓o_gtr, ↓o_geq, ↓o_not, ↓o_pick, ↓o_eqInt, ↓o_neInt, ↓o_eqBool, ↓o_neBool, ↓o_eqPtr, ↓o_nePtr, ↓o_eqPtr', ↓o_eqSl, ↓o_neSl, ↓o_eqStr, ↓o_neStr, ↓o_len, ↓o_lenS, ↓o_min, ↓o_max, ↓o_extract, ↓o_convInt, ↓cd_true, ↓cd_false, ↓gate_tt, ↓gate_ff, ↓gate_tf, ↓gate_ft, ↓gate_undef, ↓o_bind, ↓stay_v, ↓pop_cons, ↓fin_nil, Option.isNone_none, Option.isNone_some, Bool.not_true, Bool.not_false, Nat.zero_add, decide_true, decide_false, if_true, if_false, Bool.false_eq_true, ↓reduceIte]
  refine jn_cut (fun σ w => σ = [] ∧ sat E w (pts b (.cells [.pointer (some ⟨b, 0, none⟩), .slice none 0 0].toArray 68 (0, 0)) * R)) (fun kk hkk => by (try simp only [hneg, ↓o_nil, ↓o_field, ↓o_add, ↓o_sub, ↓o_mul, ↓o_lss, ↓o_leq, ↓o_gtr, ↓o_geq, ↓o_not, ↓o_pick, ↓o_eqInt, ↓o_neInt, ↓o_eqBool, ↓o_neBool, ↓o_eqPtr, ↓o_nePtr, ↓o_eqPtr', ↓o_eqSl, ↓o_neSl, ↓o_eqStr, ↓o_neStr, ↓o_len, ↓o_lenS, ↓o_min, ↓o_max, ↓o_extract, ↓o_convInt, ↓cd_true, ↓cd_false, ↓gate_tt, ↓gate_ff, ↓gate_tf, ↓gate_ft, ↓gate_undef, ↓o_bind, ↓stay_v, ↓pop_cons, ↓fin_nil, Option.isNone_none, Option.isNone_some, Bool.not_true, Bool.not_false, Nat.zero_add, decide_true, decide_false, if_true, if_false, Bool.false_eq_true, ↓reduceIte]); exact hkk _ _ ⟨rfl, h⟩) ?_
  clear h
  rintro σ w ⟨rfl, h⟩
  try simp only [↓o_nil, ↓o_field, ↓o_add, ↓o_sub, ↓o_mul, ↓o_lss, ↓o_leq, ↓o_gtr, ↓o_geq, ↓o_not, ↓o_pick, ↓o_eqInt, ↓o_neInt, ↓o_eqBool, ↓o_neBool, ↓o_eqPtr, ↓o_nePtr, ↓o_eqPtr', ↓o_eqSl, ↓o_neSl, ↓o_eqStr, ↓o_neStr, ↓o_len, ↓o_lenS, ↓o_min, ↓o_max, ↓o_extract, ↓o_convInt, ↓cd_true, ↓cd_false, ↓gate_tt, ↓gate_ff, ↓gate_tf, ↓gate_ft, ↓gate_undef, ↓o_bind, ↓stay_v, ↓pop_cons, ↓fin_nil, Option.isNone_none, Option.isNone_some, Bool.not_true, Bool.not_false, Nat.zero_add, decide_true, decide_false, if_true, if_false, Bool.false_eq_true, ↓reduceIte]
  refine dr_sl h fun w h _ => ?_
  try simp only [↓o_nil, ↓o_field, ↓o_add, ↓o_sub, ↓o_mul, ↓o_lss, ↓o_leq, ↓o_gtr, ↓o_geq, ↓o_not, ↓o_pick, ↓o_eqInt, ↓o_neInt, ↓o_eqBool, ↓o_neBool, ↓o_eqPtr, ↓o_nePtr, ↓o_eqPtr', ↓o_eqSl, ↓o_neSl, ↓o_eqStr, ↓o_neStr, ↓o_len, ↓o_lenS, ↓o_min, ↓o_max, ↓o_extract, ↓o_convInt, ↓cd_true, ↓cd_false, ↓gate_tt, ↓gate_ff, ↓gate_tf, ↓gate_ft, ↓gate_undef, ↓o_bind, ↓stay_v, ↓pop_cons, ↓fin_nil, Option.isNone_none, Option.isNone_some, Bool.not_true, Bool.not_false, Nat.zero_add, decide_true, decide_false, if_true, if_false, Bool.false_eq_true, ↓reduceIte]
  refine ld_at (b := b) h ?_
  rw [o_cap]
  try simp only [↓o_nil, ↓o_field, ↓o_add, ↓o_sub, ↓o_mul, ↓o_lss, ↓o_leq, ↓o_gtr, ↓o_geq, ↓o_not, ↓o_pick, ↓o_eqInt, ↓o_neInt, ↓o_eqBool, ↓o_neBool, ↓o_eqPtr, ↓o_nePtr, ↓o_eqPtr', ↓o_eqSl, ↓o_neSl, ↓o_eqStr, ↓o_neStr, ↓o_len, ↓o_lenS, ↓o_min, ↓o_max, ↓o_extract, ↓o_convInt, ↓cd_true, ↓cd_false, ↓gate_tt, ↓gate_ff, ↓gate_tf, ↓gate_ft, ↓gate_undef, ↓o_bind, ↓stay_v, ↓pop_cons, ↓fin_nil, Option.isNone_none, Option.isNone_some, Bool.not_true, Bool.not_false, Nat.zero_add, decide_true, decide_false, if_true, if_false, Bool.false_eq_true, ↓reduceIte]
  refine ld_at (b := b) h ?_
  simp only [↓o_nil, ↓o_field, ↓o_add, ↓o_sub, ↓o_mul, ↓o_lss, ↓o_leq, ↓o_gtr, ↓o_geq, ↓o_not, ↓o_pick, ↓o_eqInt, ↓o_neInt, ↓o_eqBool, ↓o_neBool, ↓o_eqPtr, ↓o_nePtr, ↓o_eqPtr', ↓o_eqSl, ↓o_neSl, ↓o_eqStr, ↓o_neStr, ↓o_len, ↓o_lenS, ↓o_min, ↓o_max, ↓o_extract, ↓o_convInt, ↓cd_true, ↓cd_false, ↓gate_tt, ↓gate_ff, ↓gate_tf, ↓gate_ft, ↓gate_undef, ↓o_bind, ↓stay_v, ↓pop_cons, ↓fin_nil, Option.isNone_none, Option.isNone_some, Bool.not_true, Bool.not_false, Nat.zero_add, decide_true, decide_false, if_true, if_false, Bool.false_eq_true, ↓reduceIte, show IntKind.i64.wrap ((0 : Nat) - (0 : Nat) : Int) = 0 from rfl]
  have hP : sat E w (pts b (.cells [.pointer (some ⟨b, 0, none⟩), .slice none 0 0].toArray 68 (0, 0)) * (osl 5 1 (.slice none 0 0) ([] : List UInt8).length (([] : List UInt8).map bv) * R)) := (osl_nil h 5 1).perm (star_left_comm _ _ _)
  refine cd_dec (fun hlt => ?_) (fun hge => ?_)
  · refine grow_spec (l := []) (.inr rfl) hn (by simp) rfl (by decide) hP fun w v' h => ?_
    exact k _ (sat_bld.2 ⟨_, v', .inr rfl, h⟩)
  · exact k _ (sat_bld.2 ⟨_, _, .inr rfl, hP⟩)
theorem WriteString_spec {b : Nat} {l s : List UInt8} (h : sat E w (bld b l * R)) (hl : l.length + s.length ≤ 140737488355328) (k : ∀ w', sat E w' (bld b (l ++ s) * R) → K (.tuple #[.int .i64 s.length, .nilIface]) w') :
    Calls prog 55 #[.pointer (some ⟨b, 0, none⟩), tv s] w (Ret K) := by
  obtain ⟨p, v, hp, h⟩ := sat_bld.1 h
  refine c55 ?_
  unfold B55
  refine copyCheck_spec hp h fun w h => ?_
  try simp only [↓o_nil, ↓o_field, ↓o_add, ↓o_sub, ↓o_mul, ↓o_lss, ↓o_leq, ↓o_gtr, ↓o_geq, ↓o_not, ↓o_pick, ↓o_eqInt, ↓o_neInt, ↓o_eqBool, ↓o_neBool, ↓o_eqPtr, ↓o_nePtr, ↓o_eqPtr', ↓o_eqSl, ↓o_neSl, ↓o_eqStr, ↓o_neStr, ↓o_len, ↓o_lenS, ↓o_min, ↓o_max, ↓o_extract, ↓o_convInt, ↓cd_true, ↓cd_false, ↓gate_tt, ↓gate_ff, ↓gate_tf, ↓gate_ft, ↓gate_undef, ↓o_bind, ↓stay_v, ↓pop_cons, ↓fin_nil, Option.isNone_none, Option.isNone_some, Bool.not_true, Bool.not_false, Nat.zero_add, decide_true, decide_false, if_true, if_false, Bool.false_eq_true, ↓reduceIte]
  refine ld_at (b := b) h ?_
  refine append_str (v := v) h hl fun v2 w h => ?_
  try simp only [↓o_nil, ↓o_field, ↓o_add, ↓o_sub, ↓o_mul, ↓o_lss, ↓o_leq, ↓o_gtr, ↓o_geq, ↓o_not, ↓o_pick, ↓o_eqInt, ↓o_neInt, ↓o_eqBool, ↓o_neBool, ↓o_eqPtr, ↓o_nePtr, ↓o_eqPtr', ↓o_eqSl, ↓o_neSl, ↓o_eqStr, ↓o_neStr, ↓o_len, ↓o_lenS, ↓o_min, ↓o_max, ↓o_extract, ↓o_convInt, ↓cd_true, ↓cd_false, ↓gate_tt, ↓gate_ff, ↓gate_tf, ↓gate_ft, ↓gate_undef, ↓o_bind, ↓stay_v, ↓pop_cons, ↓fin_nil, Option.isNone_none, Option.isNone_some, Bool.not_true, Bool.not_false, Nat.zero_add, decide_true, decide_false, if_true, if_false, Bool.false_eq_true, ↓reduceIte]
  have h := h.own b
  refine store_at (b := b) h ?_ (by simp) fun w h => ?_
  · obtain ⟨a, c, rfl, _, _, _⟩ := osl_shape (h.perm (star_comm _ _) |>.perm (star_assoc _ _ _))
    rfl
  · rw [o_lenT]
    refine k _ (sat_bld.2 ⟨_, v2, .inr rfl, ?_⟩)
    have e : l.map bv ++ s.map bv = (l ++ s).map bv := by simp
    rw [e] at h
    simpa using h
/-- What count tells of noughts. -/
theorem Count_spec {s : List UInt8} (k : K (.int .i64 (s.count 0 : Nat)) w) : Calls prog 52 #[tv s, tv [0]] w (Ret K) := by
  refine c52 ?_
  unfold B52
  simp only [↓o_lenT, ↓o_nil, ↓o_field, ↓o_add, ↓o_sub, ↓o_mul, ↓o_lss, ↓o_leq, ↓o_gtr, ↓o_geq, ↓o_not, ↓o_pick, ↓o_eqInt, ↓o_neInt, ↓o_eqBool, ↓o_neBool, ↓o_eqPtr, ↓o_nePtr, ↓o_eqPtr', ↓o_eqSl, ↓o_neSl, ↓o_eqStr, ↓o_neStr, ↓o_len, ↓o_lenS, ↓o_min, ↓o_max, ↓o_extract, ↓o_convInt, ↓cd_true, ↓cd_false, ↓gate_tt, ↓gate_ff, ↓gate_tf, ↓gate_ft, ↓gate_undef, ↓o_bind, ↓stay_v, ↓pop_cons, ↓fin_nil, Option.isNone_none, Option.isNone_some, Bool.not_true, Bool.not_false, Nat.zero_add, decide_true, decide_false, if_true, if_false, Bool.false_eq_true, ↓reduceIte, show ([0] : List UInt8).length = 1 from rfl, show decide (((1 : Nat) : Int) = 0) = false from rfl, show decide (((1 : Nat) : Int) = 1) = true from rfl]
  rw [o_indexT (by decide) (by decide)]
  refine ef_ext (v := .int .i64 (s.count 0 : Nat)) (fun w => ?_) k
  have h1 : (oCall (.func (.func 73) #[] #[]) #[tv s, bv 0]).run prog w = (vN (Extern.BytealgCount.count #[.string ⟨s.toArray⟩, .int .u8 0])).run prog w := by kernel_rfl
  have e0 : bv (([0] : List UInt8).getD (Int.toNat 0) 0) = bv 0 := rfl
  rw [e0, h1]
  refine vN_run ?_
  have := Lib.run_countString (P := prog) ⟨s.toArray⟩ 0 w
  rw [this]
  rfl
theorem Index_spec {s : List UInt8} (k : K (.int .i64 (Lib.indexByte s 0)) w) : Calls prog 54 #[tv s, tv [0]] w (Ret K) := by
  refine c54 ?_
  unfold B54
  refine c76 ?_
  unfold B76
  by_cases hs : ([0] : List UInt8) = s
  · subst hs
    simp only [↓o_lenT, ↓o_eqT, decide_true, ↓o_nil, ↓o_field, ↓o_add, ↓o_sub, ↓o_mul, ↓o_lss, ↓o_leq, ↓o_gtr, ↓o_geq, ↓o_not, ↓o_pick, ↓o_eqInt, ↓o_neInt, ↓o_eqBool, ↓o_neBool, ↓o_eqPtr, ↓o_nePtr, ↓o_eqPtr', ↓o_eqSl, ↓o_neSl, ↓o_eqStr, ↓o_neStr, ↓o_len, ↓o_lenS, ↓o_min, ↓o_max, ↓o_extract, ↓o_convInt, ↓cd_true, ↓cd_false, ↓gate_tt, ↓gate_ff, ↓gate_tf, ↓gate_ft, ↓gate_undef, ↓o_bind, ↓stay_v, ↓pop_cons, ↓fin_nil, Option.isNone_none, Option.isNone_some, Bool.not_true, Bool.not_false, Nat.zero_add, decide_true, decide_false, if_true, if_false, Bool.false_eq_true, ↓reduceIte, show ([0] : List UInt8).length = 1 from rfl, show decide (((1 : Nat) : Int) = 0) = false from rfl]
    exact k
  have hne : decide (([0] : List UInt8) = s) = false := by rw [decide_eq_false_iff_not]; exact hs
  simp only [↓o_lenT, ↓o_eqT, hne, ↓o_nil, ↓o_field, ↓o_add, ↓o_sub, ↓o_mul, ↓o_lss, ↓o_leq, ↓o_gtr, ↓o_geq, ↓o_not, ↓o_pick, ↓o_eqInt, ↓o_neInt, ↓o_eqBool, ↓o_neBool, ↓o_eqPtr, ↓o_nePtr, ↓o_eqPtr', ↓o_eqSl, ↓o_neSl, ↓o_eqStr, ↓o_neStr, ↓o_len, ↓o_lenS, ↓o_min, ↓o_max, ↓o_extract, ↓o_convInt, ↓cd_true, ↓cd_false, ↓gate_tt, ↓gate_ff, ↓gate_tf, ↓gate_ft, ↓gate_undef, ↓o_bind, ↓stay_v, ↓pop_cons, ↓fin_nil, Option.isNone_none, Option.isNone_some, Bool.not_true, Bool.not_false, Nat.zero_add, decide_true, decide_false, if_true, if_false, Bool.false_eq_true, ↓reduceIte, show ([0] : List UInt8).length = 1 from rfl, show decide (((1 : Nat) : Int) = 0) = false from rfl, show decide (((1 : Nat) : Int) = 1) = true from rfl]
  rw [o_indexT (by decide) (by decide)]
  refine c90 ?_
  unfold B90
  refine ef_ext (v := .int .i64 (Lib.indexByte s 0)) (fun w => ?_) k
  have h1 : (oCall (.func (.func 99) #[] #[]) #[tv s, bv 0]).run prog w = (vN (Extern.BytealgIndexByte.indexByte #[.string ⟨s.toArray⟩, .int .u8 0])).run prog w := by kernel_rfl
  have e0 : bv (([0] : List UInt8).getD (Int.toNat 0) 0) = bv 0 := rfl
  rw [e0, h1]
  refine vN_run ?_
  have := Lib.run_indexByteString (P := prog) ⟨s.toArray⟩ 0 w
  rw [this]
  rfl
end Go.Proofs.YtnkmgkilfkgfhaaDoor
