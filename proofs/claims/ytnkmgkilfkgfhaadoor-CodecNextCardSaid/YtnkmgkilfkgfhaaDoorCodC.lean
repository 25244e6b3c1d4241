/-
  A builder of texts.
-/
import Derived.Test.YtnkmgkilfkgfhaaDoorPB
import Derived.Test.YtnkmgkilfkgfhaaDoorStrs
import Derived.Lib.MakeNoZero
import Derived.Lib.IndexLaws
set_option linter.all false
set_option maxRecDepth 10000
namespace Go.Proofs.YtnkmgkilfkgfhaaDoor
open Go Hold
variable {E : World0} {w : World} {H R : HP} {K : Value → World → Prop}
/-- A builder at b that holds l. -/
def bld (b : Nat) (l : List UInt8) : HP := ex fun q : Option Addr × Value => pur (q.1 = none ∨ q.1 = some ⟨b, 0, none⟩) * (pts b (.cells [.pointer q.1, q.2].toArray 68 (0, 0)) * osl 5 1 q.2 l.length (l.map bv))
theorem sat_bld {b : Nat} {l : List UInt8} : sat E w (bld b l * R) ↔ ∃ p v, (p = none ∨ p = some ⟨b, 0, none⟩) ∧ sat E w (pts b (.cells [.pointer p, v].toArray 68 (0, 0)) * (osl 5 1 v l.length (l.map bv) * R)) := by
  unfold bld
  rw [sat_ex_star]
  constructor
  · rintro ⟨⟨p, v⟩, h⟩
    simp only [star_assoc] at h
    rw [sat_pur_star] at h
    exact ⟨p, v, h.1, h.2⟩
  · rintro ⟨p, v, hp, h⟩
    refine ⟨(p, v), ?_⟩
    simp only [star_assoc]
    rw [sat_pur_star]
    exact ⟨hp, h⟩
theorem copyCheck_spec {b : Nat} {p : Option Addr} {v : Value} (hp : p = none ∨ p = some ⟨b, 0, none⟩) (h : sat E w (pts b (.cells [.pointer p, v].toArray 68 (0, 0)) * R))
    (k : ∀ w', sat E w' (pts b (.cells [.pointer (some ⟨b, 0, none⟩), v].toArray 68 (0, 0)) * R) → K (.tuple #[]) w') : Calls prog 74 #[.pointer (some ⟨b, 0, none⟩)] w (Ret K) := by
  refine c74 ?_
  unfold B74
  try simp only [↓o_nil, ↓o_field, ↓o_add, ↓o_sub, ↓o_mul, ↓o_lss, ↓o_leq, ↓o_gtr, ↓o_geq, ↓o_not, ↓o_pick, ↓o_eqInt, ↓o_neInt, ↓o_eqBool, ↓o_neBool, ↓o_eqPtr, ↓o_nePtr, ↓o_eqPtr', ↓o_eqSl, ↓o_neSl, ↓o_eqStr, ↓o_neStr, ↓o_len, ↓o_lenS, ↓o_min, ↓o_max, ↓o_extract, ↓o_convInt, ↓cd_true, ↓cd_false, ↓gate_tt, ↓gate_ff, ↓gate_tf, ↓gate_ft, ↓gate_undef, ↓o_bind, ↓stay_v, ↓pop_cons, ↓fin_nil, Option.isNone_none, Option.isNone_some, Bool.not_true, Bool.not_false, Nat.zero_add, decide_true, decide_false, if_true, if_false, Bool.false_eq_true, ↓reduceIte]
  refine ld_at h ?_
  have hb := h.pts_get
  rcases hp with rfl | rfl
  · simp only [↓o_nil, ↓o_field, ↓o_add, ↓o_sub, ↓o_mul, ↓o_lss, ↓o_leq, ↓o_gtr, ↓o_geq, ↓o_not, ↓o_pick, ↓o_eqInt, ↓o_neInt, ↓o_eqBool, ↓o_neBool, ↓o_eqPtr, ↓o_nePtr, ↓o_eqPtr', ↓o_eqSl, ↓o_neSl, ↓o_eqStr, ↓o_neStr, ↓o_len, ↓o_lenS, ↓o_min, ↓o_max, ↓o_extract, ↓o_convInt, ↓cd_true, ↓cd_false, ↓gate_tt, ↓gate_ff, ↓gate_tf, ↓gate_ft, ↓gate_undef, ↓o_bind, ↓stay_v, ↓pop_cons, ↓fin_nil, Option.isNone_none, Option.isNone_some, Bool.not_true, Bool.not_false, Nat.zero_add, decide_true, decide_false, if_true, if_false, Bool.false_eq_true, ↓reduceIte]
    obtain ⟨j, hj, hj2⟩ : ∃ j, prog.info? 68 = some j ∧ j.size = 2 := by
      have := (aggC_68).size
      cases hi : prog.info? 68 with
      | none => rw [hi] at this; cases this
      | some j => rw [hi] at this; exact ⟨j, rfl, by simpa using this⟩
    refine efv_of (Lib.run_to_unsafe (P := prog) w (t := 68) (e := 68) (j := j) (cells := 2) ⟨b, 0, none⟩ (by kernel_rfl) (by kernel_rfl) hj (by omega) (by simp [World.shape?, hb]) (by simp)) ?_
    refine ef_ext (v := .pointer (some ⟨b, 0, none⟩)) (fun w => by kernel_rfl) ?_
    refine efv_of (Lib.run_from_unsafe (P := prog) w (u := 68) (e := 68) (j := j) (cells := 2) ⟨b, 0, none⟩ (by kernel_rfl) (by kernel_rfl) hj (by simp [World.shape?, hb]) (by kernel_rfl)) ?_
    refine store_at h rfl (by simp) fun w h => ?_
    exact k _ h
  · simp only [↓o_nil, ↓o_field, ↓o_add, ↓o_sub, ↓o_mul, ↓o_lss, ↓o_leq, ↓o_gtr, ↓o_geq, ↓o_not, ↓o_pick, ↓o_eqInt, ↓o_neInt, ↓o_eqBool, ↓o_neBool, ↓o_eqPtr, ↓o_nePtr, ↓o_eqPtr', ↓o_eqSl, ↓o_neSl, ↓o_eqStr, ↓o_neStr, ↓o_len, ↓o_lenS, ↓o_min, ↓o_max, ↓o_extract, ↓o_convInt, ↓cd_true, ↓cd_false, ↓gate_tt, ↓gate_ff, ↓gate_tf, ↓gate_ft, ↓gate_undef, ↓o_bind, ↓stay_v, ↓pop_cons, ↓fin_nil, Option.isNone_none, Option.isNone_some, Bool.not_true, Bool.not_false, Nat.zero_add, decide_true, decide_false, if_true, if_false, Bool.false_eq_true, ↓reduceIte]
    refine ld_at h ?_
    have hn : ∀ {xo yo : Operand} {K : Value → World → Prop} {w : World}, pvv prog (oEq .neq 66 xo yo (.pointer (some ⟨b, 0, none⟩)) (.pointer (some ⟨b, 0, none⟩))) w K = K (.bool false) w := fun {xo yo K w} => pvv_eq fun w => by
      obtain ⟨j, hj, hj2⟩ : ∃ j, prog.info? 68 = some j ∧ j.size = 2 := by
        have := (aggC_68).size
        cases hi : prog.info? 68 with
        | none => rw [hi] at this; cases this
        | some j => rw [hi] at this; exact ⟨j, rfl, by simpa using this⟩
      have := Lib.run_neq_ptr_same (P := prog) w (tp := 66) (te := 68) (j := j) ⟨b, 0, none⟩ (by kernel_rfl) hj
      simp [oEq, eqGuard, this]
    rw [hn, cd_false]
    exact k _ h
theorem String_spec (h : sat E w H) {b : Nat} {l : List UInt8} [s : Split H (bld b l) R] (h0 : l ≠ []) (hl : l.length ≤ 9223372036854775807) (k : ∀ w', sat E w' R → K (tv l) w') : Calls prog 57 #[.pointer (some ⟨b, 0, none⟩)] w (Ret K) := by
  obtain ⟨p, v, hp, h⟩ := sat_bld.1 (h.split (bld b l))
  refine c57 ?_
  unfold B57
  have hl0 : 0 < l.length := List.length_pos_iff.2 h0
  have h := h.perm (star_left_comm _ _ _)
  obtain ⟨bq, c, sp, rfl, _, hc, hP, _⟩ := osl_open h hl0
  clear h
  have h := hP
  clear hP
  refine dr_sl h fun w h _ => ?_
  try simp only [↓o_nil, ↓o_field, ↓o_add, ↓o_sub, ↓o_mul, ↓o_lss, ↓o_leq, ↓o_gtr, ↓o_geq, ↓o_not, ↓o_pick, ↓o_eqInt, ↓o_neInt, ↓o_eqBool, ↓o_neBool, ↓o_eqPtr, ↓o_nePtr, ↓o_eqPtr', ↓o_eqSl, ↓o_neSl, ↓o_eqStr, ↓o_neStr, ↓o_len, ↓o_lenS, ↓o_min, ↓o_max, ↓o_extract, ↓o_convInt, ↓cd_true, ↓cd_false, ↓gate_tt, ↓gate_ff, ↓gate_tf, ↓gate_ft, ↓gate_undef, ↓o_bind, ↓stay_v, ↓pop_cons, ↓fin_nil, Option.isNone_none, Option.isNone_some, Bool.not_true, Bool.not_false, Nat.zero_add, decide_true, decide_false, if_true, if_false, Bool.false_eq_true, ↓reduceIte]
  refine ld_at (b := b) h (ld_at (b := b) h ?_)
  try simp only [↓o_nil, ↓o_field, ↓o_add, ↓o_sub, ↓o_mul, ↓o_lss, ↓o_leq, ↓o_gtr, ↓o_geq, ↓o_not, ↓o_pick, ↓o_eqInt, ↓o_neInt, ↓o_eqBool, ↓o_neBool, ↓o_eqPtr, ↓o_nePtr, ↓o_eqPtr', ↓o_eqSl, ↓o_neSl, ↓o_eqStr, ↓o_neStr, ↓o_len, ↓o_lenS, ↓o_min, ↓o_max, ↓o_extract, ↓o_convInt, ↓cd_true, ↓cd_false, ↓gate_tt, ↓gate_ff, ↓gate_tf, ↓gate_ft, ↓gate_undef, ↓o_bind, ↓stay_v, ↓pop_cons, ↓fin_nil, Option.isNone_none, Option.isNone_some, Bool.not_true, Bool.not_false, Nat.zero_add, decide_true, decide_false, if_true, if_false, Bool.false_eq_true, ↓reduceIte]
  refine unsafe_data (by omega) ?_
  refine st_at (b := b) h ?_
  refine unsafe_str (b := bq) h (by kernel_rfl) h0 hl fun fr w h => ?_
  refine st_at (b := b) h (st_at (b := b) h ?_)
  exact k _ h.drop.drop
end Go.Proofs.YtnkmgkilfkgfhaaDoor

/-
  A builder that grows; texts counted, searched, replaced.
-/
set_option linter.all false
set_option maxRecDepth 10000
namespace Go.Proofs.YtnkmgkilfkgfhaaDoor
open Go Hold
variable {E : World0} {w : World} {H R : HP} {K : Value → World → Prop}
theorem o_cap {P : Program} {t ty e : TypeId} {cs : Array Bool} {a : Option Addr} {l c : Nat} [i : Ul P t (.slice e)] : pv P (oBi .cap #[t] ty cs #[.slice a l c]) w K = K (.int .i64 c) w := pv_eq fun w => by
  simp [oBi, builtin, Builtin.cap_, run_underlying' i.ul, goInt]
theorem grow_spec {b : Nat} {l : List UInt8} {n : Nat} {p : Option Addr} (hp : p = none ∨ p = some ⟨b, 0, none⟩) {v : Value} (hn : n ≤ 1000000) (hl : l.length ≤ 1000000) {a : Option Addr} {c : Nat} (hv : v = .slice a l.length c) (hc : c ≤ 1000000)
    (h : sat E w (pts b (.cells [.pointer p, v].toArray 68 (0, 0)) * (osl 5 1 v l.length (l.map bv) * R))) (k : ∀ w' v', sat E w' (pts b (.cells [.pointer p, v'].toArray 68 (0, 0)) * (osl 5 1 v' l.length (l.map bv) * R)) → K (.tuple #[]) w') :
    Calls prog 75 #[.pointer (some ⟨b, 0, none⟩), .int .i64 (n : Int)] w (Ret K) := by
  subst hv
  refine c75 ?_
  unfold B75
  refine dr_sl h fun w h _ => ?_
  try simp only [↓o_nil, ↓o_field, ↓o_add, ↓o_sub, ↓o_mul, ↓o_lss, ↓o_leq, ↓o_gtr, ↓o_geq, ↓o_not, ↓o_pick, ↓o_eqInt, ↓o_neInt, ↓o_eqBool, ↓o_neBool, ↓o_eqPtr, ↓o_nePtr, ↓o_eqPtr', ↓o_eqSl, ↓o_neSl, ↓o_eqStr, ↓o_neStr, ↓o_len, ↓o_lenS, ↓o_min, ↓o_max, ↓o_extract, ↓o_convInt, ↓cd_true, ↓cd_false, ↓gate_tt, ↓gate_ff, ↓gate_tf, ↓gate_ft, ↓gate_undef, ↓o_bind, ↓stay_v, ↓pop_cons, ↓fin_nil, Option.isNone_none, Option.isNone_some, Bool.not_true, Bool.not_false, Nat.zero_add, decide_true, decide_false, if_true, if_false, Bool.false_eq_true, ↓reduceIte]
  refine ld_at (b := b) h ?_
  rw [o_cap]
  try simp only [↓o_nil, ↓o_field, ↓o_add, ↓o_sub, ↓o_mul, ↓o_lss, ↓o_leq, ↓o_gtr, ↓o_geq, ↓o_not, ↓o_pick, ↓o_eqInt, ↓o_neInt, ↓o_eqBool, ↓o_neBool, ↓o_eqPtr, ↓o_nePtr, ↓o_eqPtr', ↓o_eqSl, ↓o_neSl, ↓o_eqStr, ↓o_neStr, ↓o_len, ↓o_lenS, ↓o_min, ↓o_max, ↓o_extract, ↓o_convInt, ↓cd_true, ↓cd_false, ↓gate_tt, ↓gate_ff, ↓gate_tf, ↓gate_ft, ↓gate_undef, ↓o_bind, ↓stay_v, ↓pop_cons, ↓fin_nil, Option.isNone_none, Option.isNone_some, Bool.not_true, Bool.not_false, Nat.zero_add, decide_true, decide_false, if_true, if_false, Bool.false_eq_true, ↓reduceIte]
  refine ld_at (b := b) h ?_
  try simp only [↓o_nil, ↓o_field, ↓o_add, ↓o_sub, ↓o_mul, ↓o_lss, ↓o_leq, ↓o_gtr, ↓o_geq, ↓o_not, ↓o_pick, ↓o_eqInt, ↓o_neInt, ↓o_eqBool, ↓o_neBool, ↓o_eqPtr, ↓o_nePtr, ↓o_eqPtr', ↓o_eqSl, ↓o_neSl, ↓o_eqStr, ↓o_neStr, ↓o_len, ↓o_lenS, ↓o_min, ↓o_max, ↓o_extract, ↓o_convInt, ↓cd_true, ↓cd_false, ↓gate_tt, ↓gate_ff, ↓gate_tf, ↓gate_ft, ↓gate_undef, ↓o_bind, ↓stay_v, ↓pop_cons, ↓fin_nil, Option.isNone_none, Option.isNone_some, Bool.not_true, Bool.not_false, Nat.zero_add, decide_true, decide_false, if_true, if_false, Bool.false_eq_true, ↓reduceIte]
  have e1 : IntKind.i64.wrap (IntKind.i64.wrap (2 * (c : Int)) + (n : Int)) = ((2 * c + n : Nat) : Int) := by
    rw [i64_of (n := 2 * (c : Int)) (by omega) (by omega), i64_of (by omega) (by omega)]; omega
  rw [e1]
  obtain ⟨cs, hr, hge, hmx⟩ := Lib.run_makeNoZero (P := prog) w #[3] 23 5 (by kernel_rfl) (2 * c + n) (by omega)
  have h1 : (oCall (.func (.func 89) #[] #[]) #[.int .i64 ((2 * c + n : Nat) : Int)]).run prog w = (vN (Extern.BytealgMakeNoZero.makeNoZero #[3] #[23] #[.int .i64 ((2 * c + n : Nat) : Int)])).run prog w := by kernel_rfl
  refine ef_of (h1.trans (vN_run hr)) ?_
  have h := h.drew.drew.alloc (.cells cs 5 (0, 0))
  generalize hbn : w.heap.size = bn at *
  have hw : w.drew.drew.heap.size = bn := hbn
  rw [hw] at h
  refine st_at (b := b) h (st_at (b := b) h ?_)
  have hlc : l.length ≤ c := by
    obtain ⟨a', c', e, hc', _, _⟩ := osl_shape (h.drop.drop)
    cases e; exact hc'
  rw [o_slice_h (by omega) (by omega)]
  have ecut : cutA (some ⟨bn, 0, none⟩) cs.size 0 1 = some ⟨bn, 0, none⟩ := by
    unfold cutA; split
    · rfl
    · simp [Addr.add]
  rw [ecut, Int.toNat_natCast]
  try simp only [↓o_nil, ↓o_field, ↓o_add, ↓o_sub, ↓o_mul, ↓o_lss, ↓o_leq, ↓o_gtr, ↓o_geq, ↓o_not, ↓o_pick, ↓o_eqInt, ↓o_neInt, ↓o_eqBool, ↓o_neBool, ↓o_eqPtr, ↓o_nePtr, ↓o_eqPtr', ↓o_eqSl, ↓o_neSl, ↓o_eqStr, ↓o_neStr, ↓o_len, ↓o_lenS, ↓o_min, ↓o_max, ↓o_extract, ↓o_convInt, ↓cd_true, ↓cd_false, ↓gate_tt, ↓gate_ff, ↓gate_tf, ↓gate_ft, ↓gate_undef, ↓o_bind, ↓stay_v, ↓pop_cons, ↓fin_nil, Option.isNone_none, Option.isNone_some, Bool.not_true, Bool.not_false, Nat.zero_add, decide_true, decide_false, if_true, if_false, Bool.false_eq_true, ↓reduceIte]
  refine ld_at (b := b) h ?_
  have h : sat E (w.drew.drew.alloc (.cells cs 5 (0, 0))) (pts bn (.cells cs.toList.toArray 5 (0, 0)) * (pts b (.cells [.pointer p, .slice a l.length c].toArray 68 (0, 0)) * (osl 5 1 (.slice a l.length c) l.length (l.map bv) * R))) := by
    simpa using h
  have hwin := (Rds.osl (e := 5) (n := l.length) (v := .slice a l.length c) (xs := l.map bv) (sz := 1)).win (h.drop.drop.drop')
  refine copy_in (b := bn) h (news := l.map bv) (by simp) hwin (bv_one _) (by simp; omega) fun w h => ?_
  try simp only [↓o_nil, ↓o_field, ↓o_add, ↓o_sub, ↓o_mul, ↓o_lss, ↓o_leq, ↓o_gtr, ↓o_geq, ↓o_not, ↓o_pick, ↓o_eqInt, ↓o_neInt, ↓o_eqBool, ↓o_neBool, ↓o_eqPtr, ↓o_nePtr, ↓o_eqPtr', ↓o_eqSl, ↓o_neSl, ↓o_eqStr, ↓o_neStr, ↓o_len, ↓o_lenS, ↓o_min, ↓o_max, ↓o_extract, ↓o_convInt, ↓cd_true, ↓cd_false, ↓gate_tt, ↓gate_ff, ↓gate_tf, ↓gate_ft, ↓gate_undef, ↓o_bind, ↓stay_v, ↓pop_cons, ↓fin_nil, Option.isNone_none, Option.isNone_some, Bool.not_true, Bool.not_false, Nat.zero_add, decide_true, decide_false, if_true, if_false, Bool.false_eq_true, ↓reduceIte]
  have h := h.own b
  refine store_at (b := b) h rfl (by simp) fun w h => ?_
  refine k _ (.slice (some ⟨bn, 0, none⟩) l.length cs.size) ?_
  have hcsl : cs.size ≤ maxLen := hmx (by simp only [maxLen]; omega)
  have h2 : sat E w (pts bn (.cells (l.map bv ++ cs.toList.drop l.length).toArray 5 (0, 0)) * (pts b (.cells [.pointer p, .slice (some ⟨bn, 0, none⟩) l.length cs.size].toArray 68 (0, 0)) * (osl 5 1 (.slice a l.length c) l.length (l.map bv) * R))) := by
    have e : cs.toList.take 0 ++ l.map bv ++ cs.toList.drop (0 + (l.map bv).length) = l.map bv ++ cs.toList.drop l.length := by simp
    rw [e] at h
    exact h.perm (star_left_comm _ _ _)
  have h3 : sat E w (osl 5 1 (.slice (some ⟨bn, 0, none⟩) l.length cs.size) l.length (l.map bv) * (pts b (.cells [.pointer p, .slice (some ⟨bn, 0, none⟩) l.length cs.size].toArray 68 (0, 0)) * (osl 5 1 (.slice a l.length c) l.length (l.map bv) * R))) :=
    sat_osl.2 (.inr ⟨bn, cs.size, cs.toList.drop l.length, rfl, by simp, by simp; omega, by omega, by simp only [maxLen] at hcsl; omega, h2⟩)
  have h4 := h3.perm (star_left_comm _ _ _)
  exact (h4.perm (by ac_rfl : _ = osl 5 1 (.slice a l.length c) l.length (l.map bv) * (pts b (.cells [.pointer p, .slice (some ⟨bn, 0, none⟩) l.length cs.size].toArray 68 (0, 0)) * (osl 5 1 (.slice (some ⟨bn, 0, none⟩) l.length cs.size) l.length (l.map bv) * R)))).drop
/-- A builder that is new, made greater. -/
theorem Grow_spec {b n : Nat} (h : sat E w (pts b (.cells [.pointer none, .slice none 0 0].toArray 68 (0, 0)) * R)) (hn : n ≤ 1000000) (k : ∀ w', sat E w' (bld b [] * R) → K (.tuple #[]) w') :
    Calls prog 53 #[.pointer (some ⟨b, 0, none⟩), .int .i64 (n : Int)] w (Ret K) := by
  refine c53 ?_
  unfold B53
  refine copyCheck_spec (.inl rfl) h fun w h => ?_
  have hneg : ¬ ((n : Int) < 0) := by omega
  simp only [hneg, ↓o_nil, ↓o_field, ↓o_add, ↓o_sub, ↓o_mul, ↓o_lss, ↓o_leq, ↓o_gtr, ↓o_geq, ↓o_not, ↓o_pick, ↓o_eqInt, ↓o_neInt, ↓o_eqBool, ↓o_neBool, ↓o_eqPtr, ↓o_nePtr, ↓o_eqPtr', ↓o_eqSl, ↓o_neSl, ↓o_eqStr, ↓o_neStr, ↓o_len, ↓o_lenS, ↓o_min, ↓o_max, ↓o_extract, ↓o_convInt, ↓cd_true, ↓cd_false, ↓gate_tt, ↓gate_ff, ↓gate_tf, ↓gate_ft, ↓gate_undef, ↓o_bind, ↓stay_v, ↓pop_cons, ↓fin_nil, Option.isNone_none, Option.isNone_some, Bool.not_true, Bool.not_false, Nat.zero_add, decide_true, decide_false, if_true, if_false, Bool.false_eq_true, ↓reduceIte]
  refine jn_cut (fun σ w => σ = [] ∧ sat E w (pts b (.cells [.pointer (some ⟨b, 0, none⟩), .slice none 0 0].toArray 68 (0, 0)) * R)) (fun kk hkk => by (try simp only [hneg, ↓o_nil, ↓o_field, ↓o_add, ↓o_sub, ↓o_mul, ↓o_lss, ↓o_leq, ↓o_gtr, ↓o_geq, ↓o_not, ↓o_pick, ↓o_eqInt, ↓o_neInt, ↓o_eqBool, ↓o_neBool, ↓o_eqPtr, ↓o_nePtr, ↓o_eqPtr', ↓o_eqSl, ↓o_neSl, ↓o_eqStr, ↓o_neStr, ↓o_len, ↓o_lenS, ↓o_min, ↓o_max, ↓o_extract, ↓o_convInt, ↓cd_true, ↓cd_false, ↓gate_tt, ↓gate_ff, ↓gate_tf, ↓gate_ft, ↓gate_undef, ↓o_bind, ↓stay_v, ↓pop_cons, ↓fin_nil, Option.isNone_none, Option.isNone_some, Bool.not_true, Bool.not_false, Nat.zero_add, decide_true, decide_false, if_true, if_false, Bool.false_eq_true, ↓reduceIte]); exact hkk _ _ ⟨rfl, h⟩) ?_
  clear h
  rintro σ w ⟨rfl, h⟩
  try simp only [↓o_nil, ↓o_field, ↓o_add, ↓o_sub, ↓o_mul, ↓o_lss, ↓o_leq, ↓o_gtr, ↓o_geq, ↓o_not, ↓o_pick, ↓o_eqInt, ↓o_neInt, ↓o_eqBool, ↓o_neBool, ↓o_eqPtr, ↓o_nePtr, ↓o_eqPtr', ↓o_eqSl, ↓o_neSl, ↓o_eqStr, ↓o_neStr, ↓o_len, ↓o_lenS, ↓o_min, ↓o_max, ↓o_extract, ↓o_convInt, ↓cd_true, ↓cd_false, ↓gate_tt, ↓gate_ff, ↓gate_tf, ↓gate_ft, ↓gate_undef, ↓o_bind, ↓stay_v, ↓pop_cons, ↓fin_nil, Option.isNone_none, Option.isNone_some, Bool.not_true, Bool.not_false, Nat.zero_add, decide_true, decide_false, if_true, if_false, Bool.false_eq_true, ↓reduceIte]
  refine dr_sl h fun w h _ => ?_
  try simp only [↓o_nil, ↓o_field, ↓o_add, ↓o_sub, ↓o_mul, ↓o_lss, ↓o_leq, ↓o_gtr, ↓o_geq, ↓o_not, ↓o_pick, ↓o_eqInt, ↓o_neInt, ↓o_eqBool, ↓o_neBool, ↓o_eqPtr, ↓o_nePtr, ↓o_eqPtr', ↓o_eqSl, ↓o_neSl, ↓o_eqStr, ↓o_neStr, ↓o_len, ↓o_lenS, ↓o_min, ↓o_max, ↓o_extract, ↓o_convInt, ↓cd_true, ↓cd_false, ↓gate_tt, ↓gate_ff, ↓gate_tf, ↓gate_ft, ↓gate_undef, ↓o_bind, ↓stay_v, ↓pop_cons, ↓fin_nil, Option.isNone_none, Option.isNone_some, Bool.not_true, Bool.not_false, Nat.zero_add, decide_true, decide_false, if_true, if_false, Bool.false_eq_true, ↓reduceIte]
  refine ld_at (b := b) h ?_
  rw [o_cap]
  try simp only [↓o_nil, ↓o_field, ↓o_add, ↓o_sub, ↓o_mul, ↓o_lss, ↓o_leq, ↓o_gtr, ↓o_geq, ↓o_not, ↓o_pick, ↓o_eqInt, ↓o_neInt, ↓o_eqBool, ↓o_neBool, ↓o_eqPtr, ↓o_nePtr, ↓o_eqPtr', ↓o_eqSl, ↓o_neSl, ↓o_eqStr, ↓o_neStr, ↓o_len, ↓o_lenS, ↓o_min, ↓o_max, ↓o_extract, ↓o_convInt, ↓cd_true, ↓cd_false, ↓gate_tt, ↓gate_ff, ↓gate_tf, ↓gate_ft, ↓gate_undef, ↓o_bind, ↓stay_v, ↓pop_cons, ↓fin_nil, Option.isNone_none, Option.isNone_some, Bool.not_true, Bool.not_false, Nat.zero_add, decide_true, decide_false, if_true, if_false, Bool.false_eq_true, ↓reduceIte]
  refine ld_at (b := b) h ?_
  simp only [↓o_nil, ↓o_field, ↓o_add, ↓o_sub, ↓o_mul, ↓o_lss, ↓o_leq, ↓o_gtr, ↓o_geq, ↓o_not, ↓o_pick, ↓o_eqInt, ↓o_neInt, ↓o_eqBool, ↓o_neBool, ↓o_eqPtr, ↓o_nePtr, ↓o_eqPtr', ↓o_eqSl, ↓o_neSl, ↓o_eqStr, ↓o_neStr, ↓o_len, ↓o_lenS, ↓o_min, ↓o_max, ↓o_extract, ↓o_convInt, ↓cd_true, ↓cd_false, ↓gate_tt, ↓gate_ff, ↓gate_tf, ↓gate_ft, ↓gate_undef, ↓o_bind, ↓stay_v, ↓pop_cons, ↓fin_nil, Option.isNone_none, Option.isNone_some, Bool.not_true, Bool.not_false, Nat.zero_add, decide_true, decide_false, if_true, if_false, Bool.false_eq_true, ↓reduceIte, show IntKind.i64.wrap ((0 : Nat) - (0 : Nat) : Int) = 0 from rfl]
  have hP : sat E w (pts b (.cells [.pointer (some ⟨b, 0, none⟩), .slice none 0 0].toArray 68 (0, 0)) * (osl 5 1 (.slice none 0 0) ([] : List UInt8).length (([] : List UInt8).map bv) * R)) := (osl_nil h 5 1).perm (star_left_comm _ _ _)
  refine cd_dec (fun hlt => ?_) (fun hge => ?_)
  · refine grow_spec (l := []) (.inr rfl) hn (by simp) rfl (by decide) hP fun w v' h => ?_
    exact k _ (sat_bld.2 ⟨_, v', .inr rfl, h⟩)
  · exact k _ (sat_bld.2 ⟨_, _, .inr rfl, hP⟩)
theorem WriteString_spec {b : Nat} {l s : List UInt8} (h : sat E w (bld b l * R)) (hl : l.length + s.length ≤ 140737488355328) (k : ∀ w', sat E w' (bld b (l ++ s) * R) → K (.tuple #[.int .i64 s.length, .nilIface]) w') :
    Calls prog 55 #[.pointer (some ⟨b, 0, none⟩), tv s] w (Ret K) := by
  obtain ⟨p, v, hp, h⟩ := sat_bld.1 h
  refine c55 ?_
  unfold B55
  refine copyCheck_spec hp h fun w h => ?_
  try simp only [↓o_nil, ↓o_field, ↓o_add, ↓o_sub, ↓o_mul, ↓o_lss, ↓o_leq, ↓o_gtr, ↓o_geq, ↓o_not, ↓o_pick, ↓o_eqInt, ↓o_neInt, ↓o_eqBool, ↓o_neBool, ↓o_eqPtr, ↓o_nePtr, ↓o_eqPtr', ↓o_eqSl, ↓o_neSl, ↓o_eqStr, ↓o_neStr, ↓o_len, ↓o_lenS, ↓o_min, ↓o_max, ↓o_extract, ↓o_convInt, ↓cd_true, ↓cd_false, ↓gate_tt, ↓gate_ff, ↓gate_tf, ↓gate_ft, ↓gate_undef, ↓o_bind, ↓stay_v, ↓pop_cons, ↓fin_nil, Option.isNone_none, Option.isNone_some, Bool.not_true, Bool.not_false, Nat.zero_add, decide_true, decide_false, if_true, if_false, Bool.false_eq_true, ↓reduceIte]
  refine ld_at (b := b) h ?_
  refine append_str (v := v) h hl fun v2 w h => ?_
  try simp only [↓o_nil, ↓o_field, ↓o_add, ↓o_sub, ↓o_mul, ↓o_lss, ↓o_leq, ↓o_gtr, ↓o_geq, ↓o_not, ↓o_pick, ↓o_eqInt, ↓o_neInt, ↓o_eqBool, ↓o_neBool, ↓o_eqPtr, ↓o_nePtr, ↓o_eqPtr', ↓o_eqSl, ↓o_neSl, ↓o_eqStr, ↓o_neStr, ↓o_len, ↓o_lenS, ↓o_min, ↓o_max, ↓o_extract, ↓o_convInt, ↓cd_true, ↓cd_false, ↓gate_tt, ↓gate_ff, ↓gate_tf, ↓gate_ft, ↓gate_undef, ↓o_bind, ↓stay_v, ↓pop_cons, ↓fin_nil, Option.isNone_none, Option.isNone_some, Bool.not_true, Bool.not_false, Nat.zero_add, decide_true, decide_false, if_true, if_false, Bool.false_eq_true, ↓reduceIte]
  have h := h.own b
  refine store_at (b := b) h ?_ (by simp) fun w h => ?_
  · obtain ⟨a, c, rfl, _, _, _⟩ := osl_shape (h.perm (star_comm _ _) |>.perm (star_assoc _ _ _))
    rfl
  · rw [o_lenT]
    refine k _ (sat_bld.2 ⟨_, v2, .inr rfl, ?_⟩)
    have e : l.map bv ++ s.map bv = (l ++ s).map bv := by simp
    rw [e] at h
    simpa using h
/-- What count tells of noughts. -/
theorem Count_spec {s : List UInt8} (k : K (.int .i64 (s.count 0 : Nat)) w) : Calls prog 52 #[tv s, tv [0]] w (Ret K) := by
  refine c52 ?_
  unfold B52
  simp only [↓o_lenT, ↓o_nil, ↓o_field, ↓o_add, ↓o_sub, ↓o_mul, ↓o_lss, ↓o_leq, ↓o_gtr, ↓o_geq, ↓o_not, ↓o_pick, ↓o_eqInt, ↓o_neInt, ↓o_eqBool, ↓o_neBool, ↓o_eqPtr, ↓o_nePtr, ↓o_eqPtr', ↓o_eqSl, ↓o_neSl, ↓o_eqStr, ↓o_neStr, ↓o_len, ↓o_lenS, ↓o_min, ↓o_max, ↓o_extract, ↓o_convInt, ↓cd_true, ↓cd_false, ↓gate_tt, ↓gate_ff, ↓gate_tf, ↓gate_ft, ↓gate_undef, ↓o_bind, ↓stay_v, ↓pop_cons, ↓fin_nil, Option.isNone_none, Option.isNone_some, Bool.not_true, Bool.not_false, Nat.zero_add, decide_true, decide_false, if_true, if_false, Bool.false_eq_true, ↓reduceIte, show ([0] : List UInt8).length = 1 from rfl, show decide (((1 : Nat) : Int) = 0) = false from rfl, show decide (((1 : Nat) : Int) = 1) = true from rfl]
  rw [o_indexT (by decide) (by decide)]
  refine ef_ext (v := .int .i64 (s.count 0 : Nat)) (fun w => ?_) k
  have h1 : (oCall (.func (.func 73) #[] #[]) #[tv s, bv 0]).run prog w = (vN (Extern.BytealgCount.count #[.string ⟨s.toArray⟩, .int .u8 0])).run prog w := by kernel_rfl
  have e0 : bv (([0] : List UInt8).getD (Int.toNat 0) 0) = bv 0 := rfl
  rw [e0, h1]
  refine vN_run ?_
  have := Lib.run_countString (P := prog) ⟨s.toArray⟩ 0 w
  rw [this]
  rfl
theorem Index_spec {s : List UInt8} (k : K (.int .i64 (Lib.indexByte s 0)) w) : Calls prog 54 #[tv s, tv [0]] w (Ret K) := by
  refine c54 ?_
  unfold B54
  refine c76 ?_
  unfold B76
  by_cases hs : ([0] : List UInt8) = s
  · subst hs
    simp only [↓o_lenT, ↓o_eqT, decide_true, ↓o_nil, ↓o_field, ↓o_add, ↓o_sub, ↓o_mul, ↓o_lss, ↓o_leq, ↓o_gtr, ↓o_geq, ↓o_not, ↓o_pick, ↓o_eqInt, ↓o_neInt, ↓o_eqBool, ↓o_neBool, ↓o_eqPtr, ↓o_nePtr, ↓o_eqPtr', ↓o_eqSl, ↓o_neSl, ↓o_eqStr, ↓o_neStr, ↓o_len, ↓o_lenS, ↓o_min, ↓o_max, ↓o_extract, ↓o_convInt, ↓cd_true, ↓cd_false, ↓gate_tt, ↓gate_ff, ↓gate_tf, ↓gate_ft, ↓gate_undef, ↓o_bind, ↓stay_v, ↓pop_cons, ↓fin_nil, Option.isNone_none, Option.isNone_some, Bool.not_true, Bool.not_false, Nat.zero_add, decide_true, decide_false, if_true, if_false, Bool.false_eq_true, ↓reduceIte, show ([0] : List UInt8).length = 1 from rfl, show decide (((1 : Nat) : Int) = 0) = false from rfl]
    exact k
  have hne : decide (([0] : List UInt8) = s) = false := by rw [decide_eq_false_iff_not]; exact hs
  simp only [↓o_lenT, ↓o_eqT, hne, ↓o_nil, ↓o_field, ↓o_add, ↓o_sub, ↓o_mul, ↓o_lss, ↓o_leq, ↓o_gtr, ↓o_geq, ↓o_not, ↓o_pick, ↓o_eqInt, ↓o_neInt, ↓o_eqBool, ↓o_neBool, ↓o_eqPtr, ↓o_nePtr, ↓o_eqPtr', ↓o_eqSl, ↓o_neSl, ↓o_eqStr, ↓o_neStr, ↓o_len, ↓o_lenS, ↓o_min, ↓o_max, ↓o_extract, ↓o_convInt, ↓cd_true, ↓cd_false, ↓gate_tt, ↓gate_ff, ↓gate_tf, ↓gate_ft, ↓gate_undef, ↓o_bind, ↓stay_v, ↓pop_cons, ↓fin_nil, Option.isNone_none, Option.isNone_some, Bool.not_true, Bool.not_false, Nat.zero_add, decide_true, decide_false, if_true, if_false, Bool.false_eq_true, ↓reduceIte, show ([0] : List UInt8).length = 1 from rfl, show decide (((1 : Nat) : Int) = 0) = false from rfl, show decide (((1 : Nat) : Int) = 1) = true from rfl]
  rw [o_indexT (by decide) (by decide)]
  refine c90 ?_
  unfold B90
  refine ef_ext (v := .int .i64 (Lib.indexByte s 0)) (fun w => ?_) k
  have h1 : (oCall (.func (.func 99) #[] #[]) #[tv s, bv 0]).run prog w = (vN (Extern.BytealgIndexByte.indexByte #[.string ⟨s.toArray⟩, .int .u8 0])).run prog w := by kernel_rfl
  have e0 : bv (([0] : List UInt8).getD (Int.toNat 0) 0) = bv 0 := rfl
  rw [e0, h1]
  refine vN_run ?_
  have := Lib.run_indexByteString (P := prog) ⟨s.toArray⟩ 0 w
  rw [this]
  rfl
end Go.Proofs.YtnkmgkilfkgfhaaDoor

/-
  Noughts replaced; keys.
-/
set_option linter.all false
set_option maxRecDepth 10000
namespace Go.Proofs.YtnkmgkilfkgfhaaDoor
open Go Hold
variable {E : World0} {w : World} {H R : HP} {K : Value → World → Prop}
def esc1 (c : UInt8) : List UInt8 := if c = 0 then [0, 255] else [c]
def esc (s : List UInt8) : List UInt8 := s.flatMap esc1
theorem esc_append (a b : List UInt8) : esc (a ++ b) = esc a ++ esc b := by simp [esc]
theorem esc_none : ∀ {s : List UInt8}, s.count 0 = 0 → esc s = s
  | [], _ => rfl
  | c :: s, h => by
    have hc : c ≠ 0 := by rintro rfl; simp at h
    have hs : s.count 0 = 0 := by rw [List.count_cons_of_ne hc] at h; exact h
    have := esc_none hs
    simp only [esc, List.flatMap_cons, esc1, if_neg hc] at this ⊢
    rw [this]; rfl
theorem esc_length (s : List UInt8) : (esc s).length ≤ 2 * s.length := by
  induction s with
  | nil => simp [esc]
  | cons c s ih =>
    simp only [esc, List.flatMap_cons, List.length_append, List.length_cons] at ih ⊢
    have : (esc1 c).length ≤ 2 := by unfold esc1; split <;> simp
    omega
theorem first_nought : ∀ {s : List UInt8}, 0 < s.count 0 → ∃ p, Lib.indexByte s 0 = (p : Nat) ∧ p < s.length ∧ (s.take p).count 0 = 0 ∧ s.drop p = 0 :: s.drop (p + 1)
  | [], h => by simp at h
  | c :: s, h => by
    by_cases hc : c = 0
    · subst hc
      exact ⟨0, by simp [Lib.indexByte], by simp, by simp, by simp⟩
    · rw [List.count_cons_of_ne hc] at h
      obtain ⟨p, h1, h2, h3, h4⟩ := first_nought h
      refine ⟨p + 1, ?_, by simpa using h2, ?_, by simpa using h4⟩
      · have hn : ¬ ((p : Int) = -1) := by omega
        simp [Lib.indexByte, hc, h1, hn]
      · rw [List.take_succ_cons, List.count_cons_of_ne hc]; exact h3
theorem Replace_spec (h : sat E w H) {s : List UInt8} (hs : s.length ≤ 100000) (k : ∀ w', sat E w' H → K (tv (esc s)) w') : Calls prog 29 #[tv s, tv [0], tv [0, 255]] w (Ret K) := by
  refine c29 ?_
  unfold B29
  refine c37 ?_
  unfold B37
  simp only [↓o_eqT, show decide (([0] : List UInt8) = [0, 255]) = false from rfl, show decide ((-1 : Int) = 0) = false from rfl, ↓o_nil, ↓o_field, ↓o_add, ↓o_sub, ↓o_mul, ↓o_lss, ↓o_leq, ↓o_gtr, ↓o_geq, ↓o_not, ↓o_pick, ↓o_eqInt, ↓o_neInt, ↓o_eqBool, ↓o_neBool, ↓o_eqPtr, ↓o_nePtr, ↓o_eqPtr', ↓o_eqSl, ↓o_neSl, ↓o_eqStr, ↓o_neStr, ↓o_len, ↓o_lenS, ↓o_min, ↓o_max, ↓o_extract, ↓o_convInt, ↓cd_true, ↓cd_false, ↓gate_tt, ↓gate_ff, ↓gate_tf, ↓gate_ft, ↓gate_undef, ↓o_bind, ↓stay_v, ↓pop_cons, ↓fin_nil, Option.isNone_none, Option.isNone_some, Bool.not_true, Bool.not_false, Nat.zero_add, decide_true, decide_false, if_true, if_false, Bool.false_eq_true, ↓reduceIte]
  have hcl : s.count 0 ≤ s.length := List.count_le_length
  refine jn_cut (fun σ w => σ = [.int .i64 ((s.count 0 : Nat) : Int)] ∧ 0 < s.count 0 ∧ sat E w H) (fun kk hkk => ?_) ?_
  · refine Count_spec ?_
    rw [o_eqInt]
    refine cd_dec (fun heq => ?_) (fun hne => ?_)
    · have e : esc s = s := esc_none (by omega)
      rw [e] at k
      exact k _ h
    · simp only [show decide ((-1 : Int) < 0) = true from rfl, ↓o_nil, ↓o_field, ↓o_add, ↓o_sub, ↓o_mul, ↓o_lss, ↓o_leq, ↓o_gtr, ↓o_geq, ↓o_not, ↓o_pick, ↓o_eqInt, ↓o_neInt, ↓o_eqBool, ↓o_neBool, ↓o_eqPtr, ↓o_nePtr, ↓o_eqPtr', ↓o_eqSl, ↓o_neSl, ↓o_eqStr, ↓o_neStr, ↓o_len, ↓o_lenS, ↓o_min, ↓o_max, ↓o_extract, ↓o_convInt, ↓cd_true, ↓cd_false, ↓gate_tt, ↓gate_ff, ↓gate_tf, ↓gate_ft, ↓gate_undef, ↓o_bind, ↓stay_v, ↓pop_cons, ↓fin_nil, Option.isNone_none, Option.isNone_some, Bool.not_true, Bool.not_false, Nat.zero_add, decide_true, decide_false, if_true, if_false, Bool.false_eq_true, ↓reduceIte]
      exact hkk _ _ ⟨rfl, by omega, h⟩
  clear h
  rintro σ w ⟨rfl, hpos, h⟩
  rw [pop_cons, fin_nil]
  refine alloc_sl h fun b w h => ?_
  have h : sat E w (pts b (.cells [.pointer none, .slice none 0 0].toArray 68 (0, 0)) * H) := h
  have e1 : IntKind.i64.wrap (((2 : Nat) : Int) - ((1 : Nat) : Int)) = 1 := rfl
  have e2 : IntKind.i64.wrap (((s.count 0 : Nat) : Int) * 1) = ((s.count 0 : Nat) : Int) := by rw [i64_of (by omega) (by omega)]; omega
  have e3 : IntKind.i64.wrap ((s.length : Int) + ((s.count 0 : Nat) : Int)) = ((s.length + s.count 0 : Nat) : Int) := by rw [i64_of (by omega) (by omega)]; omega
  rw [o_lenT, o_lenT, o_lenT, show ([0] : List UInt8).length = 1 from rfl, show ([0, 255] : List UInt8).length = 2 from rfl, o_sub, e1, o_mul, e2, o_add, e3]
  refine Grow_spec h (by omega) fun w h => ?_
  refine jn_cut (fun σ w => ∃ i : Nat, σ = [.int .i64 (i : Int)] ∧ i ≤ s.length ∧ (s.drop i).count 0 = 0 ∧ sat E w (bld b (esc (s.take i)) * H)) (fun kk hkk => ?_) ?_
  · rw [o_lenT, o_gtr, show ([0] : List UInt8).length = 1 from rfl, show decide ((0 : Int) < ((1 : Nat) : Int)) = true from rfl, cd_true]
    refine lp_nat (fun q σ w => ∃ i j : Nat, σ = [.int .i64 (i : Int), .int .i64 (j : Int)] ∧ q = s.count 0 - j ∧ j ≤ s.count 0 ∧ i ≤ s.length ∧ (s.drop i).count 0 = s.count 0 - j ∧ sat E w (bld b (esc (s.take i)) * H)) (s.count 0)
      ⟨0, 0, rfl, rfl, by omega, by omega, by simp, by simpa [esc] using h⟩ ?_
    clear h
    rintro q σ w again ⟨i, j, rfl, rfl, hj, hi, hc, h⟩ hag
    rw [pop_cons, pop_cons, fin_nil, o_lss]
    refine cd_dec (fun hlt => ?_) (fun hge => ?_)
    · obtain ⟨p, p1, p2, p3, p4⟩ := first_nought (s := s.drop i) (by omega)
      rw [List.length_drop] at p2
      rw [o_sliceT_l (by omega) (by omega), Int.toNat_natCast]
      refine Index_spec ?_
      have f1 : IntKind.i64.wrap ((i : Int) + ((p : Nat) : Int)) = ((i + p : Nat) : Int) := by rw [i64_of (by omega) (by omega)]; omega
      rw [p1, o_add, f1, o_sliceT (by omega) (by omega) (by omega), Int.toNat_natCast, Int.toNat_natCast, show i + p - i = p by omega]
      have hel := esc_length (s.take i)
      have htl : (s.take i).length ≤ s.length := by simp; omega
      refine WriteString_spec h (by simp only [List.length_take, List.length_drop]; omega) fun w h => ?_
      refine WriteString_spec (s := [0, 255]) h (by simp only [List.length_append, List.length_take, List.length_drop, List.length_cons, List.length_nil]; omega) fun w h => ?_
      rw [o_lenT, show ([0] : List UInt8).length = 1 from rfl, o_add, o_add, i64_of (by omega) (by omega), i64_of (by omega) (by omega)]
      refine hag (s.count 0 - (j + 1)) _ _ (by omega) ⟨i + p + 1, j + 1, ?_, rfl, by omega, by omega, ?_, ?_⟩
      · rfl
      · have e : (s.drop i) = (s.drop i).take p ++ (s.drop i).drop p := (List.take_append_drop p _).symm
        rw [e, List.count_append, p3, p4, List.count_cons_self] at hc
        rw [show i + p + 1 = i + (p + 1) by omega, ← List.drop_drop]
        omega
      · have e : esc (s.take (i + p + 1)) = esc (s.take i) ++ (s.drop i).take p ++ [0, 255] := by
          have e1 : s.take (i + p + 1) = s.take i ++ ((s.drop i).take p ++ [0]) := by
            rw [show i + p + 1 = i + (p + 1) by omega, List.take_add]
            congr 1
            rw [List.take_add]
            congr 1
            rw [p4]; rfl
          rw [e1, esc_append, esc_append, esc_none p3, List.append_assoc]; rfl
        rw [e]; exact h
    · exact hkk _ _ ⟨i, rfl, hi, by omega, h⟩
  · clear h
    rintro σ w ⟨i, rfl, hi, hc, h⟩
    have hel := esc_length (s.take i)
    have htl : (s.take i).length ≤ s.length := by simp; omega
    rw [pop_cons, fin_nil, o_sliceT_l (by omega) (by omega), Int.toNat_natCast]
    refine WriteString_spec h (by simp only [List.length_drop]; omega) fun w h => ?_
    have e : esc (s.take i) ++ s.drop i = esc s := by
      have e0 : s = s.take i ++ s.drop i := (List.take_append_drop i s).symm
      rw [e0, esc_append, ← e0, esc_none hc]
    rw [e] at h
    have hne : esc s ≠ [] := by
      intro h0
      obtain ⟨p, _, p2, _, _⟩ := first_nought hpos
      cases hs0 : s with
      | nil => rw [hs0] at p2; simp at p2
      | cons c t =>
        rw [hs0] at h0
        simp only [esc, List.flatMap_cons] at h0
        have : esc1 c = [] := List.append_eq_nil_iff.1 h0 |>.1
        unfold esc1 at this; split at this <;> cases this
    have hel2 := esc_length s
    exact String_spec h hne (by omega) fun w h => k _ h
end Go.Proofs.YtnkmgkilfkgfhaaDoor
