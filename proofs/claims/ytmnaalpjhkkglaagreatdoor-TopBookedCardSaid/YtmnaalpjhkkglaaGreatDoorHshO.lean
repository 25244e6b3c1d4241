/-
  A builder of texts.
-/
import Derived.Test.YtmnaalpjhkkglaaGreatDoorPB
import Derived.Test.YtmnaalpjhkkglaaGreatDoorStrs
import Derived.Lib.MakeNoZero
import Derived.Lib.IndexLaws
import Derived.Test.YtmnaalpjhkkglaaGreatDoorSealP
set_option linter.all false
set_option maxRecDepth 10000
namespace Go.Proofs.YtmnaalpjhkkglaaGreatDoor
open Go Hold
variable {E : World0} {w : World} {H R : HP} {K : Value → World → Prop}
/-- A builder at b that holds l. -/
def bld (b : Nat) (l : List UInt8) : HP := ex fun q : Option Addr × Value => pur (q.1 = none ∨ q.1 = some ⟨b, 0, none⟩) * (pts b (.cells [.pointer q.1, q.2].toArray 227 (0, 0)) * osl 5 1 q.2 l.length (l.map bv))
theorem sat_bld {b : Nat} {l : List UInt8} : sat E w (bld b l * R) ↔ ∃ p v, (p = none ∨ p = some ⟨b, 0, none⟩) ∧ sat E w (pts b (.cells [.pointer p, v].toArray 227 (0, 0)) * (osl 5 1 v l.length (l.map bv) * R)) := by
  unfold bld
  rw [sat_ex_star]
  constructor
  · rintro ⟨⟨p, v⟩, h⟩
    simp only [star_assoc] at h
    rw [sat_pur_star] at h
    exact ⟨p, v, h.1, h.2⟩
  · rintro ⟨p, v, hp, h⟩
    refine ⟨(p, v), ?_⟩
    simp only [star_assoc]
    rw [sat_pur_star]
    exact ⟨hp, h⟩
theorem copyCheck_spec {b : Nat} {p : Option Addr} {v : Value} (hp : p = none ∨ p = some ⟨b, 0, none⟩) (h : sat E w (pts b (.cells [.pointer p, v].toArray 227 (0, 0)) * R))
    (k : ∀ w', sat E w' (pts b (.cells [.pointer (some ⟨b, 0, none⟩), v].toArray 227 (0, 0)) * R) → K (.tuple #[]) w') : Calls prog 182 #[.pointer (some ⟨b, 0, none⟩)] w (Ret K) := by
  refine c182 ?_
  unfold B182
  try simp only [↓o_nil, ↓o_field, ↓o_add, ↓o_sub, ↓o_mul, ↓o_lss, ↓o_leq, ↓o_gtr, ↓o_geq, ↓o_not, ↓o_pick, ↓o_eqInt, ↓o_neInt, ↓o_eqBool, ↓o_neBool, ↓o_eqPtr, ↓o_nePtr, ↓o_eqPtr', ↓o_eqSl, ↓o_neSl, ↓o_eqStr, ↓o_neStr, ↓o_len, ↓o_lenS, ↓o_min, ↓o_max, ↓o_extract, ↓o_convInt, ↓cd_true, ↓cd_false, ↓gate_tt, ↓gate_ff, ↓gate_tf, ↓gate_ft, ↓gate_undef, ↓o_bind, ↓stay_v, ↓pop_cons, ↓fin_nil, Option.isNone_none, Option.isNone_some, Bool.not_true, Bool.not_false, Nat.zero_add, decide_true, decide_false, if_true, if_false, Bool.false_eq_true, ↓reduceIte]
  refine ld_at h ?_
  have hb := h.pts_get
  rcases hp with rfl | rfl
  · simp only [↓o_nil, ↓o_field, ↓o_add, ↓o_sub, ↓o_mul, ↓o_lss, ↓o_leq, ↓o_gtr, ↓o_geq, ↓o_not, ↓o_pick, ↓o_eqInt, ↓o_neInt, ↓o_eqBool, ↓o_neBool, ↓o_eqPtr, ↓o_nePtr, ↓o_eqPtr', ↓o_eqSl, ↓o_neSl, ↓o_eqStr, ↓o_neStr, ↓o_len, ↓o_lenS, ↓o_min, ↓o_max, ↓o_extract, ↓o_convInt, ↓cd_true, ↓cd_false, ↓gate_tt, ↓gate_ff, ↓gate_tf, ↓gate_ft, ↓gate_undef, ↓o_bind, ↓stay_v, ↓pop_cons, ↓fin_nil, Option.isNone_none, Option.isNone_some, Bool.not_true, Bool.not_false, Nat.zero_add, decide_true, decide_false, if_true, if_false, Bool.false_eq_true, ↓reduceIte]
    obtain ⟨j, hj, hj2⟩ : ∃ j, prog.info? 227 = some j ∧ j.size = 2 := by
      have := (aggC_227).size
      cases hi : prog.info? 227 with
      | none => rw [hi] at this; cases this
      | some j => rw [hi] at this; exact ⟨j, rfl, by simpa using this⟩
    refine efv_of (Lib.run_to_unsafe (P := prog) w (t := 227) (e := 227) (j := j) (cells := 2) ⟨b, 0, none⟩ (by kernel_rfl) (by kernel_rfl) hj (by omega) (by simp [World.shape?, hb]) (by simp)) ?_
    refine ef_ext (v := .pointer (some ⟨b, 0, none⟩)) (fun w => by kernel_rfl) ?_
    refine efv_of (Lib.run_from_unsafe (P := prog) w (u := 227) (e := 227) (j := j) (cells := 2) ⟨b, 0, none⟩ (by kernel_rfl) (by kernel_rfl) hj (by simp [World.shape?, hb]) (by kernel_rfl)) ?_
    refine store_at h rfl (by simp) fun w h => ?_
    exact k _ h
  · simp only [↓o_nil, ↓o_field, ↓o_add, ↓o_sub, ↓o_mul, ↓o_lss, ↓o_leq, ↓o_gtr, ↓o_geq, ↓o_not, ↓o_pick, ↓o_eqInt, ↓o_neInt, ↓o_eqBool, ↓o_neBool, ↓o_eqPtr, ↓o_nePtr, ↓o_eqPtr', ↓o_eqSl, ↓o_neSl, ↓o_eqStr, ↓o_neStr, ↓o_len, ↓o_lenS, ↓o_min, ↓o_max, ↓o_extract, ↓o_convInt, ↓cd_true, ↓cd_false, ↓gate_tt, ↓gate_ff, ↓gate_tf, ↓gate_ft, ↓gate_undef, ↓o_bind, ↓stay_v, ↓pop_cons, ↓fin_nil, Option.isNone_none, Option.isNone_some, Bool.not_true, Bool.not_false, Nat.zero_add, decide_true, decide_false, if_true, if_false, Bool.false_eq_true, ↓reduceIte]
    refine ld_at h ?_
    have hn : ∀ {xo yo : Operand} {K : Value → World → Prop} {w : World}, pvv prog (oEq .neq 225 xo yo (.pointer (some ⟨b, 0, none⟩)) (.pointer (some ⟨b, 0, none⟩))) w K = K (.bool false) w := fun {xo yo K w} => pvv_eq fun w => by
      obtain ⟨j, hj, hj2⟩ : ∃ j, prog.info? 227 = some j ∧ j.size = 2 := by
        have := (aggC_227).size
        cases hi : prog.info? 227 with
        | none => rw [hi] at this; cases this
        | some j => rw [hi] at this; exact ⟨j, rfl, by simpa using this⟩
      have := Lib.run_neq_ptr_same (P := prog) w (tp := 225) (te := 227) (j := j) ⟨b, 0, none⟩ (by kernel_rfl) hj
      simp [oEq, eqGuard, this]
    rw [hn, cd_false]
    exact k _ h
theorem String_spec (h : sat E w H) {b : Nat} {l : List UInt8} [s : Split H (bld b l) R] (h0 : l ≠ []) (hl : l.length ≤ 9223372036854775807) (k : ∀ w', sat E w' R → K (tv l) w') : Calls prog 157 #[.pointer (some ⟨b, 0, none⟩)] w (Ret K) := by
  obtain ⟨p, v, hp, h⟩ := sat_bld.1 (h.split (bld b l))
  refine c157 ?_
  unfold B157
  have hl0 : 0 < l.length := List.length_pos_iff.2 h0
  have h := h.perm (star_left_comm _ _ _)
  obtain ⟨bq, c, sp, rfl, _, hc, hP, _⟩ := osl_open h hl0
  clear h
  have h := hP
  clear hP
  refine dr_sl h fun w h _ => ?_
  try simp only [↓o_nil, ↓o_field, ↓o_add, ↓o_sub, ↓o_mul, ↓o_lss, ↓o_leq, ↓o_gtr, ↓o_geq, ↓o_not, ↓o_pick, ↓o_eqInt, ↓o_neInt, ↓o_eqBool, ↓o_neBool, ↓o_eqPtr, ↓o_nePtr, ↓o_eqPtr', ↓o_eqSl, ↓o_neSl, ↓o_eqStr, ↓o_neStr, ↓o_len, ↓o_lenS, ↓o_min, ↓o_max, ↓o_extract, ↓o_convInt, ↓cd_true, ↓cd_false, ↓gate_tt, ↓gate_ff, ↓gate_tf, ↓gate_ft, ↓gate_undef, ↓o_bind, ↓stay_v, ↓pop_cons, ↓fin_nil, Option.isNone_none, Option.isNone_some, Bool.not_true, Bool.not_false, Nat.zero_add, decide_true, decide_false, if_true, if_false, Bool.false_eq_true, ↓reduceIte]
  refine ld_at (b := b) h (ld_at (b := b) h ?_)
  try simp only [↓o_nil, ↓o_field, ↓o_add, ↓o_sub, ↓o_mul, ↓o_lss, ↓o_leq, ↓o_gtr, ↓o_geq, ↓o_not, ↓o_pick, ↓o_eqInt, ↓o_neInt, ↓o_eqBool, ↓o_neBool, ↓o_eqPtr, ↓o_nePtr, ↓o_eqPtr', ↓o_eqSl, ↓o_neSl, ↓o_eqStr, ↓o_neStr, ↓o_len, ↓o_lenS, ↓o_min, ↓o_max, ↓o_extract, ↓o_convInt, ↓cd_true, ↓cd_false, ↓gate_tt, ↓gate_ff, ↓gate_tf, ↓gate_ft, ↓gate_undef, ↓o_bind, ↓stay_v, ↓pop_cons, ↓fin_nil, Option.isNone_none, Option.isNone_some, Bool.not_true, Bool.not_false, Nat.zero_add, decide_true, decide_false, if_true, if_false, Bool.false_eq_true, ↓reduceIte]
  refine unsafe_data (by omega) ?_
  refine st_at (b := b) h ?_
  refine unsafe_str (b := bq) h (by kernel_rfl) h0 hl fun fr w h => ?_
  refine st_at (b := b) h (st_at (b := b) h ?_)
  exact k _ h.drop.drop
end Go.Proofs.YtmnaalpjhkkglaaGreatDoor

/-
  A builder that grows; texts counted, searched, replaced.
-/
set_option linter.all false
set_option maxRecDepth 10000
namespace Go.Proofs.YtmnaalpjhkkglaaGreatDoor
open Go Hold
variable {E : World0} {w : World} {H R : HP} {K : Value → World → Prop}
theorem o_cap {P : Program} {t ty e : TypeId} {cs : Array Bool} {a : Option Addr} {l c : Nat} [i : Ul P t (.slice e)] : pv P (oBi .cap #[t] ty cs #[.slice a l c]) w K = K (.int .i64 c) w := pv_eq fun w => by
  simp [oBi, builtin, Builtin.cap_, run_underlying' i.ul, goInt]
theorem grow_spec {b : Nat} {l : List UInt8} {n : Nat} {p : Option Addr} (hp : p = none ∨ p = some ⟨b, 0, none⟩) {v : Value} (hn : n ≤ 1000000) (hl : l.length ≤ 1000000) {a : Option Addr} {c : Nat} (hv : v = .slice a l.length c) (hc : c ≤ 1000000)
    (h : sat E w (pts b (.cells [.pointer p, v].toArray 227 (0, 0)) * (osl 5 1 v l.length (l.map bv) * R))) (k : ∀ w' v', sat E w' (pts b (.cells [.pointer p, v'].toArray 227 (0, 0)) * (osl 5 1 v' l.length (l.map bv) * R)) → K (.tuple #[]) w') :
    Calls prog 183 #[.pointer (some ⟨b, 0, none⟩), .int .i64 (n : Int)] w (Ret K) := by
  subst hv
  refine c183 ?_
  unfold B183
  refine dr_sl h fun w h _ => ?_
  try simp only [↓o_nil, ↓o_field, ↓o_add, ↓o_sub, ↓o_mul, ↓o_lss, ↓o_leq, ↓o_gtr, ↓o_geq, ↓o_not, ↓o_pick, ↓o_eqInt, ↓o_neInt, ↓o_eqBool, ↓o_neBool, ↓o_eqPtr, ↓o_nePtr, ↓o_eqPtr', ↓o_eqSl, ↓o_neSl, ↓o_eqStr, ↓o_neStr, ↓o_len, ↓o_lenS, ↓o_min, ↓o_max, ↓o_extract, ↓o_convInt, ↓cd_true, ↓cd_false, ↓gate_tt, ↓gate_ff, ↓gate_tf, ↓gate_ft, ↓gate_undef, ↓o_bind, ↓stay_v, ↓pop_cons, ↓fin_nil, Option.isNone_none, Option.isNone_some, Bool.not_true, Bool.not_false, Nat.zero_add, decide_true, decide_false, if_true, if_false, Bool.false_eq_true, ↓reduceIte]
  refine ld_at (b := b) h ?_
  rw [o_cap]
  try simp only [↓o_nil, ↓o_field, ↓o_add, ↓o_sub, ↓o_mul, ↓o_lss, ↓o_leq, ↓o_gtr, ↓o_geq, ↓o_not, ↓o_pick, ↓o_eqInt, ↓o_neInt, ↓o_eqBool, ↓o_neBool, ↓o_eqPtr, ↓o_nePtr, ↓o_eqPtr', ↓o_eqSl, ↓o_neSl, ↓o_eqStr, ↓o_neStr, ↓o_len, ↓o_lenS, ↓o_min, ↓o_max, ↓o_extract, ↓o_convInt, ↓cd_true, ↓cd_false, ↓gate_tt, ↓gate_ff, ↓gate_tf, ↓gate_ft, ↓gate_undef, ↓o_bind, ↓stay_v, ↓pop_cons, ↓fin_nil, Option.isNone_none, Option.isNone_some, Bool.not_true, Bool.not_false, Nat.zero_add, decide_true, decide_false, if_true, if_false, Bool.false_eq_true, ↓reduceIte]
  refine ld_at (b := b) h ?_
  try simp only [↓o_nil, ↓o_field, ↓o_add, ↓o_sub, ↓o_mul, ↓o_lss, ↓o_leq, ↓o_gtr, ↓o_geq, ↓o_not, ↓o_pick, ↓o_eqInt, ↓o_neInt, ↓o_eqBool, ↓o_neBool, ↓o_eqPtr, ↓o_nePtr, ↓o_eqPtr', ↓o_eqSl, ↓o_neSl, ↓o_eqStr, ↓o_neStr, ↓o_len, ↓o_lenS, ↓o_min, ↓o_max, ↓o_extract, ↓o_convInt, ↓cd_true, ↓cd_false, ↓gate_tt, ↓gate_ff, ↓gate_tf, ↓gate_ft, ↓gate_undef, ↓o_bind, ↓stay_v, ↓pop_cons, ↓fin_nil, Option.isNone_none, Option.isNone_some, Bool.not_true, Bool.not_false, Nat.zero_add, decide_true, decide_false, if_true, if_false, Bool.false_eq_true, ↓reduceIte]
  have e1 : IntKind.i64.wrap (IntKind.i64.wrap (2 * (c : Int)) + (n : Int)) = ((2 * c + n : Nat) : Int) := by
    rw [i64_of (n := 2 * (c : Int)) (by omega) (by omega), i64_of (by omega) (by omega)]; omega
  rw [e1]
  obtain ⟨cs, hr, hge, hmx⟩ := Lib.run_makeNoZero (P := prog) w #[3] 22 5 (by kernel_rfl) (2 * c + n) (by omega)
  have h1 : (oCall (.func (.func 192) #[] #[]) #[.int .i64 ((2 * c + n : Nat) : Int)]).run prog w = (vN (Extern.BytealgMakeNoZero.makeNoZero #[3] #[22] #[.int .i64 ((2 * c + n : Nat) : Int)])).run prog w := by kernel_rfl
  refine ef_of (h1.trans (vN_run hr)) ?_
  have h := h.drew.drew.alloc (.cells cs 5 (0, 0))
  generalize hbn : w.heap.size = bn at *
  have hw : w.drew.drew.heap.size = bn := hbn
  rw [hw] at h
  refine st_at (b := b) h (st_at (b := b) h ?_)
  have hlc : l.length ≤ c := by
    obtain ⟨a', c', e, hc', _, _⟩ := osl_shape (h.drop.drop)
    cases e; exact hc'
  rw [o_slice_h (by omega) (by omega)]
  have ecut : cutA (some ⟨bn, 0, none⟩) cs.size 0 1 = some ⟨bn, 0, none⟩ := by
    unfold cutA; split
    · rfl
    · simp [Addr.add]
  rw [ecut, Int.toNat_natCast]
  try simp only [↓o_nil, ↓o_field, ↓o_add, ↓o_sub, ↓o_mul, ↓o_lss, ↓o_leq, ↓o_gtr, ↓o_geq, ↓o_not, ↓o_pick, ↓o_eqInt, ↓o_neInt, ↓o_eqBool, ↓o_neBool, ↓o_eqPtr, ↓o_nePtr, ↓o_eqPtr', ↓o_eqSl, ↓o_neSl, ↓o_eqStr, ↓o_neStr, ↓o_len, ↓o_lenS, ↓o_min, ↓o_max, ↓o_extract, ↓o_convInt, ↓cd_true, ↓cd_false, ↓gate_tt, ↓gate_ff, ↓gate_tf, ↓gate_ft, ↓gate_undef, ↓o_bind, ↓stay_v, ↓pop_cons, ↓fin_nil, Option.isNone_none, Option.isNone_some, Bool.not_true, Bool.not_false, Nat.zero_add, decide_true, decide_false, if_true, if_false, Bool.false_eq_true, ↓reduceIte]
  refine ld_at (b := b) h ?_
  have h : sat E (w.drew.drew.alloc (.cells cs 5 (0, 0))) (pts bn (.cells cs.toList.toArray 5 (0, 0)) * (pts b (.cells [.pointer p, .slice a l.length c].toArray 227 (0, 0)) * (osl 5 1 (.slice a l.length c) l.length (l.map bv) * R))) := by
    simpa using h
  have hwin := (Rds.osl (e := 5) (n := l.length) (v := .slice a l.length c) (xs := l.map bv) (sz := 1)).win (h.drop.drop.drop')
  refine copy_in (b := bn) h (news := l.map bv) (by simp) hwin (bv_one _) (by simp; omega) fun w h => ?_
  try simp only [↓o_nil, ↓o_field, ↓o_add, ↓o_sub, ↓o_mul, ↓o_lss, ↓o_leq, ↓o_gtr, ↓o_geq, ↓o_not, ↓o_pick, ↓o_eqInt, ↓o_neInt, ↓o_eqBool, ↓o_neBool, ↓o_eqPtr, ↓o_nePtr, ↓o_eqPtr', ↓o_eqSl, ↓o_neSl, ↓o_eqStr, ↓o_neStr, ↓o_len, ↓o_lenS, ↓o_min, ↓o_max, ↓o_extract, ↓o_convInt, ↓cd_true, ↓cd_false, ↓gate_tt, ↓gate_ff, ↓gate_tf, ↓gate_ft, ↓gate_undef, ↓o_bind, ↓stay_v, ↓pop_cons, ↓fin_nil, Option.isNone_none, Option.isNone_some, Bool.not_true, Bool.not_false, Nat.zero_add, decide_true, decide_false, if_true, if_false, Bool.false_eq_true, ↓reduceIte]
  have h := h.own b
  refine store_at (b := b) h rfl (by simp) fun w h => ?_
  refine k _ (.slice (some ⟨bn, 0, none⟩) l.length cs.size) ?_
  have hcsl : cs.size ≤ maxLen := hmx (by simp only [maxLen]; omega)
  have h2 : sat E w (pts bn (.cells (l.map bv ++ cs.toList.drop l.length).toArray 5 (0, 0)) * (pts b (.cells [.pointer p, .slice (some ⟨bn, 0, none⟩) l.length cs.size].toArray 227 (0, 0)) * (osl 5 1 (.slice a l.length c) l.length (l.map bv) * R))) := by
    have e : cs.toList.take 0 ++ l.map bv ++ cs.toList.drop (0 + (l.map bv).length) = l.map bv ++ cs.toList.drop l.length := by simp
    rw [e] at h
    exact h.perm (star_left_comm _ _ _)
  have h3 : sat E w (osl 5 1 (.slice (some ⟨bn, 0, none⟩) l.length cs.size) l.length (l.map bv) * (pts b (.cells [.pointer p, .slice (some ⟨bn, 0, none⟩) l.length cs.size].toArray 227 (0, 0)) * (osl 5 1 (.slice a l.length c) l.length (l.map bv) * R))) :=
    sat_osl.2 (.inr ⟨bn, cs.size, cs.toList.drop l.length, rfl, by simp, by simp; omega, by omega, by simp only [maxLen] at hcsl; omega, h2⟩)
  have h4 := h3.perm (star_left_comm _ _ _)
  exact (h4.perm (by ac_rfl : _ = osl 5 1 (.slice a l.length c) l.length (l.map bv) * (pts b (.cells [.pointer p, .slice (some ⟨bn, 0, none⟩) l.length cs.size].toArray 227 (0, 0)) * (osl 5 1 (.slice (some ⟨bn, 0, none⟩) l.length cs.size) l.length (l.map bv) * R)))).drop
/-- A builder that is new, made greater. -/
theorem Grow_spec {b n : Nat} (h : sat E w (pts b (.cells [.pointer none, .slice none 0 0].toArray 227 (0, 0)) * R)) (hn : n ≤ 1000000) (k : ∀ w', sat E w' (bld b [] * R) → K (.tuple #[]) w') :
    Calls prog 155 #[.pointer (some ⟨b, 0, none⟩), .int .i64 (n : Int)] w (Ret K) := by
  refine c155 ?_
  unfold B155
  refine copyCheck_spec (.inl rfl) h fun w h => ?_
  have hneg : ¬ ((n : Int) < 0) := by omega
  simp only [hneg, ↓o_nil, ↓o_field, ↓o_add, ↓o_sub, ↓o_mul, ↓o_lss, ↓o_leq, ↓o_gtr, ↓o_geq, ↓o_not, ↓o_pick, ↓o_eqInt, ↓o_neInt, ↓o_eqBool, ↓o_neBool, ↓o_eqPtr, ↓o_nePtr, ↓o_eqPtr', ↓o_eqSl, ↓o_neSl, ↓o_eqStr, ↓o_neStr, ↓o_len, ↓o_lenS, ↓o_min, ↓o_max, ↓o_extract, ↓o_convInt, ↓cd_true, ↓cd_false, ↓gate_tt, ↓gate_ff, ↓gate_tf, ↓gate_ft, ↓gate_undef, ↓o_bind, ↓stay_v, ↓pop_cons, ↓fin_nil, Option.isNone_none, Option.isNone_some, Bool.not_true, Bool.not_false, Nat.zero_add, decide_true, decide_false, if_true, if_false, Bool.false_eq_true, ↓reduceIte]
  refine jn_cut (fun σ w => σ = [] ∧ sat E w (pts b (.cells [.pointer (some ⟨b, 0, none⟩), .slice none 0 0].toArray 227 (0, 0)) * R)) (fun kk hkk => by (try simp only [hneg, ↓o_nil, ↓o_field, ↓o_add, ↓o_sub, ↓o_mul, ↓o_lss, ↓o_leq, ↓o_gtr, ↓o_geq, ↓o_not, ↓o_pick, ↓o_eqInt, ↓o_neInt, ↓o_eqBool, ↓o_neBool, ↓o_eqPtr, ↓o_nePtr, ↓o_eqPtr', ↓o_eqSl, ↓o_neSl, ↓o_eqStr, ↓o_neStr, ↓o_len, ↓o_lenS, ↓o_min, ↓o_max, ↓o_extract, ↓o_convInt, ↓cd_true, ↓cd_false, ↓gate_tt, ↓gate_ff, ↓gate_tf, ↓gate_ft, ↓gate_undef, ↓o_bind, ↓stay_v, ↓pop_cons, ↓fin_nil, Option.isNone_none, Option.isNone_some, Bool.not_true, Bool.not_false, Nat.zero_add, decide_true, decide_false, if_true, if_false, Bool.false_eq_true, ↓reduceIte]); exact hkk _ _ ⟨rfl, h⟩) ?_
  clear h
  rintro σ w ⟨rfl, h⟩
  try simp only [↓o_nil, ↓o_field, ↓o_add, ↓o_sub, ↓o_mul, ↓o_lss, ↓o_leq, ↓o_gtr, ↓o_geq, ↓o_not, ↓o_pick, ↓o_eqInt, ↓o_neInt, ↓o_eqBool, ↓o_neBool, ↓o_eqPtr, ↓o_nePtr, ↓o_eqPtr', ↓o_eqSl, ↓o_neSl, ↓o_eqStr, ↓o_neStr, ↓o_len, ↓o_lenS, ↓o_min, ↓o_max, ↓o_extract, ↓o_convInt, ↓cd_true, ↓cd_false, ↓gate_tt, ↓gate_ff, ↓gate_tf, ↓gate_ft, ↓gate_undef, ↓o_bind, ↓stay_v, ↓pop_cons, ↓fin_nil, Option.isNone_none, Option.isNone_some, Bool.not_true, Bool.not_false, Nat.zero_add, decide_true, decide_false, if_true, if_false, Bool.false_eq_true, ↓reduceIte]
  refine dr_sl h fun w h _ => ?_
  try simp only [↓o_nil, ↓o_field, ↓o_add, ↓o_sub, ↓o_mul, ↓o_lss, ↓o_leq, ↓o_gtr, ↓o_geq, ↓o_not, ↓o_pick, ↓o_eqInt, ↓o_neInt, ↓o_eqBool, ↓o_neBool, ↓o_eqPtr, ↓o_nePtr, ↓o_eqPtr', ↓o_eqSl, ↓o_neSl, ↓o_eqStr, ↓o_neStr, ↓o_len, ↓o_lenS, ↓o_min, ↓o_max, ↓o_extract, ↓o_convInt, ↓cd_true, ↓cd_false, ↓gate_tt, ↓gate_ff, ↓gate_tf, ↓gate_ft, ↓gate_undef, ↓o_bind, ↓stay_v, ↓pop_cons, ↓fin_nil, Option.isNone_none, Option.isNone_some, Bool.not_true, Bool.not_false, Nat.zero_add, decide_true, decide_false, if_true, if_false, Bool.false_eq_true, ↓reduceIte]
  refine ld_at (b := b) h ?_
  rw [o_cap]
  try simp only [↓o_nil, ↓o_field, ↓o_add, ↓o_sub, ↓o_mul, ↓o_lss, ↓o_leq, ↓o_gtr, ↓o_geq, ↓o_not, ↓o_pick, ↓o_eqInt, ↓o_neInt, ↓o_eqBool, ↓o_neBool, ↓o_eqPtr, ↓o_nePtr, ↓o_eqPtr', ↓o_eqSl, ↓o_neSl, ↓o_eqStr, ↓o_neStr, ↓o_len, ↓o_lenS, ↓o_min, ↓o_max, ↓o_extract, ↓o_convInt, ↓cd_true, ↓cd_false, ↓gate_tt, ↓gate_ff, ↓gate_tf, ↓gate_ft, ↓gate_undef, ↓o_bind, ↓stay_v, ↓pop_cons, ↓fin_nil, Option.isNone_none, Option.isNone_some, Bool.not_true, Bool.not_false, Nat.zero_add, decide_true, decide_false, if_true, if_false, Bool.false_eq_true, ↓reduceIte]
  refine ld_at (b := b) h ?_
  simp only [↓o_nil, ↓o_field, ↓o_add, ↓o_sub, ↓o_mul, ↓o_lss, ↓o_leq, ↓o_gtr, ↓o_geq, ↓o_not, ↓o_pick, ↓o_eqInt, ↓o_neInt, ↓o_eqBool, ↓o_neBool, ↓o_eqPtr, ↓o_nePtr, ↓o_eqPtr', ↓o_eqSl, ↓o_neSl, ↓o_eqStr, ↓o_neStr, ↓o_len, ↓o_lenS, ↓o_min, ↓o_max, ↓o_extract, ↓o_convInt, ↓cd_true, ↓cd_false, ↓gate_tt, ↓gate_ff, ↓gate_tf, ↓gate_ft, ↓gate_undef, ↓o_bind, ↓stay_v, ↓pop_cons, ↓fin_nil, Option.isNone_none, Option.isNone_some, Bool.not_true, Bool.not_false, Nat.zero_add, decide_true, decide_false, if_true, if_false, Bool.false_eq_true, ↓reduceIte, show IntKind.i64.wrap ((0 : Nat) - (0 : Nat) : Int) = 0 from rfl]
  have hP : sat E w (pts b (.cells [.pointer (some ⟨b, 0, none⟩), .slice none 0 0].toArray 227 (0, 0)) * (osl 5 1 (.slice none 0 0) ([] : List UInt8).length (([] : List UInt8).map bv) * R)) := (osl_nil h 5 1).perm (star_left_comm _ _ _)
  refine cd_dec (fun hlt => ?_) (fun hge => ?_)
  · refine grow_spec (l := []) (.inr rfl) hn (by simp) rfl (by decide) hP fun w v' h => ?_
    exact k _ (sat_bld.2 ⟨_, v', .inr rfl, h⟩)
  · exact k _ (sat_bld.2 ⟨_, _, .inr rfl, hP⟩)
theorem WriteString_spec {b : Nat} {l s : List UInt8} (h : sat E w (bld b l * R)) (hl : l.length + s.length ≤ 140737488355328) (k : ∀ w', sat E w' (bld b (l ++ s) * R) → K (.tuple #[.int .i64 s.length, .nilIface]) w') :
    Calls prog 156 #[.pointer (some ⟨b, 0, none⟩), tv s] w (Ret K) := by
  obtain ⟨p, v, hp, h⟩ := sat_bld.1 h
  refine c156 ?_
  unfold B156
  refine copyCheck_spec hp h fun w h => ?_
  try simp only [↓o_nil, ↓o_field, ↓o_add, ↓o_sub, ↓o_mul, ↓o_lss, ↓o_leq, ↓o_gtr, ↓o_geq, ↓o_not, ↓o_pick, ↓o_eqInt, ↓o_neInt, ↓o_eqBool, ↓o_neBool, ↓o_eqPtr, ↓o_nePtr, ↓o_eqPtr', ↓o_eqSl, ↓o_neSl, ↓o_eqStr, ↓o_neStr, ↓o_len, ↓o_lenS, ↓o_min, ↓o_max, ↓o_extract, ↓o_convInt, ↓cd_true, ↓cd_false, ↓gate_tt, ↓gate_ff, ↓gate_tf, ↓gate_ft, ↓gate_undef, ↓o_bind, ↓stay_v, ↓pop_cons, ↓fin_nil, Option.isNone_none, Option.isNone_some, Bool.not_true, Bool.not_false, Nat.zero_add, decide_true, decide_false, if_true, if_false, Bool.false_eq_true, ↓reduceIte]
  refine ld_at (b := b) h ?_
  refine append_str (v := v) h hl fun v2 w h => ?_
  try simp only [↓o_nil, ↓o_field, ↓o_add, ↓o_sub, ↓o_mul, ↓o_lss, ↓o_leq, ↓o_gtr, ↓o_geq, ↓o_not, ↓o_pick, ↓o_eqInt, ↓o_neInt, ↓o_eqBool, ↓o_neBool, ↓o_eqPtr, ↓o_nePtr, ↓o_eqPtr', ↓o_eqSl, ↓o_neSl, ↓o_eqStr, ↓o_neStr, ↓o_len, ↓o_lenS, ↓o_min, ↓o_max, ↓o_extract, ↓o_convInt, ↓cd_true, ↓cd_false, ↓gate_tt, ↓gate_ff, ↓gate_tf, ↓gate_ft, ↓gate_undef, ↓o_bind, ↓stay_v, ↓pop_cons, ↓fin_nil, Option.isNone_none, Option.isNone_some, Bool.not_true, Bool.not_false, Nat.zero_add, decide_true, decide_false, if_true, if_false, Bool.false_eq_true, ↓reduceIte]
  have h := h.own b
  refine store_at (b := b) h ?_ (by simp) fun w h => ?_
  · obtain ⟨a, c, rfl, _, _, _⟩ := osl_shape (h.perm (star_comm _ _) |>.perm (star_assoc _ _ _))
    rfl
  · rw [o_lenT]
    refine k _ (sat_bld.2 ⟨_, v2, .inr rfl, ?_⟩)
    have e : l.map bv ++ s.map bv = (l ++ s).map bv := by simp
    rw [e] at h
    simpa using h
/-- What count tells of noughts. -/
theorem BCount_spec {s : List UInt8} (k : K (.int .i64 (s.count 0 : Nat)) w) : Calls prog 115 #[tv s, tv [0]] w (Ret K) := by
  refine c115 ?_
  unfold B115
  simp only [↓o_lenT, ↓o_nil, ↓o_field, ↓o_add, ↓o_sub, ↓o_mul, ↓o_lss, ↓o_leq, ↓o_gtr, ↓o_geq, ↓o_not, ↓o_pick, ↓o_eqInt, ↓o_neInt, ↓o_eqBool, ↓o_neBool, ↓o_eqPtr, ↓o_nePtr, ↓o_eqPtr', ↓o_eqSl, ↓o_neSl, ↓o_eqStr, ↓o_neStr, ↓o_len, ↓o_lenS, ↓o_min, ↓o_max, ↓o_extract, ↓o_convInt, ↓cd_true, ↓cd_false, ↓gate_tt, ↓gate_ff, ↓gate_tf, ↓gate_ft, ↓gate_undef, ↓o_bind, ↓stay_v, ↓pop_cons, ↓fin_nil, Option.isNone_none, Option.isNone_some, Bool.not_true, Bool.not_false, Nat.zero_add, decide_true, decide_false, if_true, if_false, Bool.false_eq_true, ↓reduceIte, show ([0] : List UInt8).length = 1 from rfl, show decide (((1 : Nat) : Int) = 0) = false from rfl, show decide (((1 : Nat) : Int) = 1) = true from rfl]
  rw [o_indexT (by decide) (by decide)]
  refine ef_ext (v := .int .i64 (s.count 0 : Nat)) (fun w => ?_) k
  have h1 : (oCall (.func (.func 146) #[] #[]) #[tv s, bv 0]).run prog w = (vN (Extern.BytealgCount.count #[.string ⟨s.toArray⟩, .int .u8 0])).run prog w := by kernel_rfl
  have e0 : bv (([0] : List UInt8).getD (Int.toNat 0) 0) = bv 0 := rfl
  rw [e0, h1]
  refine vN_run ?_
  have := Lib.run_countString (P := prog) ⟨s.toArray⟩ 0 w
  rw [this]
  rfl
theorem Index_spec {s : List UInt8} (k : K (.int .i64 (Lib.indexByte s 0)) w) : Calls prog 116 #[tv s, tv [0]] w (Ret K) := by
  refine c116 ?_
  unfold B116
  refine c147 ?_
  unfold B147
  by_cases hs : ([0] : List UInt8) = s
  · subst hs
    simp only [↓o_lenT, ↓o_eqT, decide_true, ↓o_nil, ↓o_field, ↓o_add, ↓o_sub, ↓o_mul, ↓o_lss, ↓o_leq, ↓o_gtr, ↓o_geq, ↓o_not, ↓o_pick, ↓o_eqInt, ↓o_neInt, ↓o_eqBool, ↓o_neBool, ↓o_eqPtr, ↓o_nePtr, ↓o_eqPtr', ↓o_eqSl, ↓o_neSl, ↓o_eqStr, ↓o_neStr, ↓o_len, ↓o_lenS, ↓o_min, ↓o_max, ↓o_extract, ↓o_convInt, ↓cd_true, ↓cd_false, ↓gate_tt, ↓gate_ff, ↓gate_tf, ↓gate_ft, ↓gate_undef, ↓o_bind, ↓stay_v, ↓pop_cons, ↓fin_nil, Option.isNone_none, Option.isNone_some, Bool.not_true, Bool.not_false, Nat.zero_add, decide_true, decide_false, if_true, if_false, Bool.false_eq_true, ↓reduceIte, show ([0] : List UInt8).length = 1 from rfl, show decide (((1 : Nat) : Int) = 0) = false from rfl]
    exact k
  have hne : decide (([0] : List UInt8) = s) = false := by rw [decide_eq_false_iff_not]; exact hs
  simp only [↓o_lenT, ↓o_eqT, hne, ↓o_nil, ↓o_field, ↓o_add, ↓o_sub, ↓o_mul, ↓o_lss, ↓o_leq, ↓o_gtr, ↓o_geq, ↓o_not, ↓o_pick, ↓o_eqInt, ↓o_neInt, ↓o_eqBool, ↓o_neBool, ↓o_eqPtr, ↓o_nePtr, ↓o_eqPtr', ↓o_eqSl, ↓o_neSl, ↓o_eqStr, ↓o_neStr, ↓o_len, ↓o_lenS, ↓o_min, ↓o_max, ↓o_extract, ↓o_convInt, ↓cd_true, ↓cd_false, ↓gate_tt, ↓gate_ff, ↓gate_tf, ↓gate_ft, ↓gate_undef, ↓o_bind, ↓stay_v, ↓pop_cons, ↓fin_nil, Option.isNone_none, Option.isNone_some, Bool.not_true, Bool.not_false, Nat.zero_add, decide_true, decide_false, if_true, if_false, Bool.false_eq_true, ↓reduceIte, show ([0] : List UInt8).length = 1 from rfl, show decide (((1 : Nat) : Int) = 0) = false from rfl, show decide (((1 : Nat) : Int) = 1) = true from rfl]
  rw [o_indexT (by decide) (by decide)]
  refine c174 ?_
  unfold B174
  refine ef_ext (v := .int .i64 (Lib.indexByte s 0)) (fun w => ?_) k
  have h1 : (oCall (.func (.func 189) #[] #[]) #[tv s, bv 0]).run prog w = (vN (Extern.BytealgIndexByte.indexByte #[.string ⟨s.toArray⟩, .int .u8 0])).run prog w := by kernel_rfl
  have e0 : bv (([0] : List UInt8).getD (Int.toNat 0) 0) = bv 0 := rfl
  rw [e0, h1]
  refine vN_run ?_
  have := Lib.run_indexByteString (P := prog) ⟨s.toArray⟩ 0 w
  rw [this]
  rfl
end Go.Proofs.YtmnaalpjhkkglaaGreatDoor

/-
  Numbers in eight bytes; slices put together; arrays seen in slices.
-/
set_option linter.all false
set_option maxRecDepth 100000
namespace Go.Proofs.YtmnaalpjhkkglaaGreatDoor
open Go Hold
variable {E : World0} {w : World} {H R : HP} {K : Value → World → Prop}
theorem bv_of (n : Nat) : Value.int .u8 (IntKind.u8.wrap (n : Int)) = bv (UInt8.ofNat n) := by
  have : IntKind.u8.wrap (n : Int) = ((n % 256 : Nat) : Int) := by rw [IntKind.wrap_u8]; omega
  rw [this]
  unfold bv
  congr 1
theorem arr_at {P : Program} {t e : TypeId} {len : Nat} [i : Ul P t (.array len e)] {a : Option Addr} {n c : Nat} (hn : len ≤ n) {K : Value → World → Prop} (k : K (.pointer a) w) : efv P (Instr.arrayAt t (.slice a n c)) w K := by
  refine efv_of (v := .pointer a) (w' := w) ?_ k
  simp [Instr.arrayAt, run_underlying' i.ul, Nat.not_lt.2 hn]
theorem eight_spec (h : sat E w H) {n : Nat} (hn : n < 18446744073709551616) (k : ∀ v w', sat E w' (osl 5 1 v 8 ((eightB n).map bv) * H) → K v w') : Calls prog 55 #[.int .u64 (n : Int)] w (Ret K) := by
  refine c55 ?_
  unfold B55
  refine make_sl h rfl (by omega) (by omega) (by omega) (by omega) fun b w h => ?_
  rw [show (8 : Int).toNat = 8 from rfl] at h ⊢
  try simp only [↓o_nil, ↓o_field, ↓o_add, ↓o_sub, ↓o_mul, ↓o_lss, ↓o_leq, ↓o_gtr, ↓o_geq, ↓o_not, ↓o_pick, ↓o_eqInt, ↓o_neInt, ↓o_eqBool, ↓o_neBool, ↓o_eqPtr, ↓o_nePtr, ↓o_eqPtr', ↓o_eqSl, ↓o_neSl, ↓o_eqStr, ↓o_neStr, ↓o_len, ↓o_lenS, ↓o_min, ↓o_max, ↓o_extract, ↓o_convInt, ↓cd_true, ↓cd_false, ↓gate_tt, ↓gate_ff, ↓gate_tf, ↓gate_ft, ↓gate_undef, ↓o_bind, ↓stay_v, ↓pop_cons, ↓fin_nil, Option.isNone_none, Option.isNone_some, Bool.not_true, Bool.not_false, Nat.zero_add, decide_true, decide_false, if_true, if_false, Bool.false_eq_true, ↓reduceIte]
  refine lp_nat (fun r σ w => ∃ i : Nat, σ = [.int .i64 i] ∧ r = 8 - i ∧ i ≤ 8 ∧ sat E w (pts b (.cells (((List.range i).map fun i => bv (UInt8.ofNat (n / 2 ^ (56 - 8 * i)))) ++ List.replicate (8 - i) (Value.int .u8 0)).toArray 5 (0, 0)) * H)) 8 ⟨0, rfl, rfl, by omega, by simpa using h⟩ ?_
  clear h
  rintro r σ w again ⟨i, rfl, rfl, hi, h⟩ hag
  try simp only [↓o_nil, ↓o_field, ↓o_add, ↓o_sub, ↓o_mul, ↓o_lss, ↓o_leq, ↓o_gtr, ↓o_geq, ↓o_not, ↓o_pick, ↓o_eqInt, ↓o_neInt, ↓o_eqBool, ↓o_neBool, ↓o_eqPtr, ↓o_nePtr, ↓o_eqPtr', ↓o_eqSl, ↓o_neSl, ↓o_eqStr, ↓o_neStr, ↓o_len, ↓o_lenS, ↓o_min, ↓o_max, ↓o_extract, ↓o_convInt, ↓cd_true, ↓cd_false, ↓gate_tt, ↓gate_ff, ↓gate_tf, ↓gate_ft, ↓gate_undef, ↓o_bind, ↓stay_v, ↓pop_cons, ↓fin_nil, Option.isNone_none, Option.isNone_some, Bool.not_true, Bool.not_false, Nat.zero_add, decide_true, decide_false, if_true, if_false, Bool.false_eq_true, ↓reduceIte]
  refine cd_dec (fun hlt => ?_) (fun hge => ?_)
  · have hlt : i < 8 := by omega
    rw [i64_of (n := 8 * (i : Int)) (by omega) (by omega), i64_of (n := 56 - 8 * (i : Int)) (by omega) (by omega), show 56 - 8 * (i : Int) = ((56 - 8 * i : Nat) : Int) by omega, o_shr (by show 56 - 8 * i ≤ 64; omega)]
    try simp only [↓o_nil, ↓o_field, ↓o_add, ↓o_sub, ↓o_mul, ↓o_lss, ↓o_leq, ↓o_gtr, ↓o_geq, ↓o_not, ↓o_pick, ↓o_eqInt, ↓o_neInt, ↓o_eqBool, ↓o_neBool, ↓o_eqPtr, ↓o_nePtr, ↓o_eqPtr', ↓o_eqSl, ↓o_neSl, ↓o_eqStr, ↓o_neStr, ↓o_len, ↓o_lenS, ↓o_min, ↓o_max, ↓o_extract, ↓o_convInt, ↓cd_true, ↓cd_false, ↓gate_tt, ↓gate_ff, ↓gate_tf, ↓gate_ft, ↓gate_undef, ↓o_bind, ↓stay_v, ↓pop_cons, ↓fin_nil, Option.isNone_none, Option.isNone_some, Bool.not_true, Bool.not_false, Nat.zero_add, decide_true, decide_false, if_true, if_false, Bool.false_eq_true, ↓reduceIte]
    rw [bv_of, o_index (by omega) (by omega)]
    simp only [Int.toNat_natCast, Nat.mul_one, Nat.zero_add]
    refine store_sl (b := b) h rfl (by simp; omega) fun w h => ?_
    rw [set_fill (by simp) hlt] at h
    try simp only [↓o_nil, ↓o_field, ↓o_add, ↓o_sub, ↓o_mul, ↓o_lss, ↓o_leq, ↓o_gtr, ↓o_geq, ↓o_not, ↓o_pick, ↓o_eqInt, ↓o_neInt, ↓o_eqBool, ↓o_neBool, ↓o_eqPtr, ↓o_nePtr, ↓o_eqPtr', ↓o_eqSl, ↓o_neSl, ↓o_eqStr, ↓o_neStr, ↓o_len, ↓o_lenS, ↓o_min, ↓o_max, ↓o_extract, ↓o_convInt, ↓cd_true, ↓cd_false, ↓gate_tt, ↓gate_ff, ↓gate_tf, ↓gate_ft, ↓gate_undef, ↓o_bind, ↓stay_v, ↓pop_cons, ↓fin_nil, Option.isNone_none, Option.isNone_some, Bool.not_true, Bool.not_false, Nat.zero_add, decide_true, decide_false, if_true, if_false, Bool.false_eq_true, ↓reduceIte]
    rw [i64_of (by omega) (by omega)]
    refine hag (8 - (i + 1)) _ _ (by omega) ⟨i + 1, rfl, rfl, by omega, ?_⟩
    rw [List.range_succ, List.map_append]
    exact h
  · have : i = 8 := by omega
    subst this
    refine k _ w ?_
    have h := osl_of (n := 8) (sz := 1) h (by simp) (by omega)
    have e : (eightB n).map bv = (List.range 8).map fun i => bv (UInt8.ofNat (n / 2 ^ (56 - 8 * i))) := by unfold eightB; rw [List.map_map]; rfl
    rw [e]
    simpa using h
/-- append(nil, make(n)...), emptied. -/
theorem Grow_nil (h : sat E w H) {n : Nat} (hn : n ≤ 1000000) (k : ∀ v w', sat E w' (osl 5 1 v 0 [] * H) → K v w') : Calls prog 158 #[.slice none 0 0, .int .i64 n] w (Ret K) := by
  refine c158 ?_
  unfold B158
  refine jn_cut (fun σ w => σ = [] ∧ sat E w H) (fun kk hk => ?_) ?_
  · simp only [decide_eq_false (show ¬ (n : Int) < 0 by omega), ↓o_nil, ↓o_field, ↓o_add, ↓o_sub, ↓o_mul, ↓o_lss, ↓o_leq, ↓o_gtr, ↓o_geq, ↓o_not, ↓o_pick, ↓o_eqInt, ↓o_neInt, ↓o_eqBool, ↓o_neBool, ↓o_eqPtr, ↓o_nePtr, ↓o_eqPtr', ↓o_eqSl, ↓o_neSl, ↓o_eqStr, ↓o_neStr, ↓o_len, ↓o_lenS, ↓o_min, ↓o_max, ↓o_extract, ↓o_convInt, ↓cd_true, ↓cd_false, ↓gate_tt, ↓gate_ff, ↓gate_tf, ↓gate_ft, ↓gate_undef, ↓o_bind, ↓stay_v, ↓pop_cons, ↓fin_nil, Option.isNone_none, Option.isNone_some, Bool.not_true, Bool.not_false, Nat.zero_add, decide_true, decide_false, if_true, if_false, Bool.false_eq_true, ↓reduceIte]
    exact hk _ _ ⟨rfl, h⟩
  · clear h
    rintro σ w ⟨rfl, h⟩
    rw [fin_nil]
    refine jn_cut (fun σ w => ∃ v, σ = [v] ∧ sat E w (osl 5 1 v 0 [] * H)) (fun kk hk => ?_) ?_
    · try simp only [↓o_nil, ↓o_field, ↓o_add, ↓o_sub, ↓o_mul, ↓o_lss, ↓o_leq, ↓o_gtr, ↓o_geq, ↓o_not, ↓o_pick, ↓o_eqInt, ↓o_neInt, ↓o_eqBool, ↓o_neBool, ↓o_eqPtr, ↓o_nePtr, ↓o_eqPtr', ↓o_eqSl, ↓o_neSl, ↓o_eqStr, ↓o_neStr, ↓o_len, ↓o_lenS, ↓o_min, ↓o_max, ↓o_extract, ↓o_convInt, ↓cd_true, ↓cd_false, ↓gate_tt, ↓gate_ff, ↓gate_tf, ↓gate_ft, ↓gate_undef, ↓o_bind, ↓stay_v, ↓pop_cons, ↓fin_nil, Option.isNone_none, Option.isNone_some, Bool.not_true, Bool.not_false, Nat.zero_add, decide_true, decide_false, if_true, if_false, Bool.false_eq_true, ↓reduceIte]
      rw [o_cap]
      try simp only [o_cap, ↓o_nil, ↓o_field, ↓o_add, ↓o_sub, ↓o_mul, ↓o_lss, ↓o_leq, ↓o_gtr, ↓o_geq, ↓o_not, ↓o_pick, ↓o_eqInt, ↓o_neInt, ↓o_eqBool, ↓o_neBool, ↓o_eqPtr, ↓o_nePtr, ↓o_eqPtr', ↓o_eqSl, ↓o_neSl, ↓o_eqStr, ↓o_neStr, ↓o_len, ↓o_lenS, ↓o_min, ↓o_max, ↓o_extract, ↓o_convInt, ↓cd_true, ↓cd_false, ↓gate_tt, ↓gate_ff, ↓gate_tf, ↓gate_ft, ↓gate_undef, ↓o_bind, ↓stay_v, ↓pop_cons, ↓fin_nil, Option.isNone_none, Option.isNone_some, Bool.not_true, Bool.not_false, Nat.zero_add, decide_true, decide_false, if_true, if_false, Bool.false_eq_true, ↓reduceIte]
      rw [show ((0 : Nat) : Int) = 0 from rfl, i64_of (n := (0 : Int) - 0) (by omega) (by omega), i64_of (n := (n : Int) - (0 - 0)) (by omega) (by omega)]
      by_cases h0 : (0 : Int) < (n : Int) - (0 - 0)
      · simp only [decide_eq_true h0, ↓o_nil, ↓o_field, ↓o_add, ↓o_sub, ↓o_mul, ↓o_lss, ↓o_leq, ↓o_gtr, ↓o_geq, ↓o_not, ↓o_pick, ↓o_eqInt, ↓o_neInt, ↓o_eqBool, ↓o_neBool, ↓o_eqPtr, ↓o_nePtr, ↓o_eqPtr', ↓o_eqSl, ↓o_neSl, ↓o_eqStr, ↓o_neStr, ↓o_len, ↓o_lenS, ↓o_min, ↓o_max, ↓o_extract, ↓o_convInt, ↓cd_true, ↓cd_false, ↓gate_tt, ↓gate_ff, ↓gate_tf, ↓gate_ft, ↓gate_undef, ↓o_bind, ↓stay_v, ↓pop_cons, ↓fin_nil, Option.isNone_none, Option.isNone_some, Bool.not_true, Bool.not_false, Nat.zero_add, decide_true, decide_false, if_true, if_false, Bool.false_eq_true, ↓reduceIte]
        rw [o_slice_h (by omega) (by omega)]
        have h := osl_nil h 5 1
        rw [show (n : Int) - (0 - 0) = (n : Int) by omega]
        refine append_noughts (v := .slice none 0 0) (xs := []) (n := 0) h rfl (by omega) (by omega) fun v w h => ?_
        rcases sat_osl.1 h with ⟨_, e, _⟩ | ⟨b, c, sp, rfl, hxl, htot, hcl, hcm, hP⟩
        · omega
        · try simp only [↓o_nil, ↓o_field, ↓o_add, ↓o_sub, ↓o_mul, ↓o_lss, ↓o_leq, ↓o_gtr, ↓o_geq, ↓o_not, ↓o_pick, ↓o_eqInt, ↓o_neInt, ↓o_eqBool, ↓o_neBool, ↓o_eqPtr, ↓o_nePtr, ↓o_eqPtr', ↓o_eqSl, ↓o_neSl, ↓o_eqStr, ↓o_neStr, ↓o_len, ↓o_lenS, ↓o_min, ↓o_max, ↓o_extract, ↓o_convInt, ↓cd_true, ↓cd_false, ↓gate_tt, ↓gate_ff, ↓gate_tf, ↓gate_ft, ↓gate_undef, ↓o_bind, ↓stay_v, ↓pop_cons, ↓fin_nil, Option.isNone_none, Option.isNone_some, Bool.not_true, Bool.not_false, Nat.zero_add, decide_true, decide_false, if_true, if_false, Bool.false_eq_true, ↓reduceIte]
          rw [o_slice_h (by omega) (by omega)]
          have ec : cutA (some ⟨b, 0, none⟩) c 0 1 = some ⟨b, 0, none⟩ := by
            unfold cutA
            rw [if_neg (by omega)]
            show some ((⟨b, 0, none⟩ : Addr).add 0) = _
            rw [add_addr]
          try rw [ec]
          refine hk _ _ ⟨_, rfl, sat_osl.2 (.inr ⟨b, c, List.replicate n (Value.int .u8 0) ++ sp, rfl, rfl, ?_, Nat.zero_le _, hcm, ?_⟩)⟩
          · simpa using htot
          · simpa using hP
      · simp only [decide_eq_false h0, ↓o_nil, ↓o_field, ↓o_add, ↓o_sub, ↓o_mul, ↓o_lss, ↓o_leq, ↓o_gtr, ↓o_geq, ↓o_not, ↓o_pick, ↓o_eqInt, ↓o_neInt, ↓o_eqBool, ↓o_neBool, ↓o_eqPtr, ↓o_nePtr, ↓o_eqPtr', ↓o_eqSl, ↓o_neSl, ↓o_eqStr, ↓o_neStr, ↓o_len, ↓o_lenS, ↓o_min, ↓o_max, ↓o_extract, ↓o_convInt, ↓cd_true, ↓cd_false, ↓gate_tt, ↓gate_ff, ↓gate_tf, ↓gate_ft, ↓gate_undef, ↓o_bind, ↓stay_v, ↓pop_cons, ↓fin_nil, Option.isNone_none, Option.isNone_some, Bool.not_true, Bool.not_false, Nat.zero_add, decide_true, decide_false, if_true, if_false, Bool.false_eq_true, ↓reduceIte]
        exact hk _ _ ⟨_, rfl, osl_nil h 5 1⟩
    · clear h
      rintro σ w ⟨v, rfl, h⟩
      exact k v w h
def catB (qs : List (Value × Bs)) : Bs := qs.flatMap (·.2)
theorem Concat_spec (h : sat E w H) {u : Value} {qs : List (Value × Bs)} (hu : Rds H u qs.length (qs.map (·.1))) (hq : ∀ q ∈ qs, Rds H q.1 q.2.length (q.2.map bv)) (hl : qs.length ≤ 100) (hb : ∀ q ∈ qs, q.2.length ≤ 1000)
    (k : ∀ v w', sat E w' (osl 5 1 v (catB qs).length ((catB qs).map bv) * H) → K v w') : Calls prog 127 #[u] w (Ret K) := by
  obtain ⟨a, c, rfl, hc, hu, _⟩ := hu.shape h
  have hpre : ∀ i, i ≤ qs.length → (catB (qs.take i)).length ≤ 1000 * i := fun i => by
    induction i with
    | zero => intro _; simp [catB]
    | succ i ih =>
      intro hi
      have h1 := ih (by omega)
      have h2 := hb _ (List.getElem_mem (show i < qs.length by omega))
      rw [List.take_succ_eq_append_getElem (by omega)]
      unfold catB at h1 ⊢
      rw [List.flatMap_append, List.length_append]
      simp only [List.flatMap_cons, List.flatMap_nil, List.append_nil]
      omega
  have hnext : ∀ i (hi : i < qs.length), catB (qs.take (i + 1)) = catB (qs.take i) ++ qs[i].2 := fun i hi => by
    rw [List.take_succ_eq_append_getElem hi]
    unfold catB
    rw [List.flatMap_append]
    simp
  refine c127 ?_
  unfold B127
  try simp only [↓o_nil, ↓o_field, ↓o_add, ↓o_sub, ↓o_mul, ↓o_lss, ↓o_leq, ↓o_gtr, ↓o_geq, ↓o_not, ↓o_pick, ↓o_eqInt, ↓o_neInt, ↓o_eqBool, ↓o_neBool, ↓o_eqPtr, ↓o_nePtr, ↓o_eqPtr', ↓o_eqSl, ↓o_neSl, ↓o_eqStr, ↓o_neStr, ↓o_len, ↓o_lenS, ↓o_min, ↓o_max, ↓o_extract, ↓o_convInt, ↓cd_true, ↓cd_false, ↓gate_tt, ↓gate_ff, ↓gate_tf, ↓gate_ft, ↓gate_undef, ↓o_bind, ↓stay_v, ↓pop_cons, ↓fin_nil, Option.isNone_none, Option.isNone_some, Bool.not_true, Bool.not_false, Nat.zero_add, decide_true, decide_false, if_true, if_false, Bool.false_eq_true, ↓reduceIte]
  refine lp_nat (fun r σ w => ∃ i : Nat, σ = [.int .i64 ((catB (qs.take i)).length : Nat), .int .i64 i] ∧ r = qs.length - i ∧ i ≤ qs.length ∧ sat E w H) qs.length ⟨0, rfl, rfl, by omega, h⟩ ?_
  clear h
  rintro r σ w again ⟨i, rfl, rfl, hi, h⟩ hag
  try simp only [↓o_nil, ↓o_field, ↓o_add, ↓o_sub, ↓o_mul, ↓o_lss, ↓o_leq, ↓o_gtr, ↓o_geq, ↓o_not, ↓o_pick, ↓o_eqInt, ↓o_neInt, ↓o_eqBool, ↓o_neBool, ↓o_eqPtr, ↓o_nePtr, ↓o_eqPtr', ↓o_eqSl, ↓o_neSl, ↓o_eqStr, ↓o_neStr, ↓o_len, ↓o_lenS, ↓o_min, ↓o_max, ↓o_extract, ↓o_convInt, ↓cd_true, ↓cd_false, ↓gate_tt, ↓gate_ff, ↓gate_tf, ↓gate_ft, ↓gate_undef, ↓o_bind, ↓stay_v, ↓pop_cons, ↓fin_nil, Option.isNone_none, Option.isNone_some, Bool.not_true, Bool.not_false, Nat.zero_add, decide_true, decide_false, if_true, if_false, Bool.false_eq_true, ↓reduceIte]
  have hp1 := hpre i hi
  refine cd_dec (fun hlt => ?_) (fun hge => ?_)
  · have hlt : i < qs.length := by omega
    have hm := List.getElem_mem hlt
    have hql := hb _ hm
    refine jn_cut (fun σ w => σ = [.int .i64 ((catB (qs.take (i + 1))).length : Nat)] ∧ sat E w H) (fun kk hk => ?_) ?_
    · obtain ⟨b1, o1, rfl, hb1⟩ := win_cell (hu.win h) (j := i) (by simpa using hlt)
      rw [o_index (by omega) (by omega)]
      simp only [Int.toNat_natCast, Nat.mul_one]
      refine ld_cell hb1 ?_
      rw [List.getElem_map]
      obtain ⟨a2, c2, e2, hc2, _, _⟩ := (hq _ hm).shape h
      rw [e2]
      try simp only [↓o_nil, ↓o_field, ↓o_add, ↓o_sub, ↓o_mul, ↓o_lss, ↓o_leq, ↓o_gtr, ↓o_geq, ↓o_not, ↓o_pick, ↓o_eqInt, ↓o_neInt, ↓o_eqBool, ↓o_neBool, ↓o_eqPtr, ↓o_nePtr, ↓o_eqPtr', ↓o_eqSl, ↓o_neSl, ↓o_eqStr, ↓o_neStr, ↓o_len, ↓o_lenS, ↓o_min, ↓o_max, ↓o_extract, ↓o_convInt, ↓cd_true, ↓cd_false, ↓gate_tt, ↓gate_ff, ↓gate_tf, ↓gate_ft, ↓gate_undef, ↓o_bind, ↓stay_v, ↓pop_cons, ↓fin_nil, Option.isNone_none, Option.isNone_some, Bool.not_true, Bool.not_false, Nat.zero_add, decide_true, decide_false, if_true, if_false, Bool.false_eq_true, ↓reduceIte]
      rw [i64_of (by omega) (by omega)]
      have hs : ((catB (qs.take i)).length : Int) + (qs[i].2.length : Int) = ((catB (qs.take (i + 1))).length : Nat) := by rw [hnext i hlt, List.length_append]; omega
      rw [hs]
      simp only [decide_eq_false (show ¬ (((catB (qs.take (i + 1))).length : Nat) : Int) < 0 by omega), ↓o_nil, ↓o_field, ↓o_add, ↓o_sub, ↓o_mul, ↓o_lss, ↓o_leq, ↓o_gtr, ↓o_geq, ↓o_not, ↓o_pick, ↓o_eqInt, ↓o_neInt, ↓o_eqBool, ↓o_neBool, ↓o_eqPtr, ↓o_nePtr, ↓o_eqPtr', ↓o_eqSl, ↓o_neSl, ↓o_eqStr, ↓o_neStr, ↓o_len, ↓o_lenS, ↓o_min, ↓o_max, ↓o_extract, ↓o_convInt, ↓cd_true, ↓cd_false, ↓gate_tt, ↓gate_ff, ↓gate_tf, ↓gate_ft, ↓gate_undef, ↓o_bind, ↓stay_v, ↓pop_cons, ↓fin_nil, Option.isNone_none, Option.isNone_some, Bool.not_true, Bool.not_false, Nat.zero_add, decide_true, decide_false, if_true, if_false, Bool.false_eq_true, ↓reduceIte]
      exact hk _ _ ⟨rfl, h⟩
    · clear h
      rintro σ w ⟨rfl, h⟩
      try simp only [↓o_nil, ↓o_field, ↓o_add, ↓o_sub, ↓o_mul, ↓o_lss, ↓o_leq, ↓o_gtr, ↓o_geq, ↓o_not, ↓o_pick, ↓o_eqInt, ↓o_neInt, ↓o_eqBool, ↓o_neBool, ↓o_eqPtr, ↓o_nePtr, ↓o_eqPtr', ↓o_eqSl, ↓o_neSl, ↓o_eqStr, ↓o_neStr, ↓o_len, ↓o_lenS, ↓o_min, ↓o_max, ↓o_extract, ↓o_convInt, ↓cd_true, ↓cd_false, ↓gate_tt, ↓gate_ff, ↓gate_tf, ↓gate_ft, ↓gate_undef, ↓o_bind, ↓stay_v, ↓pop_cons, ↓fin_nil, Option.isNone_none, Option.isNone_some, Bool.not_true, Bool.not_false, Nat.zero_add, decide_true, decide_false, if_true, if_false, Bool.false_eq_true, ↓reduceIte]
      rw [i64_of (by omega) (by omega)]
      exact hag (qs.length - (i + 1)) _ _ (by omega) ⟨i + 1, rfl, rfl, by omega, h⟩
  · have hil : i = qs.length := by omega
    subst hil
    clear hag
    refine Grow_nil h (by omega) fun v w h => ?_
    try simp only [↓o_nil, ↓o_field, ↓o_add, ↓o_sub, ↓o_mul, ↓o_lss, ↓o_leq, ↓o_gtr, ↓o_geq, ↓o_not, ↓o_pick, ↓o_eqInt, ↓o_neInt, ↓o_eqBool, ↓o_neBool, ↓o_eqPtr, ↓o_nePtr, ↓o_eqPtr', ↓o_eqSl, ↓o_neSl, ↓o_eqStr, ↓o_neStr, ↓o_len, ↓o_lenS, ↓o_min, ↓o_max, ↓o_extract, ↓o_convInt, ↓cd_true, ↓cd_false, ↓gate_tt, ↓gate_ff, ↓gate_tf, ↓gate_ft, ↓gate_undef, ↓o_bind, ↓stay_v, ↓pop_cons, ↓fin_nil, Option.isNone_none, Option.isNone_some, Bool.not_true, Bool.not_false, Nat.zero_add, decide_true, decide_false, if_true, if_false, Bool.false_eq_true, ↓reduceIte]
    refine lp_nat (fun r σ w => ∃ (i : Nat) (v : Value), σ = [v, .int .i64 i] ∧ r = qs.length - i ∧ i ≤ qs.length ∧ sat E w (osl 5 1 v (catB (qs.take i)).length ((catB (qs.take i)).map bv) * H)) qs.length ⟨0, v, rfl, rfl, by omega, h⟩ ?_
    clear h
    rintro r σ w again ⟨i, v, rfl, rfl, hi, h⟩ hag
    have hp2 := hpre i hi
    try simp only [↓o_nil, ↓o_field, ↓o_add, ↓o_sub, ↓o_mul, ↓o_lss, ↓o_leq, ↓o_gtr, ↓o_geq, ↓o_not, ↓o_pick, ↓o_eqInt, ↓o_neInt, ↓o_eqBool, ↓o_neBool, ↓o_eqPtr, ↓o_nePtr, ↓o_eqPtr', ↓o_eqSl, ↓o_neSl, ↓o_eqStr, ↓o_neStr, ↓o_len, ↓o_lenS, ↓o_min, ↓o_max, ↓o_extract, ↓o_convInt, ↓cd_true, ↓cd_false, ↓gate_tt, ↓gate_ff, ↓gate_tf, ↓gate_ft, ↓gate_undef, ↓o_bind, ↓stay_v, ↓pop_cons, ↓fin_nil, Option.isNone_none, Option.isNone_some, Bool.not_true, Bool.not_false, Nat.zero_add, decide_true, decide_false, if_true, if_false, Bool.false_eq_true, ↓reduceIte]
    refine cd_dec (fun hlt => ?_) (fun hge => ?_)
    · have hlt : i < qs.length := by omega
      have hm := List.getElem_mem hlt
      have hql := hb _ hm
      obtain ⟨b1, o1, rfl, hb1⟩ := win_cell (hu.win h.drop) (j := i) (by simpa using hlt)
      rw [o_index (by omega) (by omega)]
      simp only [Int.toNat_natCast, Nat.mul_one]
      refine ld_cell hb1 ?_
      rw [List.getElem_map]
      obtain ⟨a2, c2, e2, hc2, hv2, _⟩ := (hq _ hm).shape h.drop
      rw [e2]
      refine append_sl (v := v) h (qs[i].2.map bv) (k' := qs[i].2.length) (by simp) (hv2.win h.drop) (bv_one _) (by omega) (by omega) fun v' w h => ?_
      try simp only [↓o_nil, ↓o_field, ↓o_add, ↓o_sub, ↓o_mul, ↓o_lss, ↓o_leq, ↓o_gtr, ↓o_geq, ↓o_not, ↓o_pick, ↓o_eqInt, ↓o_neInt, ↓o_eqBool, ↓o_neBool, ↓o_eqPtr, ↓o_nePtr, ↓o_eqPtr', ↓o_eqSl, ↓o_neSl, ↓o_eqStr, ↓o_neStr, ↓o_len, ↓o_lenS, ↓o_min, ↓o_max, ↓o_extract, ↓o_convInt, ↓cd_true, ↓cd_false, ↓gate_tt, ↓gate_ff, ↓gate_tf, ↓gate_ft, ↓gate_undef, ↓o_bind, ↓stay_v, ↓pop_cons, ↓fin_nil, Option.isNone_none, Option.isNone_some, Bool.not_true, Bool.not_false, Nat.zero_add, decide_true, decide_false, if_true, if_false, Bool.false_eq_true, ↓reduceIte]
      rw [i64_of (by omega) (by omega)]
      refine hag (qs.length - (i + 1)) _ _ (by omega) ⟨i + 1, v', rfl, rfl, by omega, ?_⟩
      rw [hnext i hlt, List.length_append, List.map_append]
      exact h
    · have hil : i = qs.length := by omega
      subst hil
      rw [List.take_length] at h
      exact k v w h
theorem Size_spec {n : Nat} (hn : n ≤ 1024) (k : K (.int .i64 (n + 24 : Nat)) w) : Calls prog 58 #[.int .i64 n] w (Ret K) := by
  refine c58 ?_
  unfold B58
  simp only [decide_eq_false (show ¬ (n : Int) < 0 by omega), decide_eq_false (show ¬ (1024 : Int) < (n : Int) by omega), ↓o_nil, ↓o_field, ↓o_add, ↓o_sub, ↓o_mul, ↓o_lss, ↓o_leq, ↓o_gtr, ↓o_geq, ↓o_not, ↓o_pick, ↓o_eqInt, ↓o_neInt, ↓o_eqBool, ↓o_neBool, ↓o_eqPtr, ↓o_nePtr, ↓o_eqPtr', ↓o_eqSl, ↓o_neSl, ↓o_eqStr, ↓o_neStr, ↓o_len, ↓o_lenS, ↓o_min, ↓o_max, ↓o_extract, ↓o_convInt, ↓cd_true, ↓cd_false, ↓gate_tt, ↓gate_ff, ↓gate_tf, ↓gate_ft, ↓gate_undef, ↓o_bind, ↓stay_v, ↓pop_cons, ↓fin_nil, Option.isNone_none, Option.isNone_some, Bool.not_true, Bool.not_false, Nat.zero_add, decide_true, decide_false, if_true, if_false, Bool.false_eq_true, ↓reduceIte]
  rw [i64_of (by omega) (by omega)]
  exact k
end Go.Proofs.YtmnaalpjhkkglaaGreatDoor

/-
  Tags.
-/
set_option linter.all false
set_option maxRecDepth 10000
namespace Go.Proofs.YtmnaalpjhkkglaaGreatDoor
open Go Hold
variable {E : World0} {w : World} {H R : HP} {K : Value → World → Prop}
theorem Tag_spec (h : sat E w H) {vk vb : Value} {key b : List UInt8} (hk : Rds H vk key.length (key.map bv)) (hb : Rds H vb b.length (b.map bv)) (hkl : key.length ≤ 140737488355000) (hbl : b.length + 64 ≤ 140737488355000)
    (k : ∀ w', sat E w' H → K (.agg ((tag key b).map bv).toArray) w') : Calls prog 68 #[vk, vb] w (Ret K) := by
  obtain ⟨ab, cb, rfl, hcb, hb, hab⟩ := hb.shape h
  obtain ⟨ak, ck, rfl, hck, hk, hak⟩ := hk.shape h
  refine c68 ?_
  unfold B68
  refine alloc_sl h fun b0 w h => ?_
  have h : sat E w (pts b0 (.cells ((List.replicate 32 (0 : UInt8)).map bv).toArray 28 (0, 0)) * H) := h
  refine jn_cut (fun σ w => ∃ v X, σ = [v] ∧ sat E w (X * (pts b0 (.cells ((List.replicate 32 (0 : UInt8)).map bv).toArray 28 (0, 0)) * H)) ∧ Rds (X * (pts b0 (.cells ((List.replicate 32 (0 : UInt8)).map bv).toArray 28 (0, 0)) * H)) v (key0 key).length ((key0 key).map bv)) ?_ ?_
  · intro kk hkk
    rw [o_len, o_gtr]
    refine cd_dec (fun hlt => ?_) (fun hge => ?_)
    · have e : key0 key = sha key := by unfold key0; rw [if_pos (by omega)]
      refine Sum_spec h hk.right hkl fun w h => ?_
      refine hash_var h (sha_length key) fun b1 w h => ?_
      rw [o_sliceA]
      refine hkk _ _ ⟨_, _, rfl, h, ?_⟩
      rw [e, sha_length]
      exact rds_block (b := b1) (Nat.le_refl _)
    · have e : key0 key = key := by unfold key0; rw [if_neg (by omega)]
      refine hkk _ _ ⟨_, emp, rfl, by rw [emp_star]; exact h, ?_⟩
      rw [e, emp_star]
      exact hk.right
  · rintro σ w ⟨v, X, rfl, h, hv⟩
    clear hk
    have hk0 := key0_length key
    obtain ⟨a0, c0, rfl, hc0, hv, ha0⟩ := hv.shape h
    rw [pop_cons, fin_nil]
    refine alloc_sl h fun b1 w h => ?_
    refine alloc_sl h fun b2 w h => ?_
    have h : sat E w (pts b2 (.cells (List.replicate 64 (bv 0)).toArray 171 (0, 0)) * (pts b1 (.cells (List.replicate 64 (bv 0)).toArray 171 (0, 0)) * (X * (pts b0 (.cells ((List.replicate 32 (0 : UInt8)).map bv).toArray 28 (0, 0)) * H)))) := h
    rw [o_sliceA]
    refine copy_in (b := b1) h (news := (key0 key).map bv) (by simp; omega) (hv.win h.drop.drop) (bv_one _) (by simp; omega) fun w h => ?_
    have e1 : (List.replicate 64 (bv 0)).take 0 ++ (key0 key).map bv ++ (List.replicate 64 (bv 0)).drop (0 + ((key0 key).map bv).length) = (filled key).map bv := by
      simp only [filled, List.take_zero, List.nil_append, List.length_map, Nat.zero_add, List.drop_replicate, List.map_append, List.map_replicate]
    rw [e1] at h
    have hfl : ((filled key).map bv).length = 64 := by rw [List.length_map, filled_length]
    refine ld_agg (b := b1) h hfl ?_
    refine storeN_sl (b := b2) h (aggC_171).size (vs := (filled key).map bv) (by simp [Value.cells]) hfl (bv_one _) (by simp) fun w h => ?_
    have e2 : (List.replicate 64 (bv 0)).take 0 ++ (filled key).map bv ++ (List.replicate 64 (bv 0)).drop (0 + 64) = (filled key).map bv := by simp
    rw [e2] at h
    have hin : ((filled key).map (· ^^^ 54)).length = 64 := by rw [List.length_map, filled_length]
    have hout : ((filled key).map (· ^^^ 92)).length = 64 := by rw [List.length_map, filled_length]
    refine lp_nat (fun q σ w => ∃ i : Nat, σ = [.int .i64 i] ∧ q = 64 - i ∧ i ≤ 64 ∧
      sat E w (pts b2 (.cells ((((filled key).map (· ^^^ 92)).take i ++ (filled key).drop i).map bv).toArray 171 (0, 0)) * (pts b1 (.cells ((((filled key).map (· ^^^ 54)).take i ++ (filled key).drop i).map bv).toArray 171 (0, 0)) * (X * (pts b0 (.cells ((List.replicate 32 (0 : UInt8)).map bv).toArray 28 (0, 0)) * H))))) 64
      ⟨0, rfl, rfl, by omega, by simpa using h⟩ ?_
    clear h
    rintro q σ w again ⟨i, rfl, rfl, hi, h⟩ hag
    rw [pop_cons, fin_nil, o_lss]
    refine cd_dec (fun hlt => ?_) (fun hge => ?_)
    · have hlt : i < 64 := by omega
      have ix : ∀ {b : Nat} {w : World} {K : Value → World → Prop}, pvv prog (Instr.indexAt 171 (.pointer (some ⟨b, 0, none⟩)) (.int .i64 (i : Int))) w K = K (.pointer (some ⟨b, i, none⟩)) w := fun {b w K} => by
        rw [o_indexA (by omega) (by omega)]; simp
      have gx : ∀ (f : UInt8 → UInt8), (((((filled key).map f).take i ++ (filled key).drop i).map bv))[i]? = some (bv ((filled key).getD i 0)) := fun f => by
        rw [List.getElem?_map, take_drop_get (n := 64) (by rw [List.length_map, filled_length]) hlt, ← List.getElem?_map]
        exact getbv (by rw [filled_length]; exact hlt)
      have sx : ∀ (f : UInt8 → UInt8), ((((filled key).map f).take i ++ (filled key).drop i).map bv).set i (bv (f ((filled key).getD i 0))) = (((filled key).map f).take (i + 1) ++ (filled key).drop (i + 1)).map bv := fun f => by
        rw [← List.map_set]
        congr 1
        refine take_drop_set (n := 64) (by rw [List.length_map, filled_length]) (filled_length _) hlt ?_
        have : i < (filled key).length := by rw [filled_length]; exact hlt
        simp [List.getD_eq_getElem?_getD, this]
      have lx : ∀ (f : UInt8 → UInt8), i < ((((filled key).map f).take i ++ (filled key).drop i).map bv).length := fun f => by
        simp [filled_length]; omega
      rw [ix]
      refine ld_in (b := b1) h (gx _) ?_
      rw [show Value.int .u8 54 = bv 54 from rfl, o_xorB, ix]
      refine store_sl (b := b1) h rfl (lx _) fun w h => ?_
      rw [sx (· ^^^ 54), ix] at *
      refine ld_in (b := b2) h (gx _) ?_
      rw [show Value.int .u8 92 = bv 92 from rfl, o_xorB, ix]
      refine store_sl (b := b2) h rfl (lx _) fun w h => ?_
      rw [sx (· ^^^ 92)] at h
      rw [o_add, i64_of (by omega) (by omega)]
      exact hag (64 - (i + 1)) _ _ (by omega) ⟨i + 1, rfl, rfl, by omega, h⟩
    · have hi2 : i = 64 := by omega
      subst hi2
      rw [List.take_of_length_le (by omega), List.drop_eq_nil_of_le (by rw [filled_length]; omega), List.append_nil, List.take_of_length_le (by omega), List.append_nil] at h
      rw [o_sliceA]
      refine append_full h (xs := ((filled key).map (· ^^^ 54)).map bv) (by simpa using hin) (rds_block (b := b1) (Nat.le_refl _)) (b.map bv) (by simp) (hb.win h.drop.drop.drop.drop) (bv_one b) (by omega) (by omega) fun v3 w Y h hv3 => ?_
      refine Sum_spec (b := (filled key).map (· ^^^ 54) ++ b) h (by rw [List.length_append, hin, List.map_append]; exact hv3) (by simp [filled_length]; omega) fun w h => ?_
      refine hash_var h (sha_length _) fun b3 w h => ?_
      refine dr_sl h fun w h _ => ?_
      rw [o_sliceA, o_sliceA]
      refine append_full h (xs := ((filled key).map (· ^^^ 92)).map bv) (by simpa using hout) (rds_block (b := b2) (Nat.le_refl _)) ((sha ((filled key).map (· ^^^ 54) ++ b)).map bv) (by rw [List.length_map, sha_length]) ((rds_block (b := b3) (n := 32) (c := 32) (Nat.le_refl _)).win h) (bv_one _) (by omega) (by omega) fun v4 w Z h hv4 => ?_
      refine Sum_spec (b := (filled key).map (· ^^^ 92) ++ sha ((filled key).map (· ^^^ 54) ++ b)) h (by rw [List.length_append, hout, sha_length, List.map_append]; exact hv4) (by simp [filled_length, sha_length]) fun w h => ?_
      have h : sat E w (pts b0 (.cells ((List.replicate 32 (0 : UInt8)).map bv).toArray 28 (0, 0)) * (Z * (pts b3 (.cells ((sha ((filled key).map (· ^^^ 54) ++ b)).map bv).toArray 28 (0, 0)) * (Y * (pts b2 (.cells (((filled key).map (· ^^^ 92)).map bv).toArray 171 (0, 0)) * (pts b1 (.cells (((filled key).map (· ^^^ 54)).map bv).toArray 171 (0, 0)) * (X * H))))))) := h.perm (by ac_rfl)
      exact hash_ret (b := b0) h (sha_length _) (by simp) fun w h => k _ h.drop.drop.drop.drop.drop.drop.drop
end Go.Proofs.YtmnaalpjhkkglaaGreatDoor
