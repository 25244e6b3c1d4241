/-
  A builder of texts.
-/
import Derived.Test.YtnkmgkilfkgfhaaDoorPB
import Derived.Test.YtnkmgkilfkgfhaaDoorStrs
set_option linter.all false
set_option maxRecDepth 10000
namespace Go.Proofs.YtnkmgkilfkgfhaaDoor
open Go Hold
variable {E : World0} {w : World} {H R : HP} {K : Value → World → Prop}
/-- A builder at b that holds l. -/
def bld (b : Nat) (l : List UInt8) : HP := ex fun q : Option Addr × Value => pur (q.1 = none ∨ q.1 = some ⟨b, 0, none⟩) * (pts b (.cells [.pointer q.1, q.2].toArray 68 (0, 0)) * osl 5 1 q.2 l.length (l.map bv))
theorem sat_bld {b : Nat} {l : List UInt8} : sat E w (bld b l * R) ↔ ∃ p v, (p = none ∨ p = some ⟨b, 0, none⟩) ∧ sat E w (pts b (.cells [.pointer p, v].toArray 68 (0, 0)) * (osl 5 1 v l.length (l.map bv) * R)) := by
  unfold bld
  rw [sat_ex_star]
  constructor
  · rintro ⟨⟨p, v⟩, h⟩
    simp only [star_assoc] at h
    rw [sat_pur_star] at h
    exact ⟨p, v, h.1, h.2⟩
  · rintro ⟨p, v, hp, h⟩
    refine ⟨(p, v), ?_⟩
    simp only [star_assoc]
    rw [sat_pur_star]
    exact ⟨hp, h⟩
theorem copyCheck_spec {b : Nat} {p : Option Addr} {v : Value} (hp : p = none ∨ p = some ⟨b, 0, none⟩) (h : sat E w (pts b (.cells [.pointer p, v].toArray 68 (0, 0)) * R))
    (k : ∀ w', sat E w' (pts b (.cells [.pointer (some ⟨b, 0, none⟩), v].toArray 68 (0, 0)) * R) → K (.tuple #[]) w') : Calls prog 74 #[.pointer (some ⟨b, 0, none⟩)] w (Ret K) := by
  refine c74 ?_
  unfold B74
  try simp only [↓o_nil, ↓o_field, ↓o_add, ↓o_sub, ↓o_mul, ↓o_lss, ↓o_leq, ↓o_gtr, ↓o_geq, ↓o_not, ↓o_pick, ↓o_eqInt, ↓o_neInt, ↓o_eqBool, ↓o_neBool, ↓o_eqPtr, ↓o_nePtr, ↓o_eqPtr', ↓o_eqSl, ↓o_neSl, ↓o_eqStr, ↓o_neStr, ↓o_len, ↓o_lenS, ↓o_min, ↓o_max, ↓o_extract, ↓o_convInt, ↓cd_true, ↓cd_false, ↓gate_tt, ↓gate_ff, ↓gate_tf, ↓gate_ft, ↓gate_undef, ↓o_bind, ↓stay_v, ↓pop_cons, ↓fin_nil, Option.isNone_none, Option.isNone_some, Bool.not_true, Bool.not_false, Nat.zero_add, decide_true, decide_false, if_true, if_false, Bool.false_eq_true, ↓reduceIte]
  refine ld_at h ?_
  have hb := h.pts_get
  rcases hp with rfl | rfl
  · simp only [↓o_nil, ↓o_field, ↓o_add, ↓o_sub, ↓o_mul, ↓o_lss, ↓o_leq, ↓o_gtr, ↓o_geq, ↓o_not, ↓o_pick, ↓o_eqInt, ↓o_neInt, ↓o_eqBool, ↓o_neBool, ↓o_eqPtr, ↓o_nePtr, ↓o_eqPtr', ↓o_eqSl, ↓o_neSl, ↓o_eqStr, ↓o_neStr, ↓o_len, ↓o_lenS, ↓o_min, ↓o_max, ↓o_extract, ↓o_convInt, ↓cd_true, ↓cd_false, ↓gate_tt, ↓gate_ff, ↓gate_tf, ↓gate_ft, ↓gate_undef, ↓o_bind, ↓stay_v, ↓pop_cons, ↓fin_nil, Option.isNone_none, Option.isNone_some, Bool.not_true, Bool.not_false, Nat.zero_add, decide_true, decide_false, if_true, if_false, Bool.false_eq_true, ↓reduceIte]
    obtain ⟨j, hj, hj2⟩ : ∃ j, prog.info? 68 = some j ∧ j.size = 2 := by
      have := (aggC_68).size
      cases hi : prog.info? 68 with
      | none => rw [hi] at this; cases this
      | some j => rw [hi] at this; exact ⟨j, rfl, by simpa using this⟩
    refine efv_of (Lib.run_to_unsafe (P := prog) w (t := 68) (e := 68) (j := j) (cells := 2) ⟨b, 0, none⟩ (by kernel_rfl) (by kernel_rfl) hj (by omega) (by simp [World.shape?, hb]) (by simp)) ?_
    refine ef_ext (v := .pointer (some ⟨b, 0, none⟩)) (fun w => by kernel_rfl) ?_
    refine efv_of (Lib.run_from_unsafe (P := prog) w (u := 68) (e := 68) (j := j) (cells := 2) ⟨b, 0, none⟩ (by kernel_rfl) (by kernel_rfl) hj (by simp [World.shape?, hb]) (by kernel_rfl)) ?_
    refine store_at h rfl (by simp) fun w h => ?_
    exact k _ h
  · simp only [↓o_nil, ↓o_field, ↓o_add, ↓o_sub, ↓o_mul, ↓o_lss, ↓o_leq, ↓o_gtr, ↓o_geq, ↓o_not, ↓o_pick, ↓o_eqInt, ↓o_neInt, ↓o_eqBool, ↓o_neBool, ↓o_eqPtr, ↓o_nePtr, ↓o_eqPtr', ↓o_eqSl, ↓o_neSl, ↓o_eqStr, ↓o_neStr, ↓o_len, ↓o_lenS, ↓o_min, ↓o_max, ↓o_extract, ↓o_convInt, ↓cd_true, ↓cd_false, ↓gate_tt, ↓gate_ff, ↓gate_tf, ↓gate_ft, ↓gate_undef, ↓o_bind, ↓stay_v, ↓pop_cons, ↓fin_nil, Option.isNone_none, Option.isNone_some, Bool.not_true, Bool.not_false, Nat.zero_add, decide_true, decide_false, if_true, if_false, Bool.false_eq_true, ↓reduceIte]
    refine ld_at h ?_
    have hn : ∀ {xo yo : Operand} {K : Value → World → Prop} {w : World}, pvv prog (oEq .neq 66 xo yo (.pointer (some ⟨b, 0, none⟩)) (.pointer (some ⟨b, 0, none⟩))) w K = K (.bool false) w := fun {xo yo K w} => pvv_eq fun w => by
      obtain ⟨j, hj, hj2⟩ : ∃ j, prog.info? 68 = some j ∧ j.size = 2 := by
        have := (aggC_68).size
        cases hi : prog.info? 68 with
        | none => rw [hi] at this; cases this
        | some j => rw [hi] at this; exact ⟨j, rfl, by simpa using this⟩
      have := Lib.run_neq_ptr_same (P := prog) w (tp := 66) (te := 68) (j := j) ⟨b, 0, none⟩ (by kernel_rfl) hj
      simp [oEq, eqGuard, this]
    rw [hn, cd_false]
    exact k _ h
theorem String_spec (h : sat E w H) {b : Nat} {l : List UInt8} [s : Split H (bld b l) R] (h0 : l ≠ []) (hl : l.length ≤ 9223372036854775807) (k : ∀ w', sat E w' R → K (tv l) w') : Calls prog 57 #[.pointer (some ⟨b, 0, none⟩)] w (Ret K) := by
  obtain ⟨p, v, hp, h⟩ := sat_bld.1 (h.split (bld b l))
  refine c57 ?_
  unfold B57
  have hl0 : 0 < l.length := List.length_pos_iff.2 h0
  have h := h.perm (star_left_comm _ _ _)
  obtain ⟨bq, c, sp, rfl, _, hc, hP, _⟩ := osl_open h hl0
  clear h
  have h := hP
  clear hP
  refine dr_sl h fun w h _ => ?_
  try simp only [↓o_nil, ↓o_field, ↓o_add, ↓o_sub, ↓o_mul, ↓o_lss, ↓o_leq, ↓o_gtr, ↓o_geq, ↓o_not, ↓o_pick, ↓o_eqInt, ↓o_neInt, ↓o_eqBool, ↓o_neBool, ↓o_eqPtr, ↓o_nePtr, ↓o_eqPtr', ↓o_eqSl, ↓o_neSl, ↓o_eqStr, ↓o_neStr, ↓o_len, ↓o_lenS, ↓o_min, ↓o_max, ↓o_extract, ↓o_convInt, ↓cd_true, ↓cd_false, ↓gate_tt, ↓gate_ff, ↓gate_tf, ↓gate_ft, ↓gate_undef, ↓o_bind, ↓stay_v, ↓pop_cons, ↓fin_nil, Option.isNone_none, Option.isNone_some, Bool.not_true, Bool.not_false, Nat.zero_add, decide_true, decide_false, if_true, if_false, Bool.false_eq_true, ↓reduceIte]
  refine ld_at (b := b) h (ld_at (b := b) h ?_)
  try simp only [↓o_nil, ↓o_field, ↓o_add, ↓o_sub, ↓o_mul, ↓o_lss, ↓o_leq, ↓o_gtr, ↓o_geq, ↓o_not, ↓o_pick, ↓o_eqInt, ↓o_neInt, ↓o_eqBool, ↓o_neBool, ↓o_eqPtr, ↓o_nePtr, ↓o_eqPtr', ↓o_eqSl, ↓o_neSl, ↓o_eqStr, ↓o_neStr, ↓o_len, ↓o_lenS, ↓o_min, ↓o_max, ↓o_extract, ↓o_convInt, ↓cd_true, ↓cd_false, ↓gate_tt, ↓gate_ff, ↓gate_tf, ↓gate_ft, ↓gate_undef, ↓o_bind, ↓stay_v, ↓pop_cons, ↓fin_nil, Option.isNone_none, Option.isNone_some, Bool.not_true, Bool.not_false, Nat.zero_add, decide_true, decide_false, if_true, if_false, Bool.false_eq_true, ↓reduceIte]
  refine unsafe_data (by omega) ?_
  refine st_at (b := b) h ?_
  refine unsafe_str (b := bq) h (by kernel_rfl) h0 hl fun fr w h => ?_
  refine st_at (b := b) h (st_at (b := b) h ?_)
  exact k _ h.drop.drop
end Go.Proofs.YtnkmgkilfkgfhaaDoor
