/-
  What must be whatever is asked of codec.
-/
import Derived.Test.YtnkmgkilfkgfhaaDoorCodE
import Derived.Test.YtnkmgkilfkgfhaaDoorCodF
set_option linter.all false
set_option maxRecDepth 10000
namespace Go.Proofs.YtnkmgkilfkgfhaaDoor
open Go Hold
variable {E : World0} {w : World} {H R : HP} {K : Value → World → Prop}
theorem key_ab : key [[97], [98]] = ([97, 0, 1, 98, 0, 1], 0) := by decide
theorem number_255 : number 255 = ([99, 102, 102], 0) := by
  have h : hexs 255 = [102, 102] := by
    rw [hexs_pos (by decide), show 255 / 16 = 15 from rfl, hexs_small (by decide) (by decide)]; decide
  have e : number 255 = (numText 255, 0) := by unfold number; rw [if_neg (by decide)]; rfl
  rw [e]; unfold numText; rw [h]; rfl
theorem live_spec (h : sat E w H) (hd : Dbt H) (k : ∀ w', sat E w' H → K (.bool true) w') : Calls prog 12 #[] w (Ret K) := by
  refine c12 ?_
  unfold B12
  refine buildSlice_sl (e := 9) (cs := #[tv [97], tv [98]]) h (fun w => by kernel_rfl) fun b1 w h => ?_
  refine Key_spec (ps := [[97], [98]]) h (rds_row (b := b1) (xs := [tv [97], tv [98]]) (sp := []) (Nat.le_refl _)) ?_
  intro v w h
  rw [key_ab] at h ⊢
  simp only [↓o_nil, ↓o_field, ↓o_add, ↓o_sub, ↓o_mul, ↓o_lss, ↓o_leq, ↓o_gtr, ↓o_geq, ↓o_not, ↓o_pick, ↓o_eqInt, ↓o_neInt, ↓o_eqBool, ↓o_neBool, ↓o_eqPtr, ↓o_nePtr, ↓o_eqPtr', ↓o_eqSl, ↓o_neSl, ↓o_eqStr, ↓o_neStr, ↓o_len, ↓o_lenS, ↓o_min, ↓o_max, ↓o_extract, ↓o_convInt, ↓cd_true, ↓cd_false, ↓gate_tt, ↓gate_ff, ↓gate_tf, ↓gate_ft, ↓gate_undef, ↓o_bind, ↓stay_v, ↓pop_cons, ↓fin_nil, Option.isNone_none, Option.isNone_some, Bool.not_true, Bool.not_false, Nat.zero_add, decide_true, decide_false, if_true, if_false, Bool.false_eq_true, ↓reduceIte]
  refine Number_spec (n := 255) h hd.right.right ?_
  intro w h
  rw [number_255]
  simp only [nv2, ↓o_nil, ↓o_field, ↓o_add, ↓o_sub, ↓o_mul, ↓o_lss, ↓o_leq, ↓o_gtr, ↓o_geq, ↓o_not, ↓o_pick, ↓o_eqInt, ↓o_neInt, ↓o_eqBool, ↓o_neBool, ↓o_eqPtr, ↓o_nePtr, ↓o_eqPtr', ↓o_eqSl, ↓o_neSl, ↓o_eqStr, ↓o_neStr, ↓o_len, ↓o_lenS, ↓o_min, ↓o_max, ↓o_extract, ↓o_convInt, ↓cd_true, ↓cd_false, ↓gate_tt, ↓gate_ff, ↓gate_tf, ↓gate_ft, ↓gate_undef, ↓o_bind, ↓stay_v, ↓pop_cons, ↓fin_nil, Option.isNone_none, Option.isNone_some, Bool.not_true, Bool.not_false, Nat.zero_add, decide_true, decide_false, if_true, if_false, Bool.false_eq_true, ↓reduceIte, show decide ((0 : Int) = 0) = true from rfl]
  refine conv_bs (l := [97, 0, 1, 98, 0, 1]) (osl_rd h) ?_
  have e1 : ∀ (xo yo : Operand) (l : List UInt8) (w : World) (K : Value → World → Prop), pvv prog (oEq .eql 9 xo yo (tv l) (.string ⟨l.toArray⟩)) w K = K (.bool true) w := fun xo yo l w K => by
    have := o_eqT (P := prog) (w := w) (K := K) (t := 9) (xo := xo) (yo := yo) (a := l) (b := l)
    rw [decide_eq_true rfl] at this
    exact this
  have e2 : ∀ (xo yo : Operand) (w : World) (K : Value → World → Prop), pvv prog (oEq .eql 9 xo yo (.string ⟨([97, 0, 1, 98, 0, 1] : List UInt8).toArray⟩) (.string ⟨#[97, 0, 1, 98, 0, 1]⟩)) w K = K (.bool true) w := fun xo yo w K => e1 xo yo [97, 0, 1, 98, 0, 1] w K
  have e3 : ∀ (xo yo : Operand) (w : World) (K : Value → World → Prop), pvv prog (oEq .eql 9 xo yo (tv [99, 102, 102]) (.string ⟨#[99, 102, 102]⟩)) w K = K (.bool true) w := fun xo yo w K => e1 xo yo [99, 102, 102] w K
  rw [e2]
  simp only [↓o_nil, ↓o_field, ↓o_add, ↓o_sub, ↓o_mul, ↓o_lss, ↓o_leq, ↓o_gtr, ↓o_geq, ↓o_not, ↓o_pick, ↓o_eqInt, ↓o_neInt, ↓o_eqBool, ↓o_neBool, ↓o_eqPtr, ↓o_nePtr, ↓o_eqPtr', ↓o_eqSl, ↓o_neSl, ↓o_eqStr, ↓o_neStr, ↓o_len, ↓o_lenS, ↓o_min, ↓o_max, ↓o_extract, ↓o_convInt, ↓cd_true, ↓cd_false, ↓gate_tt, ↓gate_ff, ↓gate_tf, ↓gate_ft, ↓gate_undef, ↓o_bind, ↓stay_v, ↓pop_cons, ↓fin_nil, Option.isNone_none, Option.isNone_some, Bool.not_true, Bool.not_false, Nat.zero_add, decide_true, decide_false, if_true, if_false, Bool.false_eq_true, ↓reduceIte, show decide ((0 : Int) = 0) = true from rfl]
  rw [e3]
  try simp only [↓o_nil, ↓o_field, ↓o_add, ↓o_sub, ↓o_mul, ↓o_lss, ↓o_leq, ↓o_gtr, ↓o_geq, ↓o_not, ↓o_pick, ↓o_eqInt, ↓o_neInt, ↓o_eqBool, ↓o_neBool, ↓o_eqPtr, ↓o_nePtr, ↓o_eqPtr', ↓o_eqSl, ↓o_neSl, ↓o_eqStr, ↓o_neStr, ↓o_len, ↓o_lenS, ↓o_min, ↓o_max, ↓o_extract, ↓o_convInt, ↓cd_true, ↓cd_false, ↓gate_tt, ↓gate_ff, ↓gate_tf, ↓gate_ft, ↓gate_undef, ↓o_bind, ↓stay_v, ↓pop_cons, ↓fin_nil, Option.isNone_none, Option.isNone_some, Bool.not_true, Bool.not_false, Nat.zero_add, decide_true, decide_false, if_true, if_false, Bool.false_eq_true, ↓reduceIte]
  exact k _ h.drop.drop
end Go.Proofs.YtnkmgkilfkgfhaaDoor
