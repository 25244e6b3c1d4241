/-
  HashParts: for every hash and bytes the law returns true.
-/
import Derived.Test.YtjmgkfpjaelilaaHshP
import Derived.Test.YtjmgkfpjaelilaaSized
import Derived.Test.YtjmgkfpjaelilaaRows
set_option linter.all false
set_option maxRecDepth 100000
namespace Go.Proofs.Ytjmgkfpjaelilaa.Parts
open Go Hold Go.ChangeShapes Go.WideShapes Go.ChangeAt Go.RowKit
variable {E : World0} {w : World} {H R : HP} {K : Value → World → Prop}
theorem eq23 {a b : List UInt8} (ha : a.length = 32) (hb : b.length = 32) {xo yo : Operand} {K : Value → World → Prop} : pvv prog (oEq .eql 23 xo yo (.agg (a.map bv).toArray) (.agg (b.map bv).toArray)) w K = K (.bool (a == b)) w := o_eqArr (n := 32) (by kernel_rfl) ha hb
theorem Parts_spec (h : sat E w H) {u : Value} (l : List UInt8) (hl : l.length = 32) (b : List UInt8) (hb : Rds H u b.length (b.map bv)) (mb : b.length ≤ 140737488351232)
    (k : ∀ w', sat E w' H → K (.bool true) w') : Calls prog 3 #[.agg (l.map bv).toArray, u] w (Ret K) := by
  obtain ⟨a, c, rfl, hc, hb, ha⟩ := hb.shape h
  refine c3 ?_
  unfold B3
  refine box_sl h fun b1 w h => ?_
  have h : sat E w (pts b1 (.cells (l.map bv).toArray 23 (0, 0)) * H) := h
  refine lp_nat (fun q σ w => ∃ (i : Nat) (v : Value), σ = [v, .int .i64 i] ∧ q = 32 - i ∧ i ≤ 32 ∧ sat E w (osl 5 1 v i ((l.take i).map bv) * (pts b1 (.cells (l.map bv).toArray 23 (0, 0)) * H))) 32
    ⟨0, _, rfl, rfl, by omega, osl_nil h 5 1⟩ ?_
  clear h
  rintro q σ w again ⟨i, v, rfl, rfl, hi, h⟩ hag
  rw [pop_cons, pop_cons, fin_nil, o_lss]
  refine cd_dec (fun hlt => ?_) (fun hge => ?_)
  · rw [o_indexA (by omega) (by omega)]
    refine ld_in (b := b1) (o := 0 + (i : Int).toNat) (v := bv (l.getD i 0)) h (by rw [Nat.zero_add]; exact getbv (by rw [Int.toNat_natCast]; omega)) ?_
    refine push_sl h rfl rfl (by omega) (by omega) fun v2 w h => ?_
    rw [o_add, i64_of (by omega) (by omega)]
    refine hag (32 - (i + 1)) _ _ (by omega) ⟨i + 1, v2, rfl, rfl, by omega, ?_⟩
    rw [← take_bv (show i < l.length by omega)]; exact h
  have hi2 : i = 32 := by omega
  subst hi2
  rw [List.take_of_length_le (by omega)] at h
  refine append_sl (v := v) h (b.map bv) (by simp) (hb.win h.drop.drop) (bv_one b) (by omega) (by omega) fun v3 w h => ?_
  refine live_spec h fun w h => ?_
  simp only [↓o_nil, ↓o_field, ↓o_add, ↓o_sub, ↓o_mul, ↓o_lss, ↓o_leq, ↓o_gtr, ↓o_geq, ↓o_not, ↓o_pick, ↓o_eqInt, ↓o_neInt, ↓o_eqBool, ↓o_neBool, ↓o_eqPtr, ↓o_nePtr, ↓o_eqPtr', ↓o_eqSl, ↓o_neSl, ↓o_eqStr, ↓o_neStr, ↓o_len, ↓o_lenS, ↓o_min, ↓o_max, ↓o_extract, ↓o_convInt, ↓cd_true, ↓cd_false, ↓gate_tt, ↓gate_ff, ↓gate_tf, ↓gate_ft, ↓gate_undef, ↓o_bind, ↓stay_v, ↓pop_cons, ↓fin_nil, Option.isNone_none, Option.isNone_some, Bool.not_true, Bool.not_false, Nat.zero_add, decide_true, decide_false, if_true, if_false, Bool.false_eq_true, ↓reduceIte]
  refine ld_agg (b := b1) h (by simpa using hl) ?_
  refine Chain_spec h hl hb.right.right (by omega) fun w h => ?_
  have hr : Rds (osl 5 1 v3 (32 + b.length) (l.map bv ++ b.map bv) * (pts b1 (.cells (l.map bv).toArray 23 (0, 0)) * H)) v3 (l ++ b).length ((l ++ b).map bv) := by
    rw [List.length_append, hl, List.map_append]; exact Rds.osl.left
  refine Sum_spec (b := l ++ b) h hr (by simp; omega) fun w h => ?_
  rw [eq23 (sha_length _) (sha_length _)]
  simp only [beq_self_eq_true, ↓o_nil, ↓o_field, ↓o_add, ↓o_sub, ↓o_mul, ↓o_lss, ↓o_leq, ↓o_gtr, ↓o_geq, ↓o_not, ↓o_pick, ↓o_eqInt, ↓o_neInt, ↓o_eqBool, ↓o_neBool, ↓o_eqPtr, ↓o_nePtr, ↓o_eqPtr', ↓o_eqSl, ↓o_neSl, ↓o_eqStr, ↓o_neStr, ↓o_len, ↓o_lenS, ↓o_min, ↓o_max, ↓o_extract, ↓o_convInt, ↓cd_true, ↓cd_false, ↓gate_tt, ↓gate_ff, ↓gate_tf, ↓gate_ft, ↓gate_undef, ↓o_bind, ↓stay_v, ↓pop_cons, ↓fin_nil, Option.isNone_none, Option.isNone_some, Bool.not_true, Bool.not_false, Nat.zero_add, decide_true, decide_false, if_true, if_false, Bool.false_eq_true, ↓reduceIte]
  exact k _ h.drop.drop
theorem walk (W : World) {H : Type} (enc : TypeId × Value → H) (args : Array Value) (ds : List (DataW H)) (ps : List MemPlace)
    (hval : ∀ (j : Nat) t v, Try.f3.params.toList[j]? = some t → args.toList[j]? = some v → ∃ base, Value.okWide Try.checked.prog W .any base t v)
    (hA : DataW.TrodAll enc Try.checked.prog W 0 (fun _ => true) true Try.f3.params.toList args.toList ds ps)
    (hw : ∀ (j : Nat) t d, Try.f3.params.toList[j]? = some t → ds[j]? = some d → ∀ n ∈ d.weights Try.checked.prog t, n ≤ 140737488351232) :
    Calls Try.checked.prog 3 args W (Ret fun v W' => v = .bool true ∧ Below W.heap.size W W') := by
  rw [show Try.f3.params.toList = [23, 24] by kernel_rfl] at hval hA hw
  obtain ⟨v0, vs0, d0, ds0, p0, q0, hargs, rfl, rfl, h0, r0'⟩ := trodAll_cons hA
  obtain ⟨v1, vs1, d1, ds1, p1, q1, rfl, rfl, rfl, h1, r1'⟩ := trodAll_cons r0'
  obtain ⟨rfl, rfl, rfl⟩ := trodAll_nil r1'
  obtain rfl : args = #[v0, v1] := by cases args; simp_all
  obtain ⟨b0, o0⟩ := hval 0 23 v0 rfl rfl
  obtain ⟨b1, o1⟩ := hval 1 24 v1 rfl rfl
  obtain ⟨x0, rfl, mx0⟩ := open_arrB (t := 23) (e := 5) (n := 32) (by kernel_rfl) (by kernel_rfl) (by kernel_rfl) (by kernel_rfl) o0 h0
  obtain ⟨x1, rx1, mx1⟩ := open_bytesS (t := 24) (e := 5) (by kernel_rfl) (by kernel_rfl) (by kernel_rfl) (by kernel_rfl) o1 h1 (hw 1 24 d1 rfl rfl)
  exact Parts_spec (sat.start W) x0 mx0 x1 rx1 mx1 fun w' h => ⟨rfl, sat.below (h.whole)⟩

theorem lifted (os : Os) (started : os.Started) (H : Type) (enc : TypeId × Value → H) :
    ReturnsInHanded {} Try.checked os 3 .any (Rows.hashPartsSpec.pre6 enc Try.prog Try.f3 Rows.hashPartsRow.domain false) (Rows.hashPartsSpec.post enc Try.prog Try.f3 false true false false) := by
  refine law_liftedS (C := Try.checked) (tb := 4) (by kernel_rfl) started (by kernel_rfl) Try.func3
    (ChangeSpec.witness6 (enc := enc) (C := Try.checked) false ⟨#[], #[.agg (Array.replicate 32 (.int .u8 0)), .slice none 0 0], []⟩ 8 (by kernel_rfl) (by kernel_rfl) (by kernel_rfl) (by kernel_rfl))
    (by kernel_rfl) (by kernel_rfl) (by kernel_rfl) (by kernel_rfl) rfl ?_ ?_
  · intro ds hd
    rw [show Try.f3.params.toList = [23, 24] by kernel_rfl] at hd
    match ds, hd with
    | [a0, a1], _ => rfl
  · exact fun W args ds ps => walk W enc args ds ps

theorem proved : Rows.HashPartsSaid :=
  OpenClaim.holds_of_wide 3 Try.f3 rfl rfl rfl rfl rfl rfl rfl ⟨rfl, rfl, rfl, rfl, rfl⟩ rfl rfl rfl rfl rfl (by kernel_rfl) Try.func3 (by kernel_rfl)
    (of_decide_eq_true (by kernel_rfl)) (by unfold Func.isWrapper; first | (rw [if_pos (by decide +kernel)]; kernel_rfl) | (rw [if_neg (by decide +kernel)]; exact ⟨rfl, rfl⟩))
    (fun os started H enc _ => lifted os started H enc)
#print axioms proved
end Go.Proofs.Ytjmgkfpjaelilaa.Parts
