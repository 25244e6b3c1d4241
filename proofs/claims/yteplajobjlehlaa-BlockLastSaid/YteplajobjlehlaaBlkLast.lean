/-
  BlockLast: a block is what was written to it last, and all others stay: for every deeds and one deed more the law returns true.
-/
import Derived.Test.YteplajobjlehlaaBlkP
import Derived.Test.YteplajobjlehlaaBlkV
import Derived.Test.YteplajobjlehlaaLaw
import Derived.Test.YteplajobjlehlaaRows
set_option linter.all false
set_option maxRecDepth 100000
namespace Go.Proofs.Yteplajobjlehlaa.Last
open Go Hold Go.ChangeShapes Go.WideShapes Go.ChangeAt Go.RowKit
variable {E : World0} {w : World} {H R : HP} {K : Value → World → Prop}

theorem wE_zero (L : List (List UInt8)) (x : Dd) : wE L x = 0 ↔ okd L x := by
  unfold wE okd
  split
  · constructor <;> intro h <;> omega
  · split
    · constructor <;> intro h <;> first | omega | rfl
    · constructor <;> intro h <;> omega

theorem rdd1 {v : Value} {n : Nat} {vs : List Value} (h : sat E w H) {R1 R2 : HP} [s1 : OwnS H v 32 1 n vs R1] (us : List Value) (L : List (List UInt8)) [s2 : Split H (pers (immAll us L)) R2] :
    Rds H v n vs ∧ us.length = L.length ∧ ∀ (i : Nat) (u : Value) (l : List UInt8), us[i]? = some u → L[i]? = some l → Rds H u l.length (l.map bv) :=
  ⟨Rds.own, ((h.split (pers (immAll us L))).pers_get).1, fun i u l h1 h2 => Rds.under (immAll_rds h1 h2)⟩

theorem Last_spec (h : sat E w H) (x : Dd) {lv : Value} {ds : List Dd} (hl : Rds H lv ds.length (dcells ds)) (hm : ds.length ≤ 9223372036854775807) (k : ∀ w', sat E w' H → K (.bool true) w') :
    Calls prog 3 #[lv, x.val] w (Ret K) := by
  refine c3 ?_
  unfold B3
  refine box_sl h fun bx w h => ?_
  have h : sat E w (pts bx (.cells [.int .i64 x.n, .int .i64 x.len, bv x.b].toArray 24 (0, 0)) * H) := h
  refine play_spec h (n := 5) (by omega) (by omega) (Rds.under hl) hm fun d r L W V w inv hW h => ?_
  simp only [↓o_nil, ↓o_field, ↓o_add, ↓o_sub, ↓o_mul, ↓o_lss, ↓o_leq, ↓o_gtr, ↓o_geq, ↓o_not, ↓o_pick, ↓o_eqInt, ↓o_neInt, ↓o_eqBool, ↓o_neBool, ↓o_eqPtr, ↓o_nePtr, ↓o_eqPtr', ↓o_eqSl, ↓o_neSl, ↓o_eqStr, ↓o_neStr, ↓o_len, ↓o_lenS, ↓o_min, ↓o_max, ↓o_extract, ↓o_convInt, ↓cd_true, ↓cd_false, ↓gate_tt, ↓gate_ff, ↓gate_tf, ↓gate_ft, ↓gate_undef, ↓pop_cons, ↓fin_nil, Option.isNone_none, Option.isNone_some, Bool.not_true, Bool.not_false, Nat.zero_add, decide_true, decide_false, if_true, if_false, Bool.false_eq_true, ↓reduceIte]
  refine live_spec h fun w h => ?_
  simp only [↓o_nil, ↓o_field, ↓o_add, ↓o_sub, ↓o_mul, ↓o_lss, ↓o_leq, ↓o_gtr, ↓o_geq, ↓o_not, ↓o_pick, ↓o_eqInt, ↓o_neInt, ↓o_eqBool, ↓o_neBool, ↓o_eqPtr, ↓o_nePtr, ↓o_eqPtr', ↓o_eqSl, ↓o_neSl, ↓o_eqStr, ↓o_neStr, ↓o_len, ↓o_lenS, ↓o_min, ↓o_max, ↓o_extract, ↓o_convInt, ↓cd_true, ↓cd_false, ↓gate_tt, ↓gate_ff, ↓gate_tf, ↓gate_ft, ↓gate_undef, ↓pop_cons, ↓fin_nil, Option.isNone_none, Option.isNone_some, Bool.not_true, Bool.not_false, Nat.zero_add, decide_true, decide_false, if_true, if_false, Bool.false_eq_true, ↓reduceIte]
  refine Image_spec h inv.wf fun v1 us1 w h => ?_
  refine ld_agg h rfl ?_
  refine bytes_spec h x fun vb w h => ?_
  refine ld_at h ?_
  refine Write_any h x (by omega) Rds.own fun w h => ?_
  refine Image_spec h (inv.wf.step x) fun v2 us2 w h => ?_
  have hlen := inv.len
  have hlen2 : (wL L x).length = 5 := by rw [wL_length, hlen]
  rw [hlen2, hlen] at h
  obtain ⟨a1, c1, rfl, _, hu1, ha1⟩ := osl_shape (h.owns v1)
  obtain ⟨a2, c2, rfl, _, hu2, ha2⟩ := osl_shape (h.owns v2)
  obtain ⟨ab, cb, rfl, _, _, _⟩ := osl_shape (h.owns vb)
  obtain ⟨b1, rfl⟩ := ha1 (by omega)
  obtain ⟨b2, rfl⟩ := ha2 (by omega)
  have r1 := rdd1 (v := .slice (some ⟨b1, 0, none⟩) 5 c1) h us1 L
  have r2 := rdd1 (v := .slice (some ⟨b2, 0, none⟩) 5 c2) h us2 (wL L x)
  refine lp_nat (fun m σ w => ∃ i : Nat, σ = [.int .i64 i] ∧ m = 5 - i ∧ i ≤ 5 ∧ sat E w _) 5 ⟨0, rfl, rfl, by omega, h⟩ ?_
  rintro m σ w again ⟨i, rfl, rfl, hi, h⟩ hag
  simp only [↓o_nil, ↓o_field, ↓o_add, ↓o_sub, ↓o_mul, ↓o_lss, ↓o_leq, ↓o_gtr, ↓o_geq, ↓o_not, ↓o_pick, ↓o_eqInt, ↓o_neInt, ↓o_eqBool, ↓o_neBool, ↓o_eqPtr, ↓o_nePtr, ↓o_eqPtr', ↓o_eqSl, ↓o_neSl, ↓o_eqStr, ↓o_neStr, ↓o_len, ↓o_lenS, ↓o_min, ↓o_max, ↓o_extract, ↓o_convInt, ↓cd_true, ↓cd_false, ↓gate_tt, ↓gate_ff, ↓gate_tf, ↓gate_ft, ↓gate_undef, ↓pop_cons, ↓fin_nil, Option.isNone_none, Option.isNone_some, Bool.not_true, Bool.not_false, Nat.zero_add, decide_true, decide_false, if_true, if_false, Bool.false_eq_true, ↓reduceIte]
  refine cd_dec (fun hlt => ?_) (fun hge => ?_)
  · have hlt : i < 5 := by omega
    have hi1 : i < us1.length := by rw [r1.2.1]; omega
    have hi2 : i < us2.length := by rw [r2.2.1]; omega
    have hL : i < L.length := by omega
    have hL2 : i < (wL L x).length := by omega
    obtain ⟨_, _, e1, hb1⟩ := win_cell (r1.1.win h) (j := i) hi1
    cases e1
    rw [o_index (by omega) (by omega)]
    simp only [Int.toNat_natCast, Nat.mul_one]
    refine ld_cell hb1 ?_
    refine jn_at h (fun X σ => ∃ want, σ = [want] ∧ Rds X want (wL L x)[i].length ((wL L x)[i].map bv)) ?_ ?_
    · intro kk hk
      have hstay : ¬ (okd L x ∧ (i : Int) = x.n) → (wL L x)[i] = L[i] := by
        intro hn
        unfold wL
        by_cases hx : okd L x
        · simp only [hx, if_true]
          rw [List.getElem_set_ne]
          have := hx.1
          intro hc
          exact hn ⟨hx, by omega⟩
        · simp [hx]
      have hold : ¬ (okd L x ∧ (i : Int) = x.n) → Rds _ us1[i] (wL L x)[i].length ((wL L x)[i].map bv) := fun hn => by
        rw [hstay hn]
        exact r1.2.2 i us1[i] L[i] (List.getElem?_eq_getElem hi1) (List.getElem?_eq_getElem hL)
      by_cases hx : okd L x
      · have h0 := (wE_zero L x).2 hx
        simp only [h0, ↓o_nil, ↓o_field, ↓o_add, ↓o_sub, ↓o_mul, ↓o_lss, ↓o_leq, ↓o_gtr, ↓o_geq, ↓o_not, ↓o_pick, ↓o_eqInt, ↓o_neInt, ↓o_eqBool, ↓o_neBool, ↓o_eqPtr, ↓o_nePtr, ↓o_eqPtr', ↓o_eqSl, ↓o_neSl, ↓o_eqStr, ↓o_neStr, ↓o_len, ↓o_lenS, ↓o_min, ↓o_max, ↓o_extract, ↓o_convInt, ↓cd_true, ↓cd_false, ↓gate_tt, ↓gate_ff, ↓gate_tf, ↓gate_ft, ↓gate_undef, ↓pop_cons, ↓fin_nil, Option.isNone_none, Option.isNone_some, Bool.not_true, Bool.not_false, Nat.zero_add, decide_true, decide_false, if_true, if_false, Bool.false_eq_true, ↓reduceIte]
        refine ld_at h ?_
        simp only [↓o_nil, ↓o_field, ↓o_add, ↓o_sub, ↓o_mul, ↓o_lss, ↓o_leq, ↓o_gtr, ↓o_geq, ↓o_not, ↓o_pick, ↓o_eqInt, ↓o_neInt, ↓o_eqBool, ↓o_neBool, ↓o_eqPtr, ↓o_nePtr, ↓o_eqPtr', ↓o_eqSl, ↓o_neSl, ↓o_eqStr, ↓o_neStr, ↓o_len, ↓o_lenS, ↓o_min, ↓o_max, ↓o_extract, ↓o_convInt, ↓cd_true, ↓cd_false, ↓gate_tt, ↓gate_ff, ↓gate_tf, ↓gate_ft, ↓gate_undef, ↓pop_cons, ↓fin_nil, Option.isNone_none, Option.isNone_some, Bool.not_true, Bool.not_false, Nat.zero_add, decide_true, decide_false, if_true, if_false, Bool.false_eq_true, ↓reduceIte]
        refine cd_dec (fun hc => ?_) (fun hc => ?_)
        · refine hk _ _ ⟨_, rfl, ?_⟩ h
          have e2 : (wL L x)[i] = x.bytes := by
            unfold wL
            simp only [hx, if_true]
            rw [List.getElem_set]
            rw [if_pos (by omega)]
          rw [e2]
          exact Rds.own
        · exact hk _ _ ⟨_, rfl, hold (fun hh => hc hh.2)⟩ h
      · have h0 : ¬ wE L x = 0 := fun hh => hx ((wE_zero L x).1 hh)
        simp only [h0, ↓o_nil, ↓o_field, ↓o_add, ↓o_sub, ↓o_mul, ↓o_lss, ↓o_leq, ↓o_gtr, ↓o_geq, ↓o_not, ↓o_pick, ↓o_eqInt, ↓o_neInt, ↓o_eqBool, ↓o_neBool, ↓o_eqPtr, ↓o_nePtr, ↓o_eqPtr', ↓o_eqSl, ↓o_neSl, ↓o_eqStr, ↓o_neStr, ↓o_len, ↓o_lenS, ↓o_min, ↓o_max, ↓o_extract, ↓o_convInt, ↓cd_true, ↓cd_false, ↓gate_tt, ↓gate_ff, ↓gate_tf, ↓gate_ft, ↓gate_undef, ↓pop_cons, ↓fin_nil, Option.isNone_none, Option.isNone_some, Bool.not_true, Bool.not_false, Nat.zero_add, decide_true, decide_false, if_true, if_false, Bool.false_eq_true, ↓reduceIte]
        exact hk _ _ ⟨_, rfl, hold (fun hh => hx hh.1)⟩ h
    · rintro σ w ⟨want, rfl, hwant⟩ h
      simp only [↓o_nil, ↓o_field, ↓o_add, ↓o_sub, ↓o_mul, ↓o_lss, ↓o_leq, ↓o_gtr, ↓o_geq, ↓o_not, ↓o_pick, ↓o_eqInt, ↓o_neInt, ↓o_eqBool, ↓o_neBool, ↓o_eqPtr, ↓o_nePtr, ↓o_eqPtr', ↓o_eqSl, ↓o_neSl, ↓o_eqStr, ↓o_neStr, ↓o_len, ↓o_lenS, ↓o_min, ↓o_max, ↓o_extract, ↓o_convInt, ↓cd_true, ↓cd_false, ↓gate_tt, ↓gate_ff, ↓gate_tf, ↓gate_ft, ↓gate_undef, ↓pop_cons, ↓fin_nil, Option.isNone_none, Option.isNone_some, Bool.not_true, Bool.not_false, Nat.zero_add, decide_true, decide_false, if_true, if_false, Bool.false_eq_true, ↓reduceIte]
      obtain ⟨_, _, e1, hb2⟩ := win_cell (r2.1.win h) (j := i) hi2
      cases e1
      rw [o_index (by omega) (by omega)]
      simp only [Int.toNat_natCast, Nat.mul_one]
      refine ld_cell hb2 ?_
      refine SameBytes_spec h (r2.2.2 i us2[i] (wL L x)[i] (List.getElem?_eq_getElem hi2) (List.getElem?_eq_getElem hL2)) hwant (by
        rw [(inv.wf.step x).l _ (List.getElem_mem hL2)]; omega) fun w h => ?_
      simp only [↓o_nil, ↓o_field, ↓o_add, ↓o_sub, ↓o_mul, ↓o_lss, ↓o_leq, ↓o_gtr, ↓o_geq, ↓o_not, ↓o_pick, ↓o_eqInt, ↓o_neInt, ↓o_eqBool, ↓o_neBool, ↓o_eqPtr, ↓o_nePtr, ↓o_eqPtr', ↓o_eqSl, ↓o_neSl, ↓o_eqStr, ↓o_neStr, ↓o_len, ↓o_lenS, ↓o_min, ↓o_max, ↓o_extract, ↓o_convInt, ↓cd_true, ↓cd_false, ↓gate_tt, ↓gate_ff, ↓gate_tf, ↓gate_ft, ↓gate_undef, ↓pop_cons, ↓fin_nil, Option.isNone_none, Option.isNone_some, Bool.not_true, Bool.not_false, Nat.zero_add, decide_true, decide_false, if_true, if_false, Bool.false_eq_true, ↓reduceIte]
      rw [i64_of (by omega) (by omega)]
      exact hag _ _ _ (by omega) ⟨i + 1, rfl, rfl, by omega, h⟩
  · have e0 : decide (wE L x = 0) = decide (0 ≤ x.n ∧ x.n < 5 ∧ x.size = 256) := by
      congr 1
      rw [wE_zero]
      unfold okd
      rw [hlen]
      rfl
    have e1 : ((x.bytes.length : Nat) : Int) = x.size := by rw [x.bytes_length]
    have hk := k w (h.split H).drop'
    rw [e0]
    refine ld_at h ?_
    by_cases h1 : 0 ≤ x.n
    · simp only [h1, ↓o_nil, ↓o_field, ↓o_add, ↓o_sub, ↓o_mul, ↓o_lss, ↓o_leq, ↓o_gtr, ↓o_geq, ↓o_not, ↓o_pick, ↓o_eqInt, ↓o_neInt, ↓o_eqBool, ↓o_neBool, ↓o_eqPtr, ↓o_nePtr, ↓o_eqPtr', ↓o_eqSl, ↓o_neSl, ↓o_eqStr, ↓o_neStr, ↓o_len, ↓o_lenS, ↓o_min, ↓o_max, ↓o_extract, ↓o_convInt, ↓cd_true, ↓cd_false, ↓gate_tt, ↓gate_ff, ↓gate_tf, ↓gate_ft, ↓gate_undef, ↓pop_cons, ↓fin_nil, Option.isNone_none, Option.isNone_some, Bool.not_true, Bool.not_false, Nat.zero_add, decide_true, decide_false, if_true, if_false, Bool.false_eq_true, ↓reduceIte]
      refine ld_at h ?_
      by_cases h2 : x.n < 5
      · simp only [h2, ↓o_nil, ↓o_field, ↓o_add, ↓o_sub, ↓o_mul, ↓o_lss, ↓o_leq, ↓o_gtr, ↓o_geq, ↓o_not, ↓o_pick, ↓o_eqInt, ↓o_neInt, ↓o_eqBool, ↓o_neBool, ↓o_eqPtr, ↓o_nePtr, ↓o_eqPtr', ↓o_eqSl, ↓o_neSl, ↓o_eqStr, ↓o_neStr, ↓o_len, ↓o_lenS, ↓o_min, ↓o_max, ↓o_extract, ↓o_convInt, ↓cd_true, ↓cd_false, ↓gate_tt, ↓gate_ff, ↓gate_tf, ↓gate_ft, ↓gate_undef, ↓pop_cons, ↓fin_nil, Option.isNone_none, Option.isNone_some, Bool.not_true, Bool.not_false, Nat.zero_add, decide_true, decide_false, if_true, if_false, Bool.false_eq_true, ↓reduceIte, e1]
        by_cases h3 : x.size = 256
        · simpa [h1, h2, h3] using hk
        · have h3' : ¬ ((x.size : Nat) : Int) = 256 := by omega
          simpa [h1, h2, h3, h3'] using hk
      · simp only [h2, ↓o_nil, ↓o_field, ↓o_add, ↓o_sub, ↓o_mul, ↓o_lss, ↓o_leq, ↓o_gtr, ↓o_geq, ↓o_not, ↓o_pick, ↓o_eqInt, ↓o_neInt, ↓o_eqBool, ↓o_neBool, ↓o_eqPtr, ↓o_nePtr, ↓o_eqPtr', ↓o_eqSl, ↓o_neSl, ↓o_eqStr, ↓o_neStr, ↓o_len, ↓o_lenS, ↓o_min, ↓o_max, ↓o_extract, ↓o_convInt, ↓cd_true, ↓cd_false, ↓gate_tt, ↓gate_ff, ↓gate_tf, ↓gate_ft, ↓gate_undef, ↓pop_cons, ↓fin_nil, Option.isNone_none, Option.isNone_some, Bool.not_true, Bool.not_false, Nat.zero_add, decide_true, decide_false, if_true, if_false, Bool.false_eq_true, ↓reduceIte]
        simpa [h1, h2] using hk
    · simp only [h1, ↓o_nil, ↓o_field, ↓o_add, ↓o_sub, ↓o_mul, ↓o_lss, ↓o_leq, ↓o_gtr, ↓o_geq, ↓o_not, ↓o_pick, ↓o_eqInt, ↓o_neInt, ↓o_eqBool, ↓o_neBool, ↓o_eqPtr, ↓o_nePtr, ↓o_eqPtr', ↓o_eqSl, ↓o_neSl, ↓o_eqStr, ↓o_neStr, ↓o_len, ↓o_lenS, ↓o_min, ↓o_max, ↓o_extract, ↓o_convInt, ↓cd_true, ↓cd_false, ↓gate_tt, ↓gate_ff, ↓gate_tf, ↓gate_ft, ↓gate_undef, ↓pop_cons, ↓fin_nil, Option.isNone_none, Option.isNone_some, Bool.not_true, Bool.not_false, Nat.zero_add, decide_true, decide_false, if_true, if_false, Bool.false_eq_true, ↓reduceIte]
      simpa [h1] using hk

theorem last_args {W : World} {E : World0} {H : HP} {K : Value → World → Prop} (h : sat E W H) {v : Value} (ds : List Dd) (r : Rds H v ds.length (dcells ds)) (m : ds.length ≤ 9223372036854775807) (x : Dd) (k : ∀ w', sat E w' H → K (.bool true) w') :
    Calls prog 3 #[v, x.val] W (Ret K) := Last_spec h x r m k
theorem walk (W : World) {H : Type} (enc : TypeId × Value → H) (args : Array Value) (ds : List (DataW H)) (ps : List MemPlace)
    (hval : ∀ (j : Nat) t v, Try.f3.params.toList[j]? = some t → args.toList[j]? = some v → ∃ base, Value.okWide Try.checked.prog W .any base t v)
    (hA : DataW.TrodAll enc Try.checked.prog W 0 (fun _ => true) true Try.f3.params.toList args.toList ds ps) :
    Calls Try.checked.prog 3 args W (Ret fun v W' => v = .bool true ∧ Below W.heap.size W W') := by
  rw [show Try.f3.params.toList = [22, 24] by kernel_rfl] at hval hA
  obtain ⟨v0, vs0, d0, ds0, p0, q0, hargs, rfl, rfl, h0, r0'⟩ := trodAll_cons hA
  obtain ⟨v1, vs1, d1, ds1, p1, q1, rfl, rfl, rfl, h1, r1'⟩ := trodAll_cons r0'
  obtain ⟨rfl, rfl, rfl⟩ := trodAll_nil r1'
  obtain rfl : args = #[v0, v1] := by cases args; simp_all
  obtain ⟨b0, o0⟩ := hval 0 22 v0 rfl rfl
  obtain ⟨b1, o1⟩ := hval 1 24 v1 rfl rfl
  obtain ⟨x0, rx0, mx0⟩ := open_dds o0 h0
  obtain ⟨x1, rfl⟩ := open_dd o1 h1
  exact last_args (sat.start W) x0 rx0 mx0 x1 fun w' h => ⟨rfl, sat.below (h.whole)⟩

theorem lifted (os : Os) (started : os.Started) (H : Type) (enc : TypeId × Value → H) :
    ReturnsInHanded {} Try.checked os 3 .any (Rows.blockLastSpec.pre6 enc Try.prog Try.f3 Rows.blockLastRow.domain false) (Rows.blockLastSpec.post enc Try.prog Try.f3 false true false false) := by
  refine law_lifted (C := Try.checked) (tb := 4) (by kernel_rfl) started (by kernel_rfl) Try.func3
    (ChangeSpec.witness6 (enc := enc) (C := Try.checked) false ⟨#[], #[.slice none 0 0, .agg #[.int .i64 0, .int .i64 0, .int .u8 0]], []⟩ 8 (by kernel_rfl) (by kernel_rfl) (by kernel_rfl) (by kernel_rfl))
    (by kernel_rfl) (by kernel_rfl) (by kernel_rfl) (by kernel_rfl) rfl ?_ ?_
  · intro ds hd
    rw [show Try.f3.params.toList = [22, 24] by kernel_rfl] at hd
    match ds, hd with
    | [a0, a1], _ => rfl
  · exact fun W args ds ps => walk W enc args ds ps

theorem proved : Rows.BlockLastSaid :=
  OpenClaim.holds_of_wide 3 Try.f3 rfl rfl rfl rfl rfl rfl rfl ⟨rfl, rfl, rfl, rfl, rfl⟩ rfl rfl rfl rfl rfl (by kernel_rfl) Try.func3 (by kernel_rfl)
    (of_decide_eq_true (by kernel_rfl)) (by unfold Func.isWrapper; first | (rw [if_pos (by decide +kernel)]; kernel_rfl) | (rw [if_neg (by decide +kernel)]; exact ⟨rfl, rfl⟩))
    (fun os started H enc _ => lifted os started H enc)
#print axioms proved
end Go.Proofs.Yteplajobjlehlaa.Last
