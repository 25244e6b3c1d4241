/-
  Parts of keys: the code's function and the reference's.
-/
import Derived.Test.YtnkmgkilfkgfhaaDoorCodQ
import Derived.Test.YtnkmgkilfkgfhaaDoorCodL
import Derived.Test.YtnkmgkilfkgfhaaDoorStructs
set_option linter.all false
set_option maxRecDepth 10000
namespace Go.Proofs.YtnkmgkilfkgfhaaDoor
open Go Hold
variable {E : World0} {w : World} {H R : HP} {K : Value → World → Prop}
theorem parts_long {b : List UInt8} (h : 64 < b.length) : parts b = ([], 6) := by unfold parts; rw [if_pos h]
theorem parts_none {b : List UInt8} (h : ¬ 64 < b.length) (hd : dec b [] = none) : parts b = ([], 3) := by unfold parts; rw [if_neg h, hd]
theorem parts_some {b : List UInt8} {ps : List (List UInt8)} (h : ¬ 64 < b.length) (hd : dec b [] = some ps) : parts b = if ps.length < 1 ∨ 8 < ps.length then ([], 3) else (ps, 0) := by unfold parts; rw [if_neg h, hd]
theorem two_res (h : sat E w H) {a b : Nat} {u : Value} {n : Int} {e1 e2 : Nat} [Has H a (.cells [u].toArray e1 (0, 0))] [Has H b (.cells [Value.int .i64 n].toArray e2 (0, 0))] (k : K (.tuple #[u, .int .i64 n]) w) :
    ∃ r_6, (do loadVar 22 (← asAddr (.pointer (some ⟨a, 0, none⟩)))).run prog w = .ok r_6 w ∧ ∃ r_7, (do loadVar 24 (← asAddr (.pointer (some ⟨b, 0, none⟩)))).run prog w = .ok r_7 w ∧ K (.tuple #[r_6, r_7]) w := by
  obtain ⟨r, h1, h2⟩ := res_one (P := prog) (K := fun v _ => v = u) (t := 22) (b := a) h (v := u) rfl rfl
  obtain ⟨r', h3, h4⟩ := res_one (P := prog) (K := fun v _ => v = .int .i64 n) (t := 24) (b := b) h (v := .int .i64 n) rfl rfl
  subst h2 h4
  exact ⟨_, h1, _, h3, k⟩
theorem Parts_spec (h : sat E w H) {v : Value} {b : List UInt8} (hb : Rds H v b.length (b.map bv)) (k : backT K E H (parts b)) : Calls prog 26 #[v] w (Ret K) := by
  obtain ⟨va, vc, rfl, hvc, hb, _⟩ := hb.shape h
  refine c26 ?_
  unfold B26
  refine alloc_sl h fun a0 w h => ?_
  have h : sat E w (pts a0 (.cells [Value.slice none 0 0].toArray 22 (0, 0)) * H) := h
  refine alloc_sl h fun a1 w h => ?_
  have h : sat E w (pts a1 (.cells [Value.int .i64 0].toArray 24 (0, 0)) * (pts a0 (.cells [Value.slice none 0 0].toArray 22 (0, 0)) * H)) := h
  rw [o_len, o_gtr]
  refine cd_dec (fun hlong => ?_) (fun hshort => ?_)
  · have e := parts_long (b := b) (by omega)
    refine store_sl (b := a0) h rfl (by simp) fun w h => ?_
    refine store_sl (b := a1) h rfl (by simp) fun w h => ?_
    have h : sat E w (pts a1 (.cells [Value.int .i64 6].toArray 24 (0, 0)) * (pts a0 (.cells [Value.slice none 0 0].toArray 22 (0, 0)) * H)) := h
    refine two_res (a := a0) (b := a1) h ?_
    rw [e] at k
    exact backT_nil h.drop.drop k
  have hs : ¬ 64 < b.length := by omega
  refine alloc_sl h fun ob w h => ?_
  have h : sat E w (pts ob (.cells [Value.slice none 0 0].toArray 22 (0, 0)) * (pts a1 (.cells [Value.int .i64 0].toArray 24 (0, 0)) * (pts a0 (.cells [Value.slice none 0 0].toArray 22 (0, 0)) * H))) := h
  refine c33 ?_
  unfold B33
  refine box_sl h fun xb w h => ?_
  have h : sat E w (pts xb (.cells [Value.slice va b.length vc].toArray 23 (0, 0)) * (pts ob (.cells [Value.slice none 0 0].toArray 22 (0, 0)) * (pts a1 (.cells [Value.int .i64 0].toArray 24 (0, 0)) * (pts a0 (.cells [Value.slice none 0 0].toArray 22 (0, 0)) * H)))) := h
  refine pvv_of (v := .func (.func 40) #[] #[.pointer (some ⟨xb, 0, none⟩)]) (fun _ => rfl) ?_
  refine rng_body h Tryd.func40 (by kernel_rfl) (by kernel_rfl) fun rec D D1 w h hround => ?_
  refine Split_spec (E := E) (v0 := .slice va b.length vc) (b := b) (by omega) emp
    (fun ps => ex fun u => pts D1 (rec .ready none) * (pts ob (.cells [u].toArray 22 (0, 0)) * (osl 9 1 u ps.length (ps.map tv) * (pts D (.deferred (some [])) * (pts a1 (.cells [Value.int .i64 0].toArray 24 (0, 0)) * (pts a0 (.cells [Value.slice none 0 0].toArray 22 (0, 0)) * H))))))
    (pts D1 (rec .done (some .ret)) * (pts D (.deferred (some [])) * (pts a1 (.cells [Value.int .i64 3].toArray 24 (0, 0)) * (pts a0 (.cells [Value.slice none 0 0].toArray 22 (0, 0)) * H))))
    ?_ ?_ ?_ ?_ ?_
  · intro ps E w hs
    obtain ⟨u, hs⟩ := sat_ex.1 hs
    exact hb E w hs.drop.drop.drop.drop.drop.drop
  · rw [star_ex]
    refine sat_ex.2 ⟨.slice none 0 0, ?_⟩
    have h := osl_nil h 9 1
    exact h.perm (by ac_rfl)
  · clear h
    intro F ps p hp1 hp2 w K' h ht
    rw [star_ex] at h
    obtain ⟨u, h⟩ := sat_ex.1 h
    refine hround [tv p, .bool true] w K' rfl h.has ?_
    simp only [↓o_nil, ↓o_field, ↓o_add, ↓o_sub, ↓o_mul, ↓o_lss, ↓o_leq, ↓o_gtr, ↓o_geq, ↓o_not, ↓o_pick, ↓o_eqInt, ↓o_neInt, ↓o_eqBool, ↓o_neBool, ↓o_eqPtr, ↓o_nePtr, ↓o_eqPtr', ↓o_eqSl, ↓o_neSl, ↓o_eqStr, ↓o_neStr, ↓o_len, ↓o_lenS, ↓o_min, ↓o_max, ↓o_extract, ↓o_convInt, ↓cd_true, ↓cd_false, ↓gate_tt, ↓gate_ff, ↓gate_tf, ↓gate_ft, ↓gate_undef, ↓o_bind, ↓stay_v, ↓pop_cons, ↓fin_nil, Option.isNone_none, Option.isNone_some, Bool.not_true, Bool.not_false, Nat.zero_add, decide_true, decide_false, if_true, if_false, Bool.false_eq_true, ↓reduceIte]
    refine ⟨h.has, ?_⟩
    have h := (h.own D1).set (rec .busy none)
    try simp only [↓o_nil, ↓o_field, ↓o_add, ↓o_sub, ↓o_mul, ↓o_lss, ↓o_leq, ↓o_gtr, ↓o_geq, ↓o_not, ↓o_pick, ↓o_eqInt, ↓o_neInt, ↓o_eqBool, ↓o_neBool, ↓o_eqPtr, ↓o_nePtr, ↓o_eqPtr', ↓o_eqSl, ↓o_neSl, ↓o_eqStr, ↓o_neStr, ↓o_len, ↓o_lenS, ↓o_min, ↓o_max, ↓o_extract, ↓o_convInt, ↓cd_true, ↓cd_false, ↓gate_tt, ↓gate_ff, ↓gate_tf, ↓gate_ft, ↓gate_undef, ↓o_bind, ↓stay_v, ↓pop_cons, ↓fin_nil, Option.isNone_none, Option.isNone_some, Bool.not_true, Bool.not_false, Nat.zero_add, decide_true, decide_false, if_true, if_false, Bool.false_eq_true, ↓reduceIte]
    refine ld_in (b := ob) (v := u) h rfl ?_
    refine push_sl (v := u) h (u := tv p) rfl rfl (by omega) (by omega) fun u2 w h => ?_
    have hone : u2.oneCell' = true := by
      obtain ⟨_, _, rfl, _⟩ := osl_shape h
      rfl
    refine store_sl (b := ob) h hone (by simp) fun w h => ?_
    have h : sat E w (pts ob (.cells [u2].toArray 22 (0, 0)) * _) := h
    refine ⟨h.has, ht _ ?_⟩
    have h := (h.own D1).set (rec .ready none)
    rw [star_ex]
    refine sat_ex.2 ⟨u2, ?_⟩
    have e1 : ps.map tv ++ [tv p] = (ps ++ [p]).map tv := by simp
    rw [e1, show ps.length + 1 = (ps ++ [p]).length by simp] at h
    exact h.perm (by ac_rfl)
  · clear h
    intro F ps w K' h ht
    rw [star_ex] at h
    obtain ⟨u, h⟩ := sat_ex.1 h
    refine hround [tv [], .bool false] w K' rfl h.has ?_
    simp only [↓o_nil, ↓o_field, ↓o_add, ↓o_sub, ↓o_mul, ↓o_lss, ↓o_leq, ↓o_gtr, ↓o_geq, ↓o_not, ↓o_pick, ↓o_eqInt, ↓o_neInt, ↓o_eqBool, ↓o_neBool, ↓o_eqPtr, ↓o_nePtr, ↓o_eqPtr', ↓o_eqSl, ↓o_neSl, ↓o_eqStr, ↓o_neStr, ↓o_len, ↓o_lenS, ↓o_min, ↓o_max, ↓o_extract, ↓o_convInt, ↓cd_true, ↓cd_false, ↓gate_tt, ↓gate_ff, ↓gate_tf, ↓gate_ft, ↓gate_undef, ↓o_bind, ↓stay_v, ↓pop_cons, ↓fin_nil, Option.isNone_none, Option.isNone_some, Bool.not_true, Bool.not_false, Nat.zero_add, decide_true, decide_false, if_true, if_false, Bool.false_eq_true, ↓reduceIte]
    refine ⟨h.has, ?_⟩
    have h := (h.own D1).set (rec .busy none)
    try simp only [↓o_nil, ↓o_field, ↓o_add, ↓o_sub, ↓o_mul, ↓o_lss, ↓o_leq, ↓o_gtr, ↓o_geq, ↓o_not, ↓o_pick, ↓o_eqInt, ↓o_neInt, ↓o_eqBool, ↓o_neBool, ↓o_eqPtr, ↓o_nePtr, ↓o_eqPtr', ↓o_eqSl, ↓o_neSl, ↓o_eqStr, ↓o_neStr, ↓o_len, ↓o_lenS, ↓o_min, ↓o_max, ↓o_extract, ↓o_convInt, ↓cd_true, ↓cd_false, ↓gate_tt, ↓gate_ff, ↓gate_tf, ↓gate_ft, ↓gate_undef, ↓o_bind, ↓stay_v, ↓pop_cons, ↓fin_nil, Option.isNone_none, Option.isNone_some, Bool.not_true, Bool.not_false, Nat.zero_add, decide_true, decide_false, if_true, if_false, Bool.false_eq_true, ↓reduceIte]
    refine store_sl (b := a0) h rfl (by simp) fun w h => ?_
    have h : sat E w (pts a0 (.cells [Value.slice none 0 0].toArray 22 (0, 0)) * _) := h
    refine store_sl (b := a1) h rfl (by simp) fun w h => ?_
    have h : sat E w (pts a1 (.cells [Value.int .i64 3].toArray 24 (0, 0)) * _) := h
    refine ⟨h.has, ht _ ?_⟩
    have h := (h.own D1).set (rec .done (some .ret))
    have h := h.lose ob
    have h := h.perm (show _ = osl 9 1 u ps.length (ps.map tv) * (F * (pts D1 (rec .done (some .ret)) * (pts D (.deferred (some [])) * (pts a1 (.cells [Value.int .i64 3].toArray 24 (0, 0)) * (pts a0 (.cells [Value.slice none 0 0].toArray 22 (0, 0)) * H))))) by ac_rfl)
    exact h.drop
  · clear h
    intro w h
    cases hd : dec b [] with
    | none =>
      rw [hd] at h
      simp only at h
      have e := parts_none hs hd
      rw [e] at k
      refine ⟨.done, some .ret, h.has, by simp, ?_⟩
      have h := (h.own D1).set (rec .exhausted (some .ret))
      simp only [jump]
      refine ⟨h.has, ?_⟩
      have h := (h.own D).set (.deferred none)
      refine two_res (a := a0) (b := a1) h ?_
      exact backT_nil ((((h.lose D).lose D1).lose a1).lose a0) k
    | some ps =>
      rw [hd] at h
      obtain ⟨u, h⟩ := sat_ex.1 h
      have e := parts_some hs hd
      rw [e] at k
      refine ⟨.ready, none, h.has, by simp, ?_⟩
      have h := (h.own D1).set (rec .exhausted none)
      obtain ⟨ua, uc, rfl, _⟩ := osl_shape (h.owns u)
      simp only [jump]
      refine ld_in (b := ob) (v := .slice ua ps.length uc) h rfl ?_
      rw [o_len, o_lss]
      have bad : ∀ w : World, ps.length < 1 ∨ 8 < ps.length → sat E w (pts D1 (rec .exhausted none) * (pts ob (.cells [Value.slice ua ps.length uc].toArray 22 (0, 0)) * (osl 9 1 (.slice ua ps.length uc) ps.length (ps.map tv) * (pts D (.deferred (some [])) * (pts a1 (.cells [Value.int .i64 0].toArray 24 (0, 0)) * (pts a0 (.cells [Value.slice none 0 0].toArray 22 (0, 0)) * H)))))) →
          efu prog (Instr.storeAt 22 (.pointer (some ⟨a0, 0, none⟩)) (.slice none 0 0)) w fun u_30 w => efu prog (Instr.storeAt 24 (.pointer (some ⟨a1, 0, none⟩)) (.int .i64 3)) w fun u_31 w =>
            und [D] w fun w => ∃ r_32, (do loadVar 22 (← asAddr (.pointer (some ⟨a0, 0, none⟩)))).run prog w = .ok r_32 w ∧ ∃ r_33, (do loadVar 24 (← asAddr (.pointer (some ⟨a1, 0, none⟩)))).run prog w = .ok r_33 w ∧ K (.tuple #[r_32, r_33]) w := by
        intro w hbad h
        rw [if_pos hbad] at k
        refine store_sl (b := a0) h rfl (by simp) fun w h => ?_
        have h : sat E w (pts a0 (.cells [Value.slice none 0 0].toArray 22 (0, 0)) * _) := h
        refine store_sl (b := a1) h rfl (by simp) fun w h => ?_
        have h : sat E w (pts a1 (.cells [Value.int .i64 3].toArray 24 (0, 0)) * _) := h
        refine ⟨h.has, ?_⟩
        have h := (h.own D).set (.deferred none)
        refine two_res (a := a0) (b := a1) h ?_
        have h := ((((h.lose D).lose D1).lose ob).lose a1).lose a0
        exact backT_nil h.drop k
      by_cases g1 : ps.length < 1
      · have t1 : decide ((ps.length : Int) < 1) = true := decide_eq_true (by omega)
        simp only [t1, ↓gate_tt, ↓gate_ff, ↓gate_tf, ↓gate_ft, ↓gate_undef, ↓o_pick, if_true, ↓cd_true]
        exact bad _ (.inl g1) h
      · have t1 : decide ((ps.length : Int) < 1) = false := decide_eq_false (by omega)
        simp only [t1, ↓gate_tt, ↓gate_ff, ↓gate_tf, ↓gate_ft, ↓gate_undef]
        refine ld_in (b := ob) (v := .slice ua ps.length uc) h rfl ?_
        rw [o_len, o_gtr]
        by_cases g2 : 8 < ps.length
        · have t2 : decide ((8 : Int) < ps.length) = true := decide_eq_true (by omega)
          simp only [t2, ↓o_pick, if_false, Bool.false_eq_true, ↓cd_true]
          exact bad _ (.inr g2) h
        · have t2 : decide ((8 : Int) < ps.length) = false := decide_eq_false (by omega)
          simp only [t2, ↓o_pick, if_false, Bool.false_eq_true, ↓cd_false]
          rw [if_neg (by omega)] at k
          refine ld_in (b := ob) (v := .slice ua ps.length uc) h rfl ?_
          refine store_sl (b := a0) h rfl (by simp) fun w h => ?_
          have h : sat E w (pts a0 (.cells [Value.slice ua ps.length uc].toArray 22 (0, 0)) * _) := h
          refine store_sl (b := a1) h rfl (by simp) fun w h => ?_
          have h : sat E w (pts a1 (.cells [Value.int .i64 0].toArray 24 (0, 0)) * _) := h
          refine ⟨h.has, ?_⟩
          have h := (h.own D).set (.deferred none)
          refine two_res (a := a0) (b := a1) h ?_
          refine k _ _ ?_
          exact ((((h.lose D).lose D1).lose ob).lose a1).lose a0
theorem RParts_spec (h : sat E w H) {v : Value} {b : List UInt8} (hb : Rds H v b.length (b.map bv)) (k : backT K E H (parts b)) : Calls prog 27 #[v] w (Ret K) := by
  obtain ⟨va, vc, rfl, hvc, hb, _⟩ := hb.shape h
  refine c27 ?_
  unfold B27
  rw [o_len, o_gtr]
  refine cd_dec (fun hlong => ?_) (fun hshort => ?_)
  · have e := parts_long (b := b) (by omega)
    rw [e] at k
    exact backT_nil h k
  have hs : ¬ 64 < b.length := by omega
  have eqb : ∀ (xo yo : Operand) (c d : UInt8) (w : World) (K : Value → World → Prop), pvv prog (oEq .eql 5 xo yo (bv c) (bv d)) w K = K (.bool (decide (c = d))) w := fun xo yo c d w K => by
    have : (decide ((c.toNat : Int) = (d.toNat : Int))) = decide (c = d) := by
      rw [Bool.eq_iff_iff, decide_eq_true_iff, decide_eq_true_iff, ← UInt8.toNat_inj]; omega
    unfold bv
    rw [o_eqInt, this]
  have neb : ∀ (xo yo : Operand) (c d : UInt8) (w : World) (K : Value → World → Prop), pvv prog (oEq .neq 5 xo yo (bv c) (bv d)) w K = K (.bool !(decide (c = d))) w := fun xo yo c d w K => by
    have : (decide ((c.toNat : Int) = (d.toNat : Int))) = decide (c = d) := by
      rw [Bool.eq_iff_iff, decide_eq_true_iff, decide_eq_true_iff, ← UInt8.toNat_inj]; omega
    unfold bv
    rw [o_neInt, this]
  have e255 : (.int .u8 255 : Value) = bv 255 := rfl
  have e1 : (.int .u8 1 : Value) = bv 1 := rfl
  have e0 : (.int .u8 0 : Value) = bv 0 := rfl
  refine lp_nat (fun q σ w => ∃ (ov pv : Value) (ds : List (List UInt8)) (p : List UInt8) (i : Nat), σ = [ov, pv, .bool (decide (p ≠ [])), .int .i64 (i : Int)] ∧ q = b.length - i ∧ i ≤ b.length ∧ dec b [] = (dec (b.drop i) p).map (ds ++ ·) ∧ p.length ≤ i ∧ ds.length ≤ i ∧
      sat E w (osl 5 1 pv p.length (p.map bv) * (osl 9 1 ov ds.length (ds.map tv) * H))) b.length
    ⟨_, _, [], [], 0, rfl, rfl, by omega, by cases h' : dec b [] <;> simp [h'], by simp, by simp, osl_nil (osl_nil h 9 1) 5 1⟩ ?_
  clear h
  rintro q σ w again ⟨ov, pv, ds, p, i, rfl, rfl, hi, hdec, hpl, hdl, h⟩ hag
  rw [pop_cons, pop_cons, pop_cons, pop_cons, fin_nil, o_len, o_lss]
  refine cd_dec (fun hlt => ?_) (fun hge => ?_)
  · have hi2 : i < b.length := by omega
    have hdr : b.drop i = b.getD i 0 :: b.drop (i + 1) := drop_getD hi2
    obtain ⟨bb, oo, cc, ee, hcc, hrd⟩ := hb.opened h.drop.drop (by simp; omega)
    cases ee
    refine jn_cut (fun σ w => ∃ (ov pv : Value) (ds : List (List UInt8)) (p : List UInt8) (j : Nat), σ = [ov, pv, .bool (decide (p ≠ [])), .int .i64 (j : Int)] ∧ i ≤ j ∧ j < b.length ∧ dec b [] = (dec (b.drop (j + 1)) p).map (ds ++ ·) ∧ p.length ≤ j + 1 ∧ ds.length ≤ j + 1 ∧
      sat E w (osl 5 1 pv p.length (p.map bv) * (osl 9 1 ov ds.length (ds.map tv) * H))) (fun kj hkj => ?_) ?_
    · rw [o_index (by omega) (by omega)]
      refine ld_rd h (hrd.right.right) i (by simp) (v := bv (b.getD i 0)) (getbv (by omega)) ?_
      rw [e0, neb]
      by_cases hc : b.getD i 0 = 0
      · rw [decide_eq_true hc, Bool.not_true, cd_false, o_add, i64_of (by omega) (by omega), show (i : Int) + 1 = ((i + 1 : Nat) : Int) by omega, o_len, o_lss]
        rw [hc] at hdr
        by_cases hlast : i + 1 = b.length
        · have t1 : decide (((i + 1 : Nat) : Int) < b.length) = false := decide_eq_false (by omega)
          simp only [t1, ↓gate_tt, ↓gate_ff, ↓gate_tf, ↓gate_ft, ↓gate_undef, ↓o_pick, if_false, Bool.false_eq_true, ↓cd_false, ↓o_len, ↓o_lss]
          have hn : dec b [] = none := by rw [hdec, hdr, List.drop_eq_nil_of_le (by omega), dec_one]; rfl
          rw [parts_none hs hn] at k
          exact backT_nil h.drop.drop k
        · have t1 : decide (((i + 1 : Nat) : Int) < b.length) = true := decide_eq_true (by omega)
          have hdr2 : b.drop (i + 1) = b.getD (i + 1) 0 :: b.drop (i + 2) := drop_getD (by omega)
          rw [hdr2] at hdr
          simp only [t1, ↓gate_tt, ↓gate_ff, ↓gate_tf, ↓gate_ft, ↓gate_undef]
          rw [o_index (by omega) (by omega)]
          refine ld_rd h (hrd.right.right) (i + 1) (by simp) (v := bv (b.getD (i + 1) 0)) (getbv (by omega)) ?_
          rw [e255, eqb]
          by_cases hd255 : b.getD (i + 1) 0 = 255
          · rw [decide_eq_true hd255, o_pick]
            simp only [if_true, ↓cd_true]
            refine push_sl h (u := bv 0) rfl rfl (by omega) (by omega) fun v3 w h => ?_
            have e3 : (decide (p ++ [(0 : UInt8)] ≠ [])) = true := by simp
            rw [← e3]
            refine hkj _ _ ⟨ov, v3, ds, p ++ [0], i + 1, rfl, by omega, by omega, by rw [hdec, hdr, hd255, dec_ff], by simp; omega, by omega, ?_⟩
            rw [List.length_append, List.map_append]
            exact h
          · rw [decide_eq_false hd255, o_pick]
            simp only [t1, if_true, ↓cd_false, ↓o_len, ↓o_lss, ↓gate_tt, ↓gate_ff, ↓gate_tf, ↓gate_ft, ↓gate_undef]
            rw [o_index (by omega) (by omega)]
            refine ld_rd h (hrd.right.right) (i + 1) (by simp) (v := bv (b.getD (i + 1) 0)) (getbv (by omega)) ?_
            rw [e1, eqb]
            by_cases hd1 : b.getD (i + 1) 0 = 1
            · rw [decide_eq_true hd1, o_pick]
              simp only [if_true, ↓cd_true]
              refine conv_bs (l := p) (osl_rd h) ?_
              have h := h.drop
              refine push_sl (v := ov) h (u := tv p) rfl rfl (by omega) (by omega) fun v3 w h => ?_
              have e3 : (decide (([] : List UInt8) ≠ [])) = false := by simp
              rw [← e3]
              refine hkj _ _ ⟨v3, .slice none 0 0, ds ++ [p], [], i + 1, rfl, by omega, by omega, ?_, by simp, by simp; omega, ?_⟩
              · rw [hdec, hdr, hd1, dec_01]
                cases dec (b.drop (i + 2)) [] <;> simp
              · rw [List.length_append, List.map_append]
                exact osl_nil h 5 1
            · rw [decide_eq_false hd1, o_pick]
              simp only [if_true, ↓cd_false]
              have hn : dec b [] = none := by rw [hdec, hdr, dec_bad hd255 hd1]; rfl
              rw [parts_none hs hn] at k
              exact backT_nil h.drop.drop k
      · rw [decide_eq_false hc, Bool.not_false, cd_true, o_index (by omega) (by omega)]
        refine ld_rd h (hrd.right.right) i (by simp) (v := bv (b.getD i 0)) (getbv (by omega)) ?_
        refine push_sl h (u := bv (b.getD i 0)) rfl rfl (by omega) (by omega) fun v3 w h => ?_
        have e3 : (decide (p ++ [b.getD i 0] ≠ [])) = true := by simp
        rw [← e3]
        refine hkj _ _ ⟨ov, v3, ds, p ++ [b.getD i 0], i, rfl, by omega, by omega, ?_, by simp; omega, by omega, ?_⟩
        · rw [hdec, hdr]
          by_cases hlast : i + 1 = b.length
          · rw [List.drop_eq_nil_of_le (by omega), dec_one, dec_nil, if_neg (by simp)]
          · have hdr2 : b.drop (i + 1) = b.getD (i + 1) 0 :: b.drop (i + 2) := drop_getD (by omega)
            rw [hdr2, dec_nz hc]
        · rw [List.length_append, List.map_append]
          exact h
    · clear h
      rintro σ w ⟨ov, pv, ds, p, j, rfl, hij, hj, hdec, hpl, hdl, h⟩
      rw [pop_cons, pop_cons, pop_cons, pop_cons, fin_nil, o_add, i64_of (by omega) (by omega)]
      exact hag (b.length - (j + 1)) _ _ (by omega) ⟨ov, pv, ds, p, j + 1, rfl, rfl, by omega, hdec, hpl, hdl, h⟩
  · have hi2 : i = b.length := by omega
    rw [hi2, List.drop_length, dec_nil] at hdec
    obtain ⟨oa, oc, rfl, _⟩ := osl_shape h.drop
    by_cases hp : p = []
    · have tp : decide (p ≠ []) = false := by simp [hp]
      rw [if_pos hp] at hdec
      have hdec : dec b [] = some ds := by simpa using hdec
      rw [parts_some hs hdec] at k
      simp only [tp, ↓gate_tt, ↓gate_ff, ↓gate_tf, ↓gate_ft, ↓gate_undef, ↓o_len, ↓o_lss, ↓o_gtr, ↓o_pick, if_false, Bool.false_eq_true]
      by_cases g1 : ds.length < 1
      · have t1 : decide ((ds.length : Int) < 1) = true := decide_eq_true (by omega)
        rw [if_pos (.inl g1)] at k
        simp only [t1, ↓gate_tt, ↓gate_ff, ↓gate_tf, ↓gate_ft, ↓gate_undef, ↓o_pick, if_true, ↓cd_true]
        exact backT_nil h.drop.drop k
      · have t1 : decide ((ds.length : Int) < 1) = false := decide_eq_false (by omega)
        by_cases g2 : 8 < ds.length
        · have t2 : decide ((8 : Int) < ds.length) = true := decide_eq_true (by omega)
          rw [if_pos (.inr g2)] at k
          simp only [t1, t2, ↓gate_tt, ↓gate_ff, ↓gate_tf, ↓gate_ft, ↓gate_undef, ↓o_pick, if_false, Bool.false_eq_true, ↓cd_true, ↓o_len, ↓o_gtr]
          exact backT_nil h.drop.drop k
        · have t2 : decide ((8 : Int) < ds.length) = false := decide_eq_false (by omega)
          rw [if_neg (by omega)] at k
          simp only [t1, t2, ↓gate_tt, ↓gate_ff, ↓gate_tf, ↓gate_ft, ↓gate_undef, ↓o_pick, if_false, Bool.false_eq_true, ↓cd_false, ↓o_len, ↓o_gtr]
          exact k _ _ h.drop
    · have tp : decide (p ≠ []) = true := by simp [hp]
      rw [if_neg hp] at hdec
      have hn : dec b [] = none := by simpa using hdec
      rw [parts_none hs hn] at k
      simp only [tp, ↓gate_tt, ↓gate_ff, ↓gate_tf, ↓gate_ft, ↓gate_undef, ↓o_pick, if_true, ↓cd_true]
      exact backT_nil h.drop.drop k
end Go.Proofs.YtnkmgkilfkgfhaaDoor
