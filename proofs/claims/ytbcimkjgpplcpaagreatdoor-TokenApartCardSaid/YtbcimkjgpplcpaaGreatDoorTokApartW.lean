/-
  TokenApart: the walk.
-/
import Derived.Test.YtbcimkjgpplcpaaGreatDoorTokV
set_option linter.all false
set_option maxRecDepth 100000
namespace Go.Proofs.YtbcimkjgpplcpaaGreatDoor.Apart
open Go Hold Go.ChangeShapes Go.WideShapes Go.ChangeAt Go.RowKit
variable {E : World0} {w : World} {H R : HP} {K : Value → World → Prop}
open T
theorem open_ss {W : World} {H : Type} {enc : TypeId × Value → H} {r : Reach} {b0 : Nat} {v : Value} {d : DataW H} {p : List MemPlace} (hv : Value.okWide prog W r b0 23 v) (h : DataW.Trod enc prog W 0 (fun _ => true) true 23 v d p) (_hw : ∀ n ∈ d.weights prog 23, n ≤ 140737488351232) : ∃ l : List Int, Rds (old W) v l.length (l.map iv) ∧ l.length ≤ 9223372036854775807 := by
  obtain ⟨l, h1, h2, _⟩ := open_intsG (t := 23) (e := 3) (by kernel_rfl) (by kernel_rfl) (by kernel_rfl) hv h
  exact ⟨l, h1, h2⟩
theorem Apart_spec (h : sat E w H) {v : Value} (l : List T.Dd) (hl : Rds H v l.length (l.flatMap T.dcells)) (ml : l.length ≤ 9223372036854775807) (sl : ∀ x ∈ l, T.OkD H x) (cl : List UInt8) (_ : cl.length ≤ 140737488351232)
    {u : Value} (ss : List Int) (hs : Rds H u ss.length (ss.map iv)) (ms : ss.length ≤ 9223372036854775807)
    (k : ∀ w', sat E w' H → K (.bool true) w') : Calls prog 3 #[v, tv cl, u] w (Ret K) := by
  have t0 : ∀ n : Int, decide (n = n) = true := fun n => decide_eq_true rfl
  obtain ⟨va, vc, rfl, hvc, hl, _⟩ := hl.shape h
  refine c3 ?_
  unfold B3
  refine New_spec h fun p b c w h => ?_
  refine RNew_spec h fun q vf vt w h => ?_
  refine live_spec h fun w h => ?_
  simp only [↓o_not, Bool.not_true, ↓cd_false]
  have h : sat E w (both p b c q newS newR vf vt H) := by
    unfold both
    unfold sI rI at h ⊢
    exact h.perm (by ac_rfl)
  refine lp_nat (fun r σ w => ∃ (i : Nat) (s : St) (rs : Rs) (vf vt : Value), σ = [.int .i64 (i : Int)] ∧ r = 60 - i ∧ i ≤ 60 ∧ OkS s (2 * i) ∧ Few rs (2 * i) ∧ sat E w (both p b c q s rs vf vt H)) 60
    ⟨0, newS, newR, vf, vt, rfl, rfl, by omega, ok_newS, few_new, h⟩ ?_
  clear h
  rintro r σ w again ⟨i, s, rs, vf, vt, rfl, rfl, hi, ok, fw, h⟩ hag
  rw [pop_cons, fin_nil, o_len, two_lss]
  refine cd_dec (fun hlt => ?_) (fun hge => ?_)
  · have hi1 : i < l.length := by omega
    have hx : l[i]? = some l[i] := List.getElem?_eq_getElem hi1
    have hm : l[i] ∈ l := List.getElem_mem hi1
    generalize l[i] = x at hx hm
    have h0 : sat E w H := by unfold both sI rI at h; exact h.drop.drop.drop.drop.drop.drop
    obtain ⟨b', o', c', e, hc', hrd⟩ := hl.opened h0 (by rw [fm_length (k := 7) (fun _ => rfl)]; omega)
    cases e
    rw [o_index (by omega) (by omega)]
    refine ld_el h (Rds.under hrd) (i * 7) (by simp) (dcells x) rfl (fm_at (k := 7) (fun _ => rfl) hx) ?_
    refine do_spec ok fw (by omega) (sl x hm) h fun r rs' vf' vt' w fw' h => ?_
    rw [o_add, i64_of (by omega) (by omega)]
    exact hag (60 - (i + 1)) _ _ (by omega) ⟨i + 1, doT s x, rs', vf', vt', rfl, rfl, by omega, by have := ok_do (x := x) ok; exact this, fw', h⟩
  · clear hag hge
    refine Fork_spec h fun p2 b2 c2 w h => ?_
    have hfl := ok.ff
    have h := h.perm (show _ = sI p s b c (rI q rs vf vt (sI p2 s b2 c2 H)) by unfold sI rI; ac_rfl)
    have hsr : Rds (rI q rs vf vt (sI p2 s b2 c2 H)) u ss.length (ss.map iv) := hs.right.right.right.right.right.right
    refine EndClient_spec (l := ss) (cl := cl) ok (by omega) h hsr ms fun en w h => ?_
    have hq : ∀ f ∈ s.f.filter (ecP cl ss), f ∈ s.f := fun f hf => (List.mem_filter.1 hf).1
    have hqc : ∀ f ∈ s.f.filter (ecP cl ss), f.cl = cl := fun f hf => by
      have := (List.mem_filter.1 hf).2
      unfold ecP at this
      rw [Bool.and_eq_true, decide_eq_true_iff] at this
      exact this.1
    have hql : (s.f.filter (ecP cl ss)).length ≤ 1000 := Nat.le_trans (List.length_filter_le _ _) (by omega)
    generalize s.f.filter (ecP cl ss) = qs at h hq hqc hql
    obtain ⟨ea, ec, rfl, hec, _, hpos⟩ := osl_shape h
    have h := h.perm (show _ = sI p2 s b2 c2 (sI p (dropAll s qs) b c (osl 3 1 (.slice ea qs.length ec) qs.length ((qs.map Fam.id).map iv) * (rI q rs vf vt H))) by unfold sI rI; ac_rfl)
    refine lp_nat (fun r σ w => ∃ (e : Nat), σ = [.int .i64 (e : Int)] ∧ r = 20 - e ∧ e ≤ 20 ∧ sat E w (sI p2 s b2 c2 (sI p (dropAll s qs) b c (osl 3 1 (.slice ea qs.length ec) qs.length ((qs.map Fam.id).map iv) * (rI q rs vf vt H))))) 19 ⟨1, rfl, by omega, by omega, h⟩ ?_
    clear h
    rintro r σ w again2 ⟨e, rfl, rfl, he, h⟩ hag2
    rw [pop_cons, fin_nil, o_lss]
    refine cd_dec (fun hlt => ?_) (fun hge => ?_)
    case refine_2 =>
      unfold sI rI at h
      exact k w h.drop.drop.drop.drop.drop.drop.drop.drop.drop.drop
    refine Family_spec (id := e) h fun w h => ?_
    rw [o_extract, o_extract]
    refine fam_in h fun fb w h => ?_
    have h := h.perm (show _ = sI p (dropAll s qs) b c (pts fb (.cells (fcells (findF s e).1).toArray 35 (0, 0)) * (sI p2 s b2 c2 (osl 3 1 (.slice ea qs.length ec) qs.length ((qs.map Fam.id).map iv) * (rI q rs vf vt H)))) by unfold sI rI; ac_rfl)
    refine Family_spec (id := e) h fun w h => ?_
    rw [o_extract, o_extract]
    refine fam_in h fun gb w h => ?_
    have h := h.drop
    have h := h.perm (show _ = osl 3 1 (.slice ea qs.length ec) qs.length ((qs.map Fam.id).map iv) * (pts fb (.cells (fcells (findF s e).1).toArray 35 (0, 0)) * (sI p2 s b2 c2 (sI p (dropAll s qs) b c (rI q rs vf vt H)))) by unfold sI rI; ac_rfl)
    refine lp_nat (fun r σ w => ∃ (j : Nat), σ = [.bool (decide ((e : Int) ∈ (qs.map Fam.id).take j)), .int .i64 (j : Int)] ∧ r = qs.length - j ∧ j ≤ qs.length ∧ sat E w (osl 3 1 (.slice ea qs.length ec) qs.length ((qs.map Fam.id).map iv) * (pts fb (.cells (fcells (findF s e).1).toArray 35 (0, 0)) * (sI p2 s b2 c2 (sI p (dropAll s qs) b c (rI q rs vf vt H)))))) qs.length ⟨0, by simp, by omega, by omega, h⟩ ?_
    clear h
    rintro r σ w again3 ⟨j, rfl, rfl, hj, h⟩ hag3
    rw [pop_cons, pop_cons, fin_nil, o_len, o_lss]
    refine cd_dec (fun hlt3 => ?_) (fun hge3 => ?_)
    · have hj1 : j < qs.length := by omega
      obtain ⟨ub, hub⟩ := hpos (by omega)
      subst hub
      have hjl : j < (qs.map Fam.id).length := by simpa using hj1
      have hx : (qs.map Fam.id)[j]? = some (qs.map Fam.id)[j] := List.getElem?_eq_getElem hjl
      have htk : (qs.map Fam.id).take (j + 1) = (qs.map Fam.id).take j ++ [(qs.map Fam.id)[j]] := List.take_succ_eq_append_getElem hjl
      generalize (qs.map Fam.id)[j] = x at hx htk
      have next : ∀ g : Bool, g = decide ((e : Int) ∈ (qs.map Fam.id).take (j + 1)) → pvv prog (binOp .add 3 (.int .i64 (j : Int)) (.int .i64 1)) w fun t_42 w => again3 [.bool g, t_42] w := by
        rintro _ rfl
        rw [o_add, i64_of (by omega) (by omega)]
        exact hag3 (qs.length - (j + 1)) _ _ (by omega) ⟨j + 1, rfl, rfl, by omega, h⟩
      by_cases hg : (e : Int) ∈ (qs.map Fam.id).take j
      · have n := next true (by rw [htk, eq_comm, decide_eq_true_iff]; exact List.mem_append_left _ hg)
        simp only [decide_eq_true hg, ↓o_nil, ↓o_field, ↓o_add, ↓o_sub, ↓o_mul, ↓o_lss, ↓o_leq, ↓o_gtr, ↓o_geq, ↓o_not, ↓o_pick, ↓o_eqInt, ↓o_neInt, ↓o_eqBool, ↓o_neBool, ↓o_eqPtr, ↓o_nePtr, ↓o_eqPtr', ↓o_eqSl, ↓o_neSl, ↓o_eqStr, ↓o_neStr, ↓o_len, ↓o_lenS, ↓o_min, ↓o_max, ↓o_extract, ↓o_convInt, ↓cd_true, ↓cd_false, ↓gate_tt, ↓gate_ff, ↓gate_tf, ↓gate_ft, ↓gate_undef, ↓o_bind, ↓stay_v, ↓pop_cons, ↓fin_nil, Option.isNone_none, Option.isNone_some, Bool.not_true, Bool.not_false, Nat.zero_add, decide_true, decide_false, if_true, if_false, Bool.false_eq_true, ↓reduceIte]
        try simp only [↓o_nil, ↓o_field, ↓o_add, ↓o_sub, ↓o_mul, ↓o_lss, ↓o_leq, ↓o_gtr, ↓o_geq, ↓o_not, ↓o_pick, ↓o_eqInt, ↓o_neInt, ↓o_eqBool, ↓o_neBool, ↓o_eqPtr, ↓o_nePtr, ↓o_eqPtr', ↓o_eqSl, ↓o_neSl, ↓o_eqStr, ↓o_neStr, ↓o_len, ↓o_lenS, ↓o_min, ↓o_max, ↓o_extract, ↓o_convInt, ↓cd_true, ↓cd_false, ↓gate_tt, ↓gate_ff, ↓gate_tf, ↓gate_ft, ↓gate_undef, ↓o_bind, ↓stay_v, ↓pop_cons, ↓fin_nil, Option.isNone_none, Option.isNone_some, Bool.not_true, Bool.not_false, Nat.zero_add, decide_true, decide_false, if_true, if_false, Bool.false_eq_true, ↓reduceIte] at n
        exact n
      · have n := next (decide (x = (e : Int))) (by
          rw [htk, decide_eq_decide, List.mem_append, List.mem_singleton]
          exact ⟨fun h => .inr h.symm, fun h => h.elim (fun h => absurd h hg) (fun h => h.symm)⟩)
        simp only [decide_eq_false hg, ↓o_nil, ↓o_field, ↓o_add, ↓o_sub, ↓o_mul, ↓o_lss, ↓o_leq, ↓o_gtr, ↓o_geq, ↓o_not, ↓o_pick, ↓o_eqInt, ↓o_neInt, ↓o_eqBool, ↓o_neBool, ↓o_eqPtr, ↓o_nePtr, ↓o_eqPtr', ↓o_eqSl, ↓o_neSl, ↓o_eqStr, ↓o_neStr, ↓o_len, ↓o_lenS, ↓o_min, ↓o_max, ↓o_extract, ↓o_convInt, ↓cd_true, ↓cd_false, ↓gate_tt, ↓gate_ff, ↓gate_tf, ↓gate_ft, ↓gate_undef, ↓o_bind, ↓stay_v, ↓pop_cons, ↓fin_nil, Option.isNone_none, Option.isNone_some, Bool.not_true, Bool.not_false, Nat.zero_add, decide_true, decide_false, if_true, if_false, Bool.false_eq_true, ↓reduceIte]
        rw [o_index (by omega) (by omega)]
        try simp only [↓o_nil, ↓o_field, ↓o_add, ↓o_sub, ↓o_mul, ↓o_lss, ↓o_leq, ↓o_gtr, ↓o_geq, ↓o_not, ↓o_pick, ↓o_eqInt, ↓o_neInt, ↓o_eqBool, ↓o_neBool, ↓o_eqPtr, ↓o_nePtr, ↓o_eqPtr', ↓o_eqSl, ↓o_neSl, ↓o_eqStr, ↓o_neStr, ↓o_len, ↓o_lenS, ↓o_min, ↓o_max, ↓o_extract, ↓o_convInt, ↓cd_true, ↓cd_false, ↓gate_tt, ↓gate_ff, ↓gate_tf, ↓gate_ft, ↓gate_undef, ↓o_bind, ↓stay_v, ↓pop_cons, ↓fin_nil, Option.isNone_none, Option.isNone_some, Bool.not_true, Bool.not_false, Nat.zero_add, decide_true, decide_false, if_true, if_false, Bool.false_eq_true, ↓reduceIte]
        refine ld_rd h (Rds.osl.left) j (by simp) (v := .int .i64 x) (by rw [List.getElem?_map, hx]; rfl) ?_
        try simp only [↓o_nil, ↓o_field, ↓o_add, ↓o_sub, ↓o_mul, ↓o_lss, ↓o_leq, ↓o_gtr, ↓o_geq, ↓o_not, ↓o_pick, ↓o_eqInt, ↓o_neInt, ↓o_eqBool, ↓o_neBool, ↓o_eqPtr, ↓o_nePtr, ↓o_eqPtr', ↓o_eqSl, ↓o_neSl, ↓o_eqStr, ↓o_neStr, ↓o_len, ↓o_lenS, ↓o_min, ↓o_max, ↓o_extract, ↓o_convInt, ↓cd_true, ↓cd_false, ↓gate_tt, ↓gate_ff, ↓gate_tf, ↓gate_ft, ↓gate_undef, ↓o_bind, ↓stay_v, ↓pop_cons, ↓fin_nil, Option.isNone_none, Option.isNone_some, Bool.not_true, Bool.not_false, Nat.zero_add, decide_true, decide_false, if_true, if_false, Bool.false_eq_true, ↓reduceIte]
        try simp only [↓o_nil, ↓o_field, ↓o_add, ↓o_sub, ↓o_mul, ↓o_lss, ↓o_leq, ↓o_gtr, ↓o_geq, ↓o_not, ↓o_pick, ↓o_eqInt, ↓o_neInt, ↓o_eqBool, ↓o_neBool, ↓o_eqPtr, ↓o_nePtr, ↓o_eqPtr', ↓o_eqSl, ↓o_neSl, ↓o_eqStr, ↓o_neStr, ↓o_len, ↓o_lenS, ↓o_min, ↓o_max, ↓o_extract, ↓o_convInt, ↓cd_true, ↓cd_false, ↓gate_tt, ↓gate_ff, ↓gate_tf, ↓gate_ft, ↓gate_undef, ↓o_bind, ↓stay_v, ↓pop_cons, ↓fin_nil, Option.isNone_none, Option.isNone_some, Bool.not_true, Bool.not_false, Nat.zero_add, decide_true, decide_false, if_true, if_false, Bool.false_eq_true, ↓reduceIte] at n
        exact n
    · have hj2 : j = qs.length := by omega
      subst hj2
      rw [show (qs.map Fam.id).take qs.length = qs.map Fam.id by rw [← List.length_map (f := Fam.id), List.take_length]]
      have next : pvv prog (binOp .add 3 (.int .i64 (e : Int)) (.int .i64 1)) w fun t_65 w => again2 [t_65] w := by
        rw [o_add, i64_of (by omega) (by omega)]
        exact hag2 (20 - (e + 1)) _ _ (by omega) ⟨e + 1, rfl, rfl, by omega, by
          have h := h.perm (show _ = pts fb (.cells (fcells (findF s e).1).toArray 35 (0, 0)) * (sI p2 s b2 c2 (sI p (dropAll s qs) b c (osl 3 1 (.slice ea qs.length ec) qs.length ((qs.map Fam.id).map iv) * (rI q rs vf vt H)))) by unfold sI rI; ac_rfl)
          exact h.drop⟩
      try simp only [↓o_nil, ↓o_field, ↓o_add, ↓o_sub, ↓o_mul, ↓o_lss, ↓o_leq, ↓o_gtr, ↓o_geq, ↓o_not, ↓o_pick, ↓o_eqInt, ↓o_neInt, ↓o_eqBool, ↓o_neBool, ↓o_eqPtr, ↓o_nePtr, ↓o_eqPtr', ↓o_eqSl, ↓o_neSl, ↓o_eqStr, ↓o_neStr, ↓o_len, ↓o_lenS, ↓o_min, ↓o_max, ↓o_extract, ↓o_convInt, ↓cd_true, ↓cd_false, ↓gate_tt, ↓gate_ff, ↓gate_tf, ↓gate_ft, ↓gate_undef, ↓o_bind, ↓stay_v, ↓pop_cons, ↓fin_nil, Option.isNone_none, Option.isNone_some, Bool.not_true, Bool.not_false, Nat.zero_add, decide_true, decide_false, if_true, if_false, Bool.false_eq_true, ↓reduceIte] at next
      obtain ⟨fd1, fd2⟩ := find_drop ok qs (e : Int) hq
      by_cases h0 : (findF s e).2 = 0
      · have fd := fd1 h0
        by_cases hg : (e : Int) ∈ qs.map Fam.id
        · rw [if_pos hg] at fd
          rw [fd]
          have hcl : (findF s e).1.cl = cl := by
            obtain ⟨f, hf, ef⟩ := List.mem_map.1 hg
            obtain ⟨hm, hid⟩ := findF_ok h0
            have : (findF s e).1 = f := rise_inj ok.fr hm (hq f hf) (by rw [hid, ef])
            rw [this]
            exact hqc f hf
          simp only [decide_eq_true h0, decide_eq_true hg, show decide ((12 : Int) = 0) = false from rfl, show ((false : Bool) == true) = false from rfl, ↓o_nil, ↓o_field, ↓o_add, ↓o_sub, ↓o_mul, ↓o_lss, ↓o_leq, ↓o_gtr, ↓o_geq, ↓o_not, ↓o_pick, ↓o_eqInt, ↓o_neInt, ↓o_eqBool, ↓o_neBool, ↓o_eqPtr, ↓o_nePtr, ↓o_eqPtr', ↓o_eqSl, ↓o_neSl, ↓o_eqStr, ↓o_neStr, ↓o_len, ↓o_lenS, ↓o_min, ↓o_max, ↓o_extract, ↓o_convInt, ↓cd_true, ↓cd_false, ↓gate_tt, ↓gate_ff, ↓gate_tf, ↓gate_ft, ↓gate_undef, ↓o_bind, ↓stay_v, ↓pop_cons, ↓fin_nil, Option.isNone_none, Option.isNone_some, Bool.not_true, Bool.not_false, Nat.zero_add, decide_true, decide_false, if_true, if_false, Bool.false_eq_true, ↓reduceIte]
          refine ld_in (b := fb) (v := tv (findF s e).1.cl) h rfl ?_
          rw [hcl]
          try simp only [↓o_nil, ↓o_field, ↓o_add, ↓o_sub, ↓o_mul, ↓o_lss, ↓o_leq, ↓o_gtr, ↓o_geq, ↓o_not, ↓o_pick, ↓o_eqInt, ↓o_neInt, ↓o_eqBool, ↓o_neBool, ↓o_eqPtr, ↓o_nePtr, ↓o_eqPtr', ↓o_eqSl, ↓o_neSl, ↓o_eqStr, ↓o_neStr, ↓o_len, ↓o_lenS, ↓o_min, ↓o_max, ↓o_extract, ↓o_convInt, ↓cd_true, ↓cd_false, ↓gate_tt, ↓gate_ff, ↓gate_tf, ↓gate_ft, ↓gate_undef, ↓o_bind, ↓stay_v, ↓pop_cons, ↓fin_nil, Option.isNone_none, Option.isNone_some, Bool.not_true, Bool.not_false, Nat.zero_add, decide_true, decide_false, if_true, if_false, Bool.false_eq_true, ↓reduceIte]
          rw [o_neT, show (!decide (cl = cl)) = false by simp]
          try simp only [↓o_nil, ↓o_field, ↓o_add, ↓o_sub, ↓o_mul, ↓o_lss, ↓o_leq, ↓o_gtr, ↓o_geq, ↓o_not, ↓o_pick, ↓o_eqInt, ↓o_neInt, ↓o_eqBool, ↓o_neBool, ↓o_eqPtr, ↓o_nePtr, ↓o_eqPtr', ↓o_eqSl, ↓o_neSl, ↓o_eqStr, ↓o_neStr, ↓o_len, ↓o_lenS, ↓o_min, ↓o_max, ↓o_extract, ↓o_convInt, ↓cd_true, ↓cd_false, ↓gate_tt, ↓gate_ff, ↓gate_tf, ↓gate_ft, ↓gate_undef, ↓o_bind, ↓stay_v, ↓pop_cons, ↓fin_nil, Option.isNone_none, Option.isNone_some, Bool.not_true, Bool.not_false, Nat.zero_add, decide_true, decide_false, if_true, if_false, Bool.false_eq_true, ↓reduceIte]
          exact next
        · rw [if_neg hg] at fd
          rw [fd]
          simp only [decide_eq_true h0, decide_eq_false hg, show decide ((0 : Int) = 0) = true from rfl, show ((true : Bool) == false) = false from rfl, ↓o_nil, ↓o_field, ↓o_add, ↓o_sub, ↓o_mul, ↓o_lss, ↓o_leq, ↓o_gtr, ↓o_geq, ↓o_not, ↓o_pick, ↓o_eqInt, ↓o_neInt, ↓o_eqBool, ↓o_neBool, ↓o_eqPtr, ↓o_nePtr, ↓o_eqPtr', ↓o_eqSl, ↓o_neSl, ↓o_eqStr, ↓o_neStr, ↓o_len, ↓o_lenS, ↓o_min, ↓o_max, ↓o_extract, ↓o_convInt, ↓cd_true, ↓cd_false, ↓gate_tt, ↓gate_ff, ↓gate_tf, ↓gate_ft, ↓gate_undef, ↓o_bind, ↓stay_v, ↓pop_cons, ↓fin_nil, Option.isNone_none, Option.isNone_some, Bool.not_true, Bool.not_false, Nat.zero_add, decide_true, decide_false, if_true, if_false, Bool.false_eq_true, ↓reduceIte]
          exact next
      · obtain ⟨fd, hg⟩ := fd2 h0
        rw [fd]
        simp only [decide_eq_false h0, decide_eq_false hg, t0, ↓o_nil, ↓o_field, ↓o_add, ↓o_sub, ↓o_mul, ↓o_lss, ↓o_leq, ↓o_gtr, ↓o_geq, ↓o_not, ↓o_pick, ↓o_eqInt, ↓o_neInt, ↓o_eqBool, ↓o_neBool, ↓o_eqPtr, ↓o_nePtr, ↓o_eqPtr', ↓o_eqSl, ↓o_neSl, ↓o_eqStr, ↓o_neStr, ↓o_len, ↓o_lenS, ↓o_min, ↓o_max, ↓o_extract, ↓o_convInt, ↓cd_true, ↓cd_false, ↓gate_tt, ↓gate_ff, ↓gate_tf, ↓gate_ft, ↓gate_undef, ↓o_bind, ↓stay_v, ↓pop_cons, ↓fin_nil, Option.isNone_none, Option.isNone_some, Bool.not_true, Bool.not_false, Nat.zero_add, decide_true, decide_false, if_true, if_false, Bool.false_eq_true, ↓reduceIte]
        exact next
end Go.Proofs.YtbcimkjgpplcpaaGreatDoor.Apart
