/-
  slices.Insert, Clone, Replace at the entries of a node.
-/
import Derived.Test.YtfaeklinhchidaaGreatTreA
import Derived.Test.YtfaeklinhchidaaGreatIns
import Derived.Test.YtfaeklinhchidaaGreatPI
import Derived.Test.YtfaeklinhchidaaGreatPB
import Derived.Test.YtfaeklinhchidaaGreatStrs
import Derived.Test.YtfaeklinhchidaaGreatTrpF
set_option linter.all false
set_option maxRecDepth 100000
namespace Go.Proofs.YtfaeklinhchidaaGreat
open Go Hold
variable {E : World0} {w : World} {H R X : HP} {K : Value → World → Prop}
theorem o_capE {P : Program} {t ty e : TypeId} {cs : Array Bool} {a : Option Addr} {l c : Nat} [i : Ul P t (.slice e)] : pv P (oBi .cap #[t] ty cs #[.slice a l c]) w K = K (.int .i64 c) w := pv_eq fun w => by
  simp [oBi, builtin, Builtin.cap_, run_underlying' i.ul, goInt]
theorem ov3 {X Y Z N : List Value} {o n : Nat} (ho : o = X.length) (hn : N.length = Y.length) (h2 : n = N.length) : (X ++ Y ++ Z).take o ++ N ++ (X ++ Y ++ Z).drop (o + n) = X ++ N ++ Z := by
  subst ho; subst h2
  rw [hn, List.append_assoc X Y Z, List.take_left, ← List.length_append, ← List.append_assoc, List.drop_left]
theorem copy_mid (h : sat E w H) {ty : Nat} {cs : Array Bool} {b o dLen dCap : Nat} {X Y Z : List Value} [hb : Own H b (.cells (X ++ Y ++ Z).toArray 67 (0, 0)) R]
    {a2 : Option Addr} {sLen sCap n : Nat} (N : List Value) (hn : min sLen dLen = n) (hl : N.length = n * 3) (hY : Y.length = n * 3) (ho : o = X.length) (hw : win (hp w) a2 N) (h1 : ∀ x ∈ N, x.oneCell' = true)
    (k : ∀ w', sat E w' (pts b (.cells (X ++ N ++ Z).toArray 67 (0, 0)) * R) → K (.int .i64 n) w') :
    ef prog (oBi .copy #[61, 61] ty cs #[.slice (some ⟨b, o, none⟩) dLen dCap, .slice a2 sLen sCap]) w K := by
  refine copy_at h N hn hl hw (by simp only [List.length_append]; omega) h1 fun w h => k w ?_
  rwa [ov3 ho (by omega) (by omega)] at h
/-- Rows of entries that are owned, opened. -/
theorem row_open {n : Nat} {v : Value} {xs : List Value} (h : sat E w (osl 67 3 v n xs * R)) (hn : 0 < n) :
    ∃ b c sp, v = .slice (some ⟨b, 0, none⟩) n c ∧ xs.length = n * 3 ∧ (xs ++ sp).length = c * 3 ∧ n ≤ c ∧ c ≤ 9223372036854775807 ∧ sat E w (pts b (.cells (xs ++ sp).toArray 67 (0, 0)) * R) := by
  rcases sat_osl.1 h with ⟨_, e, _⟩ | hh
  · omega
  · exact hh
theorem row_shut {b c n : Nat} {xs sp : List Value} (h : sat E w (pts b (.cells (xs ++ sp).toArray 67 (0, 0)) * R)) (h1 : xs.length = n * 3) (h2 : (xs ++ sp).length = c * 3) (h3 : n ≤ c) (h4 : c ≤ 9223372036854775807) :
    sat E w (osl 67 3 (.slice (some ⟨b, 0, none⟩) n c) n xs * R) := sat_osl.2 (.inr ⟨b, c, sp, rfl, h1, h2, h3, h4, h⟩)
theorem win_pts {b o e : Nat} {cs xs : List Value} (h : sat E w (pts b (.cells cs.toArray e (0, 0)) * R)) (hx : ∀ j v, xs[j]? = some v → cs[o + j]? = some v) : win (hp w) (some ⟨b, o, none⟩) xs :=
  .inr ⟨b, o, _, e, (0, 0), rfl, h.pts_get, fun j v hj => by simpa using hx j v hj⟩
theorem mid_at {X Y Z : List Value} {o : Nat} (ho : o = X.length) : ∀ j v, Y[j]? = some v → (X ++ Y ++ Z)[o + j]? = some v := by
  intro j v hj
  subst ho
  have hlt := (List.getElem?_eq_some_iff.1 hj).1
  rw [List.append_assoc, List.getElem?_append_right (by omega), Nat.add_sub_cancel_left, List.getElem?_append_left hlt]
  exact hj
theorem apart_no {b1 b2 o1 o2 l1 l2 c1 c2 t1 t2 : Nat} {xs ys : List Value} (h : sat E w (pts b1 (.cells xs.toArray t1 (0, 0)) * (pts b2 (.cells ys.toArray t2 (0, 0)) * R))) (hy0 : ys ≠ []) (k : K (.bool false) w) :
    ef prog (oCall (.func (.func 57) #[] #[]) #[.slice (some ⟨b1, o1, none⟩) l1 c1, .slice (some ⟨b2, o2, none⟩) l2 c2]) w K := by
  have hr := apart_run (P := prog) (tS := 61) (tR := 4) (o1 := o1) (o2 := o2) (l1 := l1) (l2 := l2) (c1 := c1) (c2 := c2) h hy0
  have h1 : (oCall (.func (.func 57) #[] #[]) #[.slice (some ⟨b1, o1, none⟩) l1 c1, .slice (some ⟨b2, o2, none⟩) l2 c2]).run prog w = (vN (Extern.SlicesOverlaps.overlaps #[61, 61] #[4] #[.slice (some ⟨b1, o1, none⟩) l1 c1, .slice (some ⟨b2, o2, none⟩) l2 c2])).run prog w := by kernel_rfl
  refine ef_of (v := .bool false) ?_ k
  rw [h1]
  exact vN_run hr
theorem InsertE_spec {sv vv : Value} {n m i : Nat} {xs news : List Value} (h : sat E w (osl 67 3 sv n xs * (osl 67 3 vv m news * R))) (hi : i ≤ n) (hm : 0 < m) (hb : n + m ≤ 10000) (h1 : ∀ x ∈ xs, x.oneCell' = true) (h2 : ∀ x ∈ news, x.oneCell' = true)
    (k : ∀ v' w', sat E w' (osl 67 3 v' (n + m) (xs.take (i * 3) ++ news ++ xs.drop (i * 3)) * R) → K v' w') :
    Calls prog 22 #[sv, .int .i64 i, vv] w (Ret K) := by
  obtain ⟨sa, cs, rfl, hcs, hxl, hsn⟩ := osl_shape h
  have hq := h.perm (star_left_comm _ _ _)
  obtain ⟨vb, vc, vsp, rfl, hvl, hvt, hvc, hvm, hv⟩ := row_open hq hm
  have hvw : ∀ {w : World} {Y : HP}, sat E w (pts vb (.cells (news ++ vsp).toArray 67 (0, 0)) * Y) → win (hp w) (some ⟨vb, 0, none⟩) news := fun h => win_pts h fun j v hj => by
    have hlt := (List.getElem?_eq_some_iff.1 hj).1
    rw [Nat.zero_add, List.getElem?_append_left hlt]; exact hj
  clear h hq
  have h := hv.perm (star_left_comm _ _ _)
  clear hv
  refine c22 ?_
  unfold B22
  rw [o_slice_l (by omega) (by omega)]
  have e0 : ¬ (m : Int) = 0 := by omega
  simp only [e0, ↓opsA, opsB, if_true, if_false, ↓reduceIte]
  by_cases hin : i = n
  · subst hin
    simp only [decide_true, ↓opsA, opsB, if_true, if_false, ↓reduceIte]
    have hw0 := hvw (h.perm (star_left_comm _ _ _))
    refine append_sl h news hvl hw0 h2 (by omega) (by omega) fun v' w h => ?_
    refine k v' w ?_
    rw [List.take_of_length_le (by omega), List.drop_eq_nil_of_le (by omega), List.append_nil]
    exact (h.perm (star_left_comm _ _ _)).drop
  · have hin2 : ¬ (i : Int) = (n : Int) := by omega
    simp only [hin2, ↓opsA, opsB, if_true, if_false, ↓reduceIte]
    obtain ⟨b, c, sp, hsv, hxl, htot, hnc, hcm, hh⟩ := row_open h (by omega)
    cases hsv
    clear h
    have h := hh
    clear hh
    rw [o_capE]
    rw [i64_of (n := (n : Int) + m) (by omega) (by omega)]
    try simp only [↓opsA, opsB, if_true, if_false, ↓reduceIte]
    have hX : xs = xs.take (i * 3) ++ xs.drop (i * 3) := (List.take_append_drop _ _).symm
    have hX1 : (xs.take (i * 3)).length = i * 3 := by rw [List.length_take]; omega
    have hX2 : (xs.drop (i * 3)).length = (n - i) * 3 := by rw [List.length_drop]; omega
    have h11 : ∀ x ∈ xs.take (i * 3), x.oneCell' = true := fun x hx => h1 x (List.mem_of_mem_take hx)
    have h12 : ∀ x ∈ xs.drop (i * 3), x.oneCell' = true := fun x hx => h1 x (List.mem_of_mem_drop hx)
    generalize hq1 : xs.take (i * 3) = X1 at *
    generalize hq2 : xs.drop (i * 3) = X2 at *
    subst hX
    refine cd_dec (fun hgt => ?_) (fun hle => ?_)
    · have hgt : cs < n + m := by omega
      rw [o_slice_h (by omega) (by omega), cutA_no]
      try simp only [↓opsA, opsB, if_true, if_false, ↓reduceIte]
      rw [i64_of (n := (n : Int) + m - i) (by omega) (by omega), show (n : Int) + m - i = ((n + m - i : Nat) : Int) by omega]
      simp only [Int.toNat_natCast]
      have hw1 : win (hp w) (some ⟨b, 0, none⟩) X1 := win_pts h fun j v hj => by
        have hlt := (List.getElem?_eq_some_iff.1 hj).1
        rw [Nat.zero_add, List.append_assoc, List.getElem?_append_left hlt]; exact hj
      refine append_zsN h (by omega) hw1 (by omega) (by omega) (by omega) (by omega) (by omega) fun zs v' w hzl h => ?_
      rw [show i + (n + m - i) = n + m by omega] at h
      obtain ⟨b', c', sp', rfl, hal, hat, hac, ham, h⟩ := row_open h (by omega)
      have hZ : zs = zs.take (m * 3) ++ zs.drop (m * 3) := (List.take_append_drop _ _).symm
      have hZ1 : (zs.take (m * 3)).length = m * 3 := by rw [List.length_take]; omega
      have hZ2 : (zs.drop (m * 3)).length = (n - i) * 3 := by rw [List.length_drop]; omega
      generalize zs.take (m * 3) = Z1 at *
      generalize zs.drop (m * 3) = Z2 at *
      subst hZ
      have h : sat E w (pts b' (.cells (X1 ++ Z1 ++ (Z2 ++ sp')).toArray 67 (0, 0)) * (pts b (.cells (X1 ++ X2 ++ sp).toArray 67 (0, 0)) * (pts vb (.cells (news ++ vsp).toArray 67 (0, 0)) * R))) := by
        rw [show X1 ++ Z1 ++ (Z2 ++ sp') = X1 ++ (Z1 ++ Z2) ++ sp' by simp]; exact h
      rw [o_slice_l (by omega) (by omega), cutA_at, if_neg (by omega)]
      simp only [Int.toNat_natCast, Nat.zero_add]
      refine copy_mid h news (n := m) (by omega) hvl hZ1 (by omega) (hvw (h.perm (show _ = pts vb (.cells (news ++ vsp).toArray 67 (0, 0)) * (pts b' (.cells (X1 ++ Z1 ++ (Z2 ++ sp')).toArray 67 (0, 0)) * (pts b (.cells (X1 ++ X2 ++ sp).toArray 67 (0, 0)) * R)) by ac_rfl))) h2 fun w h => ?_
      refine dr_sl h fun w h _ => ?_
      try simp only [↓opsA, opsB, if_true, if_false, ↓reduceIte]
      rw [i64_of (n := (i : Int) + m) (by omega) (by omega), show (i : Int) + m = ((i + m : Nat) : Int) by omega, o_slice_l (by omega) (by omega), cutA_at, if_neg (by omega)]
      rw [o_slice_l (by omega) (by omega), cutA_at, if_neg (by omega)]
      simp only [Int.toNat_natCast, Nat.zero_add]
      have h : sat E w (pts b' (.cells ((X1 ++ news) ++ Z2 ++ sp').toArray 67 (0, 0)) * (pts b (.cells (X1 ++ X2 ++ sp).toArray 67 (0, 0)) * (pts vb (.cells (news ++ vsp).toArray 67 (0, 0)) * R))) := by
        rw [show (X1 ++ news) ++ Z2 ++ sp' = X1 ++ news ++ (Z2 ++ sp') by simp]; exact h
      refine copy_mid h X2 (n := n - i) (by omega) hX2 hZ2 (by rw [List.length_append, hX1, hvl]; omega) (win_pts h.drop (mid_at (by omega))) h12 fun w h => ?_
      refine k _ w ?_
      have hlen : (X1 ++ news ++ X2).length = (n + m) * 3 := by simp only [List.length_append]; omega
      have h := row_shut h hlen (by simp only [List.length_append] at hat ⊢; omega) hac ham
      exact (h.perm (show _ = pts b (.cells (X1 ++ X2 ++ sp).toArray 67 (0, 0)) * (pts vb (.cells (news ++ vsp).toArray 67 (0, 0)) * (osl 67 3 (.slice (some ⟨b', 0, none⟩) (n + m) c') (n + m) (X1 ++ news ++ X2) * R)) by ac_rfl)).drop.drop
    · have hle : n + m ≤ cs := by omega
      rw [show (n : Int) + m = ((n + m : Nat) : Int) by omega, o_slice_h (by omega) (by omega), cutA_no]
      try simp only [↓opsA, opsB, if_true, if_false, ↓reduceIte]
      rw [i64_of (n := (i : Int) + m) (by omega) (by omega), show (i : Int) + m = ((i + m : Nat) : Int) by omega]
      simp only [Int.toNat_natCast]
      rw [o_slice_l (by omega) (by omega), cutA_at, if_neg (by omega)]
      simp only [Int.toNat_natCast, Nat.zero_add]
      have hnv : news ++ vsp ≠ [] := fun e => by have := congrArg List.length e; simp only [List.length_append, List.length_nil] at this; omega
      have hnx : X1 ++ X2 ++ sp ≠ [] := fun e => by have := congrArg List.length e; simp only [List.length_append, List.length_nil] at this; omega
      have h := h.perm (star_left_comm _ _ _)
      refine apart_no h hnx ?_
      have h := h.perm (star_left_comm _ _ _)
      simp only [↓opsA, opsB, if_true, if_false, ↓reduceIte]
      refine dr_sl h fun w h _ => ?_
      try simp only [↓opsA, opsB, if_true, if_false, ↓reduceIte]
      rw [o_slice_l (by omega) (by omega), cutA_at, if_neg (by omega), o_slice_l (by omega) (by omega), cutA_at, if_neg (by omega)]
      simp only [Int.toNat_natCast, Nat.zero_add]
      have hsp : (n + m) * 3 ≤ (X1 ++ X2 ++ sp).length := by rw [htot]; exact Nat.mul_le_mul_right _ hle
      have hS : sp = sp.take (m * 3) ++ sp.drop (m * 3) := (List.take_append_drop _ _).symm
      have hS1 : (sp.take (m * 3)).length = m * 3 := by rw [List.length_take]; simp only [List.length_append] at hsp; omega
      generalize sp.take (m * 3) = S1 at *
      generalize sp.drop (m * 3) = S2 at *
      subst hS
      have hW : X2 ++ S1 = (X2 ++ S1).take (m * 3) ++ (X2 ++ S1).drop (m * 3) := (List.take_append_drop _ _).symm
      have hW1 : ((X2 ++ S1).take (m * 3)).length = m * 3 := by rw [List.length_take, List.length_append]; omega
      have hW2 : ((X2 ++ S1).drop (m * 3)).length = (n - i) * 3 := by rw [List.length_drop, List.length_append]; omega
      generalize (X2 ++ S1).take (m * 3) = W1 at *
      generalize (X2 ++ S1).drop (m * 3) = W2 at *
      have hc1 : X1 ++ X2 ++ (S1 ++ S2) = (X1 ++ W1) ++ W2 ++ S2 := by
        rw [show X1 ++ X2 ++ (S1 ++ S2) = X1 ++ (X2 ++ S1) ++ S2 by simp, hW]; simp
      have hw2 := win_pts h (mid_at (X := X1) (Y := X2) (Z := S1 ++ S2) (o := i * 3) (by omega))
      have h : sat E w (pts b (.cells ((X1 ++ W1) ++ W2 ++ S2).toArray 67 (0, 0)) * (pts vb (.cells (news ++ vsp).toArray 67 (0, 0)) * R)) := by rw [← hc1]; exact h
      refine copy_mid h X2 (n := n - i) (by omega) hX2 hW2 (by rw [List.length_append]; omega) hw2 h12 fun w h => ?_
      rw [o_slice_l (by omega) (by omega), cutA_at, if_neg (by omega)]
      simp only [Int.toNat_natCast, Nat.zero_add]
      have h : sat E w (pts b (.cells (X1 ++ W1 ++ (X2 ++ S2)).toArray 67 (0, 0)) * (pts vb (.cells (news ++ vsp).toArray 67 (0, 0)) * R)) := by
        rw [show X1 ++ W1 ++ (X2 ++ S2) = X1 ++ W1 ++ X2 ++ S2 by simp]; exact h
      refine copy_mid h news (n := m) (by omega) hvl hW1 (by omega) (hvw (h.perm (star_left_comm _ _ _))) h2 fun w h => ?_
      refine k _ w ?_
      have hlen : (X1 ++ news ++ X2).length = (n + m) * 3 := by simp only [List.length_append]; omega
      have h : sat E w (pts b (.cells ((X1 ++ news ++ X2) ++ S2).toArray 67 (0, 0)) * (pts vb (.cells (news ++ vsp).toArray 67 (0, 0)) * R)) := by
        rw [show (X1 ++ news ++ X2) ++ S2 = X1 ++ news ++ (X2 ++ S2) by simp]; exact h
      have h := row_shut h hlen (by simp only [List.length_append] at htot ⊢; omega) hle hcm
      exact (h.perm (star_left_comm _ _ _)).drop
end Go.Proofs.YtfaeklinhchidaaGreat

/-
  slices.Clone, Replace at the entries of a node.
-/
set_option linter.all false
set_option maxRecDepth 100000
namespace Go.Proofs.YtfaeklinhchidaaGreat
open Go Hold
variable {E : World0} {w : World} {H R X : HP} {K : Value → World → Prop}
theorem CloneE_spec {v : Value} {n : Nat} {xs : List Value} (h : sat E w H) (hv : Rds H v n xs) (hx : xs.length = n * 3) (hn : n ≤ 10000) (h1 : ∀ x ∈ xs, x.oneCell' = true) (k : ∀ v' w', sat E w' (osl 67 3 v' n xs * H) → K v' w') :
    Calls prog 84 #[v] w (Ret K) := by
  obtain ⟨a, c, rfl, hc, hv, hnil⟩ := hv.shape h
  refine c84 ?_
  unfold B84
  have hgo : ∀ {w : World}, sat E w H → (efv prog (Instr.buildSlice 61 0 #[]) w fun t_1 w => ef prog (oBi .append #[61, 61] 61 #[false, false] #[t_1, .slice a n c]) w fun t_2 w => K t_2 w) := fun {w} h => by
    refine buildSlice_sl (e := 67) (n := 0) (cs := #[]) h (fun w => by kernel_rfl) fun b w h => ?_
    have h : sat E w (osl 67 3 (.slice (some ⟨b, 0, none⟩) 0 0) 0 [] * H) := osl_of (xs := []) h rfl (by omega)
    refine append_sl h xs hx (hv.win h.drop) h1 (by omega) (by omega) fun v' w h => ?_
    rw [Nat.zero_add, List.nil_append] at h
    exact k v' w h
  rcases a with _ | a
  · have hx0 := hnil rfl
    subst hx0
    have hn0 : n = 0 := by simp at hx; omega
    subst hn0
    have hq : (pvv prog (oEq .eql 61 (.tmp 3) (.const (.slice none 0 0)) (.slice none 0 c) (.slice none 0 0)) w fun t_0 w => cd t_0 (K (.slice none 0 0) w) (efv prog (Instr.buildSlice 61 0 #[]) w fun t_1 w => ef prog (oBi .append #[61, 61] 61 #[false, false] #[t_1, .slice none 0 c]) w fun t_2 w => K t_2 w)) := by
      rw [o_eqSl, Option.isNone_none, cd_true]
      exact k _ w (osl_nil h 67 3)
    exact hq
  · rw [o_eqSl, Option.isNone_some, cd_false]
    exact hgo h
theorem ReplaceE_spec {sv vv : Value} {n m i : Nat} {xs news : List Value} (h : sat E w (osl 67 3 sv n xs * (osl 67 3 vv m news * R))) (hi : i < n) (hm : 0 < m) (hb : n + m ≤ 10000) (h1 : ∀ x ∈ xs, x.oneCell' = true) (h2 : ∀ x ∈ news, x.oneCell' = true)
    (k : ∀ v' w', sat E w' (osl 67 3 v' (n - 1 + m) (xs.take (i * 3) ++ news ++ xs.drop ((i + 1) * 3)) * R) → K v' w') :
    Calls prog 83 #[sv, .int .i64 i, .int .i64 ((i : Int) + 1), vv] w (Ret K) := by
  have hq := h.perm (star_left_comm _ _ _)
  obtain ⟨vb, vc, vsp, rfl, hvl, hvt, hvc, hvm, hv⟩ := row_open hq hm
  have hvw : ∀ {w : World} {Y : HP}, sat E w (pts vb (.cells (news ++ vsp).toArray 67 (0, 0)) * Y) → win (hp w) (some ⟨vb, 0, none⟩) news := fun h => win_pts h fun j v hj => by
    have hlt := (List.getElem?_eq_some_iff.1 hj).1
    rw [Nat.zero_add, List.getElem?_append_left hlt]; exact hj
  clear h hq
  have hh := hv.perm (star_left_comm _ _ _)
  clear hv
  obtain ⟨b, c, sp, rfl, hxl, htot, hnc, hcm, h⟩ := row_open hh (by omega)
  clear hh
  have hX : xs = xs.take (i * 3) ++ ((xs.drop (i * 3)).take 3 ++ xs.drop ((i + 1) * 3)) := by
    have e1 : xs.drop ((i + 1) * 3) = (xs.drop (i * 3)).drop 3 := by rw [List.drop_drop]; congr 1; omega
    rw [e1, List.take_append_drop, List.take_append_drop]
  have hX1 : (xs.take (i * 3)).length = i * 3 := by rw [List.length_take]; omega
  have hXY : ((xs.drop (i * 3)).take 3).length = 3 := by rw [List.length_take, List.length_drop]; omega
  have hX2 : (xs.drop ((i + 1) * 3)).length = (n - (i + 1)) * 3 := by rw [List.length_drop]; omega
  have h12 : ∀ x ∈ xs.drop ((i + 1) * 3), x.oneCell' = true := fun x hx => h1 x (List.mem_of_mem_drop hx)
  have h11 : ∀ x ∈ xs.take (i * 3), x.oneCell' = true := fun x hx => h1 x (List.mem_of_mem_take hx)
  generalize xs.take (i * 3) = X1 at *
  generalize (xs.drop (i * 3)).take 3 = Y at *
  generalize xs.drop ((i + 1) * 3) = X2 at *
  subst hX
  refine c83 ?_
  unfold B83
  have ej : (i : Int) + 1 = ((i + 1 : Nat) : Int) := by omega
  rw [ej]
  rw [o_slice_lh (by omega) (by omega) (by omega)]
  have e0 : ¬ (i : Int) = ((i + 1 : Nat) : Int) := by omega
  simp only [e0, ↓opsA, opsB, if_true, if_false, ↓reduceIte]
  have hw1 : ∀ {w : World} {Z : List Value} {R' : HP}, sat E w (pts b (.cells (X1 ++ Z).toArray 67 (0, 0)) * R') → win (hp w) (some ⟨b, 0, none⟩) X1 := fun h => win_pts h fun j v hj => by
    have hlt := (List.getElem?_eq_some_iff.1 hj).1
    rw [Nat.zero_add, List.getElem?_append_left hlt]; exact hj
  by_cases hin : i + 1 = n
  · have hin2 : ((i + 1 : Nat) : Int) = (n : Int) := by omega
    simp only [hin2, decide_true, ↓opsA, opsB, if_true, if_false, ↓reduceIte]
    rw [o_slice_h (by omega) (by omega), cutA_no]
    simp only [Int.toNat_natCast]
    have h3 : sat E w (pts b (.cells (X1 ++ (Y ++ X2 ++ sp)).toArray 67 (0, 0)) * (pts vb (.cells (news ++ vsp).toArray 67 (0, 0)) * R)) := by
      rw [show X1 ++ (Y ++ X2 ++ sp) = X1 ++ (Y ++ X2) ++ sp by simp]; exact h
    have hwv := hvw (h.perm (star_left_comm _ _ _))
    have h := row_shut (n := i) h3 hX1 (by simp only [List.length_append] at htot ⊢; omega) (by omega) hcm
    refine append_sl h news hvl hwv h2 (by omega) (by omega) fun v' w h => ?_
    obtain ⟨a', c', rfl, _, _, _⟩ := osl_shape h
    simp only [↓opsA, opsB, if_true, if_false, ↓reduceIte]
    unfold jn
    have hlt : ¬ ((i + m : Nat) : Int) < (n : Int) := by omega
    simp only [hlt, ↓opsA, opsB, if_true, if_false, ↓reduceIte]
    refine k _ w ?_
    have hx2 : X2 = [] := List.eq_nil_of_length_eq_zero (by omega)
    rw [hx2, List.append_nil, show n - 1 + m = i + m by omega]
    exact (h.perm (star_left_comm _ _ _)).drop
  · have hin2 : ¬ ((i + 1 : Nat) : Int) = (n : Int) := by omega
    simp only [hin2, ↓opsA, opsB, if_true, if_false, ↓reduceIte]
    refine dr_sl h fun w h _ => ?_
    rw [o_slice_h (by omega) (by omega), cutA_no]
    try simp only [↓opsA, opsB, if_true, if_false, ↓reduceIte]
    rw [i64_of (n := ((i : Int).toNat : Int) + m) (by omega) (by omega), o_slice_l (by omega) (by omega), cutA_at, if_neg (by omega)]
    simp only [Int.toNat_natCast, Nat.zero_add]
    try simp only [↓opsA, opsB, if_true, if_false, ↓reduceIte]
    rw [show (i : Int) + m + ((n - (i + 1) : Nat) : Int) = ((n - 1 + m : Nat) : Int) by omega, i64_of (n := ((n - 1 + m : Nat) : Int)) (by omega) (by omega), o_capE]
    try simp only [↓opsA, opsB, if_true, if_false, ↓reduceIte]
    refine cd_dec (fun hgt => ?_) (fun hle => ?_)
    · have hgt : c < n - 1 + m := by omega
      rw [o_slice_h (by omega) (by omega), cutA_no]
      try simp only [↓opsA, opsB, if_true, if_false, ↓reduceIte]
      rw [show ((n - 1 + m : Nat) : Int) - i = ((n - 1 + m - i : Nat) : Int) by omega, i64_of (n := ((n - 1 + m - i : Nat) : Int)) (by omega) (by omega)]
      simp only [Int.toNat_natCast]
      have h3 : sat E w (pts b (.cells (X1 ++ (Y ++ X2 ++ sp)).toArray 67 (0, 0)) * (pts vb (.cells (news ++ vsp).toArray 67 (0, 0)) * R)) := by
        rw [show X1 ++ (Y ++ X2 ++ sp) = X1 ++ (Y ++ X2) ++ sp by simp]; exact h
      refine append_zsN h (by omega) (hw1 h3) (by omega) (by omega) (by omega) (by omega) (by omega) fun zs v' w hzl h => ?_
      rw [show i + (n - 1 + m - i) = n - 1 + m by omega] at h
      obtain ⟨b', c', sp', rfl, hal, hat, hac, ham, hh⟩ := row_open h (by omega)
      clear h
      have hZ : zs = zs.take (m * 3) ++ zs.drop (m * 3) := (List.take_append_drop _ _).symm
      have hZ1 : (zs.take (m * 3)).length = m * 3 := by rw [List.length_take]; omega
      have hZ2 : (zs.drop (m * 3)).length = (n - (i + 1)) * 3 := by rw [List.length_drop]; omega
      generalize zs.take (m * 3) = Z1 at *
      generalize zs.drop (m * 3) = Z2 at *
      subst hZ
      have h : sat E w (pts b' (.cells (X1 ++ Z1 ++ (Z2 ++ sp')).toArray 67 (0, 0)) * (pts b (.cells (X1 ++ (Y ++ X2) ++ sp).toArray 67 (0, 0)) * (pts vb (.cells (news ++ vsp).toArray 67 (0, 0)) * R))) := by
        rw [show X1 ++ Z1 ++ (Z2 ++ sp') = X1 ++ (Z1 ++ Z2) ++ sp' by simp]; exact hh
      clear hh
      rw [o_slice_l (by omega) (by omega), cutA_at, if_neg (by omega)]
      simp only [Int.toNat_natCast, Nat.zero_add]
      refine copy_mid h news (n := m) (by omega) hvl hZ1 (by omega) (hvw (h.perm (show _ = pts vb (.cells (news ++ vsp).toArray 67 (0, 0)) * (pts b' (.cells (X1 ++ Z1 ++ (Z2 ++ sp')).toArray 67 (0, 0)) * (pts b (.cells (X1 ++ (Y ++ X2) ++ sp).toArray 67 (0, 0)) * R)) by ac_rfl))) h2 fun w h => ?_
      refine dr_sl h fun w h _ => ?_
      try simp only [↓opsA, opsB, if_true, if_false, ↓reduceIte]
      rw [i64_of (n := (i : Int) + m) (by omega) (by omega), show (i : Int) + m = ((i + m : Nat) : Int) by omega, o_slice_l (by omega) (by omega), cutA_at, if_neg (by omega)]
      rw [o_slice_l (by omega) (by omega), cutA_at, if_neg (by omega)]
      simp only [Int.toNat_natCast, Nat.zero_add]
      have h : sat E w (pts b' (.cells ((X1 ++ news) ++ Z2 ++ sp').toArray 67 (0, 0)) * (pts b (.cells ((X1 ++ Y) ++ X2 ++ sp).toArray 67 (0, 0)) * (pts vb (.cells (news ++ vsp).toArray 67 (0, 0)) * R))) := by
        rw [show (X1 ++ news) ++ Z2 ++ sp' = X1 ++ news ++ (Z2 ++ sp') by simp, show (X1 ++ Y) ++ X2 ++ sp = X1 ++ (Y ++ X2) ++ sp by simp]; exact h
      refine copy_mid h X2 (n := n - (i + 1)) (by omega) hX2 hZ2 (by rw [List.length_append, hX1, hvl]; omega) (win_pts h.drop (mid_at (by rw [List.length_append]; omega))) h12 fun w h => ?_
      refine k _ w ?_
      have hlen : (X1 ++ news ++ X2).length = (n - 1 + m) * 3 := by simp only [List.length_append]; omega
      have h := row_shut h hlen (by simp only [List.length_append] at hat ⊢; omega) hac ham
      exact (h.perm (show _ = pts b (.cells ((X1 ++ Y) ++ X2 ++ sp).toArray 67 (0, 0)) * (pts vb (.cells (news ++ vsp).toArray 67 (0, 0)) * (osl 67 3 (.slice (some ⟨b', 0, none⟩) (n - 1 + m) c') (n - 1 + m) (X1 ++ news ++ X2) * R)) by ac_rfl)).drop.drop
    · have hle : n - 1 + m ≤ c := by omega
      rw [o_slice_h (by omega) (by omega), cutA_no]
      try simp only [↓opsA, opsB, if_true, if_false, ↓reduceIte]
      rw [i64_of (n := (i : Int) + m) (by omega) (by omega), show (i : Int) + m = ((i + m : Nat) : Int) by omega]
      simp only [Int.toNat_natCast]
      refine cd_dec (fun hone => ?_) (fun hmore => ?_)
      · have hm1 : m = 1 := by omega
        subst hm1
        have h3 : sat E w (pts b (.cells (X1 ++ Y ++ (X2 ++ sp)).toArray 67 (0, 0)) * (pts vb (.cells (news ++ vsp).toArray 67 (0, 0)) * R)) := by
          rw [show X1 ++ Y ++ (X2 ++ sp) = X1 ++ (Y ++ X2) ++ sp by simp]; exact h
        rw [o_slice_l (by omega) (by omega), cutA_at, if_neg (by omega)]
        simp only [Int.toNat_natCast, Nat.zero_add]
        refine copy_mid h3 news (n := 1) (by omega) hvl (by omega) (by omega) (hvw (h3.perm (star_left_comm _ _ _))) h2 fun w h => ?_
        refine dr_sl h fun w h _ => ?_
        try simp only [↓opsA, opsB, if_true, if_false, ↓reduceIte]
        rw [o_slice_l (by omega) (by omega), cutA_at, if_neg (by omega), o_slice_l (by omega) (by omega), cutA_at, if_neg (by omega)]
        simp only [Int.toNat_natCast, Nat.zero_add]
        have h : sat E w (pts b (.cells ((X1 ++ news) ++ X2 ++ sp).toArray 67 (0, 0)) * (pts vb (.cells (news ++ vsp).toArray 67 (0, 0)) * R)) := by
          rw [show (X1 ++ news) ++ X2 ++ sp = X1 ++ news ++ (X2 ++ sp) by simp]; exact h
        refine copy_mid h X2 (n := n - (i + 1)) (by omega) hX2 hX2 (by rw [List.length_append]; omega) (win_pts h (mid_at (by rw [List.length_append]; omega))) h12 fun w h => ?_
        rw [o_slice_l (by omega) (by omega)]
        simp only [Int.toNat_natCast]
        rw [show n - (n - 1 + 1) = 0 by omega]
        refine clear_none h ?_
        refine k _ w ?_
        have hlen : (X1 ++ news ++ X2).length = (n - 1 + 1) * 3 := by simp only [List.length_append]; omega
        have h := row_shut h hlen (by simp only [List.length_append] at htot ⊢; omega) (by omega) hcm
        exact (h.perm (star_left_comm _ _ _)).drop
      · rw [o_slice_l (by omega) (by omega), cutA_at, if_neg (by omega)]
        simp only [Int.toNat_natCast, Nat.zero_add]
        have hnv : news ++ vsp ≠ [] := fun e => by have := congrArg List.length e; simp only [List.length_append, List.length_nil] at this; omega
        refine apart_no h hnv ?_
        simp only [↓opsA, opsB, if_true, if_false, ↓reduceIte]
        refine dr_sl h fun w h _ => ?_
        try simp only [↓opsA, opsB, if_true, if_false, ↓reduceIte]
        rw [o_slice_l (by omega) (by omega), cutA_at, if_neg (by omega), o_slice_l (by omega) (by omega), cutA_at, if_neg (by omega)]
        simp only [Int.toNat_natCast, Nat.zero_add]
        have hsp : (n - 1 + m) * 3 ≤ (X1 ++ (Y ++ X2) ++ sp).length := by rw [htot]; exact Nat.mul_le_mul_right _ hle
        have hS : sp = sp.take ((m - 1) * 3) ++ sp.drop ((m - 1) * 3) := (List.take_append_drop _ _).symm
        have hS1 : (sp.take ((m - 1) * 3)).length = (m - 1) * 3 := by rw [List.length_take]; simp only [List.length_append] at hsp; omega
        generalize sp.take ((m - 1) * 3) = S1 at *
        generalize sp.drop ((m - 1) * 3) = S2 at *
        subst hS
        have hW : Y ++ (X2 ++ S1) = (Y ++ (X2 ++ S1)).take (m * 3) ++ (Y ++ (X2 ++ S1)).drop (m * 3) := (List.take_append_drop _ _).symm
        have hW1 : ((Y ++ (X2 ++ S1)).take (m * 3)).length = m * 3 := by rw [List.length_take, List.length_append, List.length_append]; omega
        have hW2 : ((Y ++ (X2 ++ S1)).drop (m * 3)).length = (n - (i + 1)) * 3 := by rw [List.length_drop, List.length_append, List.length_append]; omega
        generalize (Y ++ (X2 ++ S1)).take (m * 3) = W1 at *
        generalize (Y ++ (X2 ++ S1)).drop (m * 3) = W2 at *
        have hc1 : X1 ++ (Y ++ X2) ++ (S1 ++ S2) = (X1 ++ W1) ++ W2 ++ S2 := by
          rw [show X1 ++ (Y ++ X2) ++ (S1 ++ S2) = X1 ++ (Y ++ (X2 ++ S1)) ++ S2 by simp, hW]; simp
        have h3 : sat E w (pts b (.cells ((X1 ++ Y) ++ X2 ++ (S1 ++ S2)).toArray 67 (0, 0)) * (pts vb (.cells (news ++ vsp).toArray 67 (0, 0)) * R)) := by
          rw [show (X1 ++ Y) ++ X2 ++ (S1 ++ S2) = X1 ++ (Y ++ X2) ++ (S1 ++ S2) by simp]; exact h
        have hw2 := win_pts h3 (mid_at (X := X1 ++ Y) (Y := X2) (Z := S1 ++ S2) (o := (i + 1) * 3) (by rw [List.length_append]; omega))
        have h : sat E w (pts b (.cells ((X1 ++ W1) ++ W2 ++ S2).toArray 67 (0, 0)) * (pts vb (.cells (news ++ vsp).toArray 67 (0, 0)) * R)) := by rw [← hc1]; exact h
        refine copy_mid h X2 (n := n - (i + 1)) (by omega) hX2 hW2 (by rw [List.length_append]; omega) hw2 h12 fun w h => ?_
        rw [o_slice_l (by omega) (by omega), cutA_at, if_neg (by omega)]
        simp only [Int.toNat_natCast, Nat.zero_add]
        have h : sat E w (pts b (.cells (X1 ++ W1 ++ (X2 ++ S2)).toArray 67 (0, 0)) * (pts vb (.cells (news ++ vsp).toArray 67 (0, 0)) * R)) := by
          rw [show X1 ++ W1 ++ (X2 ++ S2) = X1 ++ W1 ++ X2 ++ S2 by simp]; exact h
        refine copy_mid h news (n := m) (by omega) hvl hW1 (by omega) (hvw (h.perm (star_left_comm _ _ _))) h2 fun w h => ?_
        refine k _ w ?_
        have hlen : (X1 ++ news ++ X2).length = (n - 1 + m) * 3 := by simp only [List.length_append]; omega
        have h : sat E w (pts b (.cells ((X1 ++ news ++ X2) ++ S2).toArray 67 (0, 0)) * (pts vb (.cells (news ++ vsp).toArray 67 (0, 0)) * R)) := by
          rw [show (X1 ++ news ++ X2) ++ S2 = X1 ++ news ++ (X2 ++ S2) by simp]; exact h
        have h := row_shut h hlen (by simp only [List.length_append] at htot ⊢; omega) hle hcm
        exact (h.perm (star_left_comm _ _ _)).drop
end Go.Proofs.YtfaeklinhchidaaGreat

/-
  slices.Delete at the entries of a node.
-/
set_option linter.all false
set_option maxRecDepth 100000
namespace Go.Proofs.YtfaeklinhchidaaGreat
open Go Hold
variable {E : World0} {w : World} {H R X : HP} {K : Value → World → Prop}
theorem o_slice3 {P : Program} {t e n m : Nat} {z : Value} [i : SliceT P t e n m z] {a : Option Addr} {l c : Nat} {k k' k2 : IntKind} {x y u : Int} (h0 : 0 ≤ x) (h1 : x ≤ y) (h2 : y ≤ u) (h3 : u ≤ c) {T : Value → World → Prop} (h : ∀ v, T v w) :
    pvv P (Instr.sliceAt t (.slice a l c) (some (.int k x)) (some (.int k' y)) (some (.int k2 u))) w T := by
  obtain ⟨x, rfl⟩ := Int.eq_ofNat_of_zero_le h0
  obtain ⟨y, rfl⟩ := Int.eq_ofNat_of_zero_le (show 0 ≤ y by omega)
  obtain ⟨u, rfl⟩ := Int.eq_ofNat_of_zero_le (show 0 ≤ u by omega)
  have h1' : x ≤ y := by omega
  have h2' : y ≤ u := by omega
  have h3' : u ≤ c := by omega
  refine pvv_of (v := .slice (cutA a u x n) (y - x) (u - x)) (fun w => ?_) (h _)
  simp [Instr.sliceAt, Instr.slice, Instr.sliceBounds, Instr.sliceBound, asIntOf, run_underlying' i.ul, run_sizeOf' i.size, h1', h2', h3', cutA]
/-- append to a row that has room. -/
theorem append_at {P : Program} (h : sat E w H) {t ty e sz m : Nat} {z : Value} [i : SliceT P t e sz m z] {cs : Array Bool} {b n cap : Nat} {xs sp : List Value} [hb : Own H b (.cells (xs ++ sp).toArray e (0, 0)) R] (hxl : xs.length = n * sz) (hcl : (xs ++ sp).length = cap * sz)
    {a : Option Addr} {k' c : Nat} (news : List Value) (hl : news.length = k' * sz) (hw : win (hp w) a news) (h1 : ∀ x ∈ news, x.oneCell' = true) (hroom : n + k' ≤ cap)
    (k : ∀ w', sat E w' (pts b (.cells (xs ++ news ++ sp.drop news.length).toArray e (0, 0)) * R) → K (.slice (some ⟨b, 0, none⟩) (n + k') cap) w') : ef P (oBi .append #[t, t] ty cs #[.slice (some ⟨b, 0, none⟩) n cap, .slice a k' c]) w K := by
  obtain ⟨y, hy, hy1, hy2, hy3⟩ := i.parts
  have hP := h.own b
  have hz := i.zs
  have hsz := i.pos
  have ef_bi : ∀ {v' w'}, (Builtin.append_ #[t, t] ty #[.slice (some ⟨b, 0, none⟩) n cap, .slice a k' c]).run P w = .ok v' w' → K v' w' → ef P (oBi .append #[t, t] ty cs #[.slice (some ⟨b, 0, none⟩) n cap, .slice a k' c]) w K := fun hr hk =>
    ef_of (by simp [oBi, builtin, hr]) hk
  by_cases hk0 : k' = 0
  · subst hk0
    have hn : news = [] := List.eq_nil_of_length_eq_zero (by simpa using hl)
    subst hn
    refine ef_bi (v' := .slice (some ⟨b, 0, none⟩) (n + 0) cap) (w' := w) ?_ (k _ ?_)
    · have hst : ∀ (ad : Addr), (storeCells ad ([] : List Value) 0).run P w = .ok () w := fun ad => rfl
      have hnc : n ≤ cap := by omega
      cases a <;> simp [Builtin.append_, run_underlying' i.ul, Go.sizeOf, typeInfo, hy, Builtin.lenOf, Builtin.firstCells, loadCells, loadCellsFrom, hnc, hst]
    · simpa using hP
  · rcases hw with rfl | ⟨b2, o2, cs2, e2, fr2, rfl, hb2, hv2⟩
    · exfalso; have h0 : k' * sz = 0 := by simpa using hl.symm
      rcases Nat.mul_eq_zero.1 h0 with h' | h' <;> omega
    · have hbl := hP.pts_get
      have hfit : n * y.size + news.length ≤ (xs ++ sp).toArray.size := by
        rw [hy2, hl, ← Nat.add_mul]; simp only [List.size_toArray]; rw [hcl]; exact Nat.mul_le_mul_right _ hroom
      have hr := run_append_room (P := P) w t ty e y i.ul hy b n cap (xs ++ sp).toArray hbl ⟨b2, o2, none⟩ k' c news (by rw [hy2]; exact hl) (fun j v hj => by rw [add_addr]; exact cell_of hb2 (hv2 j v hj)) h1 hroom hfit
      rw [setRow_putObj hbl] at hr
      refine ef_bi hr (k _ ?_)
      have e1 : ((xs ++ sp).toArray.toList.take (n * y.size) ++ news ++ (xs ++ sp).toArray.toList.drop (n * y.size + news.length)) = xs ++ news ++ sp.drop news.length := by
        rw [hy2, ← hxl]
        simp [List.take_left', List.drop_append]
      rw [e1]
      exact hP.set _
theorem DeleteE_spec {sv : Value} {n i : Nat} {xs : List Value} (h : sat E w (osl 67 3 sv n xs * R)) (hi : i < n) (hn : n ≤ 10000) (h1 : ∀ x ∈ xs, x.oneCell' = true)
    (k : ∀ a c w', sat E w' (osl 67 3 (.slice a (n - 1) c) (n - 1) (xs.take (i * 3) ++ xs.drop ((i + 1) * 3)) * R) → K (.slice a (n - 1) c) w') :
    Calls prog 32 #[sv, .int .i64 i, .int .i64 ((i : Int) + 1)] w (Ret K) := by
  obtain ⟨b, c, sp, rfl, hxl, htot, hnc, hcm, hh⟩ := row_open h (by omega)
  clear h
  have hX : xs = xs.take (i * 3) ++ ((xs.drop (i * 3)).take 3 ++ xs.drop ((i + 1) * 3)) := by
    have e1 : xs.drop ((i + 1) * 3) = (xs.drop (i * 3)).drop 3 := by rw [List.drop_drop]; congr 1; omega
    rw [e1, List.take_append_drop, List.take_append_drop]
  have hX1 : (xs.take (i * 3)).length = i * 3 := by rw [List.length_take]; omega
  have hXY : ((xs.drop (i * 3)).take 3).length = 3 := by rw [List.length_take, List.length_drop]; omega
  have hX2 : (xs.drop ((i + 1) * 3)).length = (n - (i + 1)) * 3 := by rw [List.length_drop]; omega
  have h12 : ∀ x ∈ xs.drop ((i + 1) * 3), x.oneCell' = true := fun x hx => h1 x (List.mem_of_mem_drop hx)
  generalize xs.take (i * 3) = X1 at *
  generalize (xs.drop (i * 3)).take 3 = Y at *
  generalize xs.drop ((i + 1) * 3) = X2 at *
  subst hX
  have h : sat E w (pts b (.cells (X1 ++ Y ++ X2 ++ sp).toArray 67 (0, 0)) * R) := by
    rw [show X1 ++ Y ++ X2 ++ sp = X1 ++ (Y ++ X2) ++ sp by simp]; exact hh
  clear hh
  refine c32 ?_
  unfold B32
  rw [show (i : Int) + 1 = ((i + 1 : Nat) : Int) by omega, o_len]
  refine o_slice3 (by omega) (by omega) (by omega) (by omega) fun v => ?_
  have e0 : ¬ (i : Int) = ((i + 1 : Nat) : Int) := by omega
  simp only [e0, ↓opsA, opsB, if_true, if_false, ↓reduceIte]
  refine dr_sl h fun w h _ => ?_
  rw [o_slice_h (by omega) (by omega), cutA_no, o_slice_l (by omega) (by omega), cutA_at]
  simp only [Int.toNat_natCast, Nat.zero_add]
  have hw2 : win (hp w) (some ⟨b, if c = i + 1 then 0 else (i + 1) * 3, none⟩) X2 := by
    by_cases hc : c = i + 1
    · have : X2 = [] := List.eq_nil_of_length_eq_zero (by omega)
      rw [this]
      exact win_pts h fun j v hj => by simp at hj
    · rw [if_neg hc]
      exact win_pts h (mid_at (X := X1 ++ Y) (by rw [List.length_append]; omega))
  have h : sat E w (pts b (.cells (X1 ++ (Y ++ X2 ++ sp)).toArray 67 (0, 0)) * R) := by
    rw [show X1 ++ (Y ++ X2 ++ sp) = X1 ++ Y ++ X2 ++ sp by simp]; exact h
  refine append_at h (n := i) hX1 (by rw [← htot]; simp) X2 hX2 hw2 h12 (by omega) fun w h => ?_
  rw [show i + (n - (i + 1)) = n - 1 by omega]
  have hZ : ∃ Z, (Y ++ X2 ++ sp).drop X2.length = Z ∧ Z.length = (c - (n - 1)) * 3 := ⟨_, rfl, by
    simp only [List.length_append] at htot
    rw [List.length_drop, List.length_append, List.length_append]; omega⟩
  obtain ⟨Z, hZ, hZl⟩ := hZ
  rw [hZ] at h
  rw [o_len, o_slice_lh (by omega) (by omega) (by omega), cutA_at, if_neg (by omega)]
  simp only [Int.toNat_natCast, Nat.zero_add]
  rw [show n - (n - 1) = 1 by omega]
  have hlen : (X1 ++ X2).length = (n - 1) * 3 := by rw [List.length_append]; omega
  refine clear_some h (o := (n - 1) * 3) (n := 1) (by simp [Value.cells, Value.oneCell']) (by omega) (by rw [List.length_append, hlen]; omega) fun zs w hzl h => ?_
  have e2 : (X1 ++ X2 ++ Z).take ((n - 1) * 3) = X1 ++ X2 := by rw [← hlen, List.take_left']; rfl
  rw [e2, List.append_assoc (X1 ++ X2)] at h
  refine k _ _ w ?_
  refine row_shut h hlen ?_ (by omega) hcm
  simp only [List.length_append, List.length_drop] at *
  omega
end Go.Proofs.YtfaeklinhchidaaGreat

/-
  Copies of bytes.
-/
set_option linter.all false
set_option maxRecDepth 100000
namespace Go.Proofs.YtfaeklinhchidaaGreat
open Go Hold
variable {E : World0} {w : World} {H R : HP} {K : Value → World → Prop}
theorem Clone_spec (h : sat E w H) {v : Value} {l : List UInt8} (hr : Rds H v l.length (l.map bv)) (hl : l.length ≤ 140737488355328)
    (k : ∀ v' w', sat E w' (osl 5 1 v' l.length (l.map bv) * H) → K v' w') : Calls prog 35 #[v] w (Ret K) := by
  obtain ⟨a, c, rfl, hc, hr, ha⟩ := hr.shape h
  refine c35 ?_
  unfold B35
  simp only [↓opsA, opsB, if_true, if_false, ↓reduceIte]
  cases a with
  | none =>
    have hn : l = [] := by simpa using ha rfl
    subst hn
    simp only [↓opsA, opsB, if_true, if_false, ↓reduceIte]
    exact k _ _ (osl_nil h 5 1)
  | some a =>
    simp only [↓opsA, opsB, if_true, if_false, ↓reduceIte]
    refine buildSlice_sl h (e := 5) (cs := #[]) (fun w => by kernel_rfl) ?_
    intro b w1 h1
    refine append_sl (osl_of (n := 0) (sz := 1) h1 rfl (by omega)) (l.map bv) (by simp) (hr.win h1.drop) (bv_one l) (by omega) (by omega) ?_
    intro v' w2 h2
    exact k _ _ (by simpa using h2)
end Go.Proofs.YtfaeklinhchidaaGreat

/-
  The disk: what it is, and its small methods.
-/
set_option linter.all false
set_option maxRecDepth 100000
namespace Go.Proofs.YtfaeklinhchidaaGreat
open Go Hold
variable {E : World0} {w : World} {H R : HP} {K : Value → World → Prop}
/-- The cells of writes: numbers, and slices. -/
def wcells (ws : List (Int × Value)) : List Value := ws.flatMap fun p => [.int .i64 p.1, p.2]
/-- Each of these slices reads so, for ever. -/
def immAll (vs : List Value) (L : List (List UInt8)) : PP :=
  ⟨fun I => vs.length = L.length ∧ ∀ (i : Nat) (v : Value) (l : List UInt8), vs[i]? = some v → L[i]? = some l → RdS I v l.length (l.map bv), fun hI h => ⟨h.1, fun i v l a b => (h.2 i v l a b).mono hI⟩⟩
/-- A disk at d: blocks L, writes W. -/
def dsk (d : Nat) (L : List (List UInt8)) (W : List (Int × List UInt8)) : HP :=
  ex fun q : Value × List Value × Value × List (Int × Value) =>
    pts d (.cells [q.1, q.2.2.1, .int .i64 W.length].toArray 107 (0, 0)) *
    (osl 22 1 q.1 L.length q.2.1 * (osl 190 2 q.2.2.1 W.length (wcells q.2.2.2) * (pers (immAll q.2.1 L) * pers (immAll (q.2.2.2.map (·.2)) (W.map (·.2))) * pur (q.2.2.2.map (·.1) = W.map (·.1)))))
theorem sat_dsk {d : Nat} {L : List (List UInt8)} {W : List (Int × List UInt8)} : sat E w (dsk d L W * R) ↔
    ∃ lv vs wv ws, ws.map (·.1) = W.map (·.1) ∧ sat E w (pts d (.cells [lv, wv, .int .i64 W.length].toArray 107 (0, 0)) * (osl 22 1 lv L.length vs * (osl 190 2 wv W.length (wcells ws) * (pers (immAll vs L) * (pers (immAll (ws.map (·.2)) (W.map (·.2))) * R))))) := by
  unfold dsk
  rw [sat_ex_star]
  constructor
  · rintro ⟨⟨lv, vs, wv, ws⟩, h⟩
    simp only at h
    have h2 : sat E w (pur (ws.map (·.1) = W.map (·.1)) * (pts d (.cells [lv, wv, .int .i64 W.length].toArray 107 (0, 0)) * (osl 22 1 lv L.length vs * (osl 190 2 wv W.length (wcells ws) * (pers (immAll vs L) * (pers (immAll (ws.map (·.2)) (W.map (·.2))) * R)))))) := h.perm (by ac_rfl)
    rw [sat_pur_star] at h2
    exact ⟨lv, vs, wv, ws, h2.1, h2.2⟩
  · rintro ⟨lv, vs, wv, ws, e, h⟩
    refine ⟨⟨lv, vs, wv, ws⟩, ?_⟩
    have h2 : sat E w (pur (ws.map (·.1) = W.map (·.1)) * (pts d (.cells [lv, wv, .int .i64 W.length].toArray 107 (0, 0)) * (osl 22 1 lv L.length vs * (osl 190 2 wv W.length (wcells ws) * (pers (immAll vs L) * (pers (immAll (ws.map (·.2)) (W.map (·.2))) * R)))))) := sat_pur_star.2 ⟨e, h⟩
    exact h2.perm (by ac_rfl)
/-- A disk is held. -/
class DskS (H : HP) (d : Nat) (L : outParam (List (List UInt8))) (W : outParam (List (Int × List UInt8))) (R : outParam HP) : Prop where eq : H = dsk d L W * R
instance (priority := 1100) DskS.here (d : Nat) (L : List (List UInt8)) (W : List (Int × List UInt8)) (R : HP) : DskS (dsk d L W * R) d L W R := ⟨rfl⟩
instance (priority := 1050) DskS.there (d : Nat) (L : List (List UInt8)) (W : List (Int × List UInt8)) (R : HP) : DskS (R * dsk d L W) d L W R := ⟨star_comm _ _⟩
instance (priority := 900) DskS.right (P1 P2 : HP) (d : Nat) (L : List (List UInt8)) (W : List (Int × List UInt8)) (R : HP) [h : DskS P2 d L W R] : DskS (P1 * P2) d L W (P1 * R) := ⟨by rw [h.eq, star_left_comm]⟩
instance (priority := 800) DskS.left (P1 P2 : HP) (d : Nat) (L : List (List UInt8)) (W : List (Int × List UInt8)) (R : HP) [h : DskS P1 d L W R] : DskS (P1 * P2) d L W (R * P2) := ⟨by rw [h.eq, star_assoc]⟩
instance (priority := 100) DskS.all (d : Nat) (L : List (List UInt8)) (W : List (Int × List UInt8)) : DskS (dsk d L W) d L W emp := ⟨(star_emp _).symm⟩
theorem _root_.Hold.sat.dsks (h : sat E w H) (d : Nat) {L : List (List UInt8)} {W : List (Int × List UInt8)} [s : DskS H d L W R] : sat E w (dsk d L W * R) := h.perm s.eq
/-! ### The counter -/
theorem atomicAdd_run {a : Addr} {n m : Int} (h : w.cell? a = some (.int .i64 n)) (hf : w.frozen? a = false) : (oCall (.func (.func 126) #[] #[]) #[.pointer (some a), .int .i64 m]).run prog w = .ok (.value (.int .i64 (IntKind.i64.wrap (n + m)))) (w.setCell a (.int .i64 (IntKind.i64.wrap (n + m)))) := by
  rw [oCall_run]
  exact run_call_add Tryz.func126 (by kernel_rfl) (by kernel_rfl) (by kernel_rfl) .i64 (by kernel_rfl) h hf rfl
theorem atAdd_spec (h : sat E w H) {b o e : Nat} {xs : List Value} {n m : Int} [hb : Own H b (.cells xs.toArray e (0, 0)) R] (hx : xs[o]? = some (.int .i64 n))
    (k : ∀ w', sat E w' (pts b (.cells (xs.set o (.int .i64 (IntKind.i64.wrap (n + m)))).toArray e (0, 0)) * R) → K (.int .i64 (IntKind.i64.wrap (n + m))) w') : Calls prog 98 #[.pointer (some ⟨b, o, none⟩), .int .i64 m] w (Ret K) := by
  have h2 := h.own b
  have hg := h2.pts_get
  refine c98 ?_
  unfold B98
  simp only [↓opsA, opsB, if_true, if_false, ↓reduceIte]
  refine ef_of (atomicAdd_run (cell_of hg (by simpa using hx)) (by simp [World.frozen?, hg])) (k _ ?_)
  have : w.setCell ⟨b, o + 0, none⟩ (.int .i64 (IntKind.i64.wrap (n + m))) = w.putObj b (.cells (xs.set o (.int .i64 (IntKind.i64.wrap (n + m)))).toArray e (0, 0)) := by
    have := setCell_eq_setRow w b (o + 0) xs.toArray e (0, 0) (.int .i64 (IntKind.i64.wrap (n + m))) hg
    rw [this, setRow_putObj hg]
    simp
  rw [this]
  exact h2.set _
/-! ### Small methods -/
theorem Blocks_spec {d : Nat} {L : List (List UInt8)} {W : List (Int × List UInt8)} (h : sat E w H) [s : DskS H d L W R] (k : K (.int .i64 L.length) w) : Calls prog 38 #[.pointer (some ⟨d, 0, none⟩)] w (Ret K) := by
  obtain ⟨lv, vs, wv, ws, e, hd⟩ := sat_dsk.1 (h.dsks d)
  obtain ⟨a, c, rfl, hc, hl, ha⟩ := osl_shape hd.drop
  refine c38 ?_
  unfold B38
  simp only [↓opsA, opsB, if_true, if_false, ↓reduceIte]
  refine ld_at hd ?_
  simp only [↓opsA, opsB, if_true, if_false, ↓reduceIte]
  exact k
/-- Slices of slices of bytes that read so: their values, and each of them. -/
def Rdd (H : HP) (v : Value) (L : List (List UInt8)) : Prop := ∃ vs : List Value, Rds H v L.length vs ∧ vs.length = L.length ∧ ∀ (i : Nat) (u : Value) (l : List UInt8), vs[i]? = some u → L[i]? = some l → Rds H u l.length (l.map bv)
theorem immAll_rds {vs : List Value} {L : List (List UInt8)} {i : Nat} {u : Value} {l : List UInt8} (h1 : vs[i]? = some u) (h2 : L[i]? = some l) : Rds (pers (immAll vs L)) u l.length (l.map bv) :=
  fun E w hs => (hs.whole.pers_get).2 i u l h1 h2
/-- copied: the blocks of one's own. -/
theorem copied_spec (h : sat E w H) {v : Value} {L : List (List UInt8)} (hr : Rdd H v L) (hn : L.length ≤ 1024) (hl : ∀ l ∈ L, l.length ≤ 140737488355328)
    (k : ∀ v' vs' w', v' ≠ .slice none 0 0 → sat E w' (osl 22 1 v' L.length vs' * (pers (immAll vs' L) * H)) → K v' w') : Calls prog 73 #[v] w (Ret K) := by
  obtain ⟨vs, hv, hlen, hall⟩ := hr
  obtain ⟨a, c, rfl, hc, hv, ha⟩ := hv.shape h
  refine c73 ?_
  unfold B73
  simp only [↓opsA, opsB, if_true, if_false, ↓reduceIte]
  refine make_sl h rfl (by omega) (by omega) (by omega) (by omega) ?_
  intro b w1 h1
  simp only [↓opsA, opsB, if_true, if_false, ↓reduceIte, Int.toNat_natCast]
  simp only [Int.toNat_natCast] at h1
  refine lp_nat (fun n σ w => ∃ (i : Nat) (us : List Value), σ = [.int .i64 i] ∧ n = L.length - i ∧ i ≤ L.length ∧ us.length = i ∧
    sat E w (pts b (.cells (us ++ List.replicate (L.length - i) (Value.slice none 0 0)).toArray 22 (0, 0)) * (pers (immAll us (L.take i)) * H))) L.length ⟨0, [], rfl, rfl, by omega, rfl, ?_⟩ ?_
  · have : sat E w1 (pers (immAll [] (L.take 0)) * (pts b (.cells (List.replicate L.length (Value.slice none 0 0)).toArray 22 (0, 0)) * H)) :=
      h1.mono fun I h' hp' => (pers_star_p _ _ _ _).2 ⟨⟨by simp, fun i v l hv => by simp at hv⟩, hp'⟩
    simpa using this.perm (star_left_comm _ _ _)
  · rintro n σ w again ⟨i, us, rfl, rfl, hi, hus, h⟩ hag
    simp only [↓opsA, opsB, if_true, if_false, ↓reduceIte]
    refine cd_dec (fun hlt => ?_) (fun hge => ?_)
    · have hlt : i < L.length := by omega
      obtain ⟨b', o', rfl, hb'⟩ := win_cell (hv.win h.drop.drop) (j := i) (by omega)
      rw [o_index (by omega) (by omega)]
      simp only [Int.toNat_natCast, Nat.mul_one]
      refine ld_cell hb' ?_
      have hcl := hall i vs[i] L[i] (List.getElem?_eq_getElem (by omega)) (List.getElem?_eq_getElem hlt)
      refine Clone_spec h hcl.right.right (hl _ (List.getElem_mem _)) ?_
      intro v' w2 h2
      have hf := osl_freeze h2
      rw [o_index (by omega) (by omega)]
      simp only [Int.toNat_natCast, Nat.mul_one, ↓opsA, opsB, if_true, if_false, ↓reduceIte]
      obtain ⟨a3, c3, rfl, _, _, _⟩ := osl_shape h2
      refine store_sl hf rfl (by simp; omega) ?_
      intro w3 h3
      rw [i64_of (by omega) (by omega)]
      refine hag _ _ _ (by omega) ⟨i + 1, us ++ [Value.slice a3 L[i].length c3], rfl, rfl, by omega, by simp [hus], ?_⟩
      have e1 : (us ++ List.replicate (L.length - i) (Value.slice none 0 0)).set i (.slice a3 L[i].length c3) = (us ++ [Value.slice a3 L[i].length c3]) ++ List.replicate (L.length - (i + 1)) (Value.slice none 0 0) := by
        rw [List.set_append_right _ _ (by omega), hus, Nat.sub_self, show L.length - i = (L.length - (i + 1)) + 1 by omega, List.replicate_succ]
        simp
      rw [e1] at h3
      have h4 : sat E w3 (pers (immS (.slice a3 L[i].length c3) L[i].length (L[i].map bv)) * (pers (immAll us (L.take i)) * (pts b (.cells ((us ++ [Value.slice a3 L[i].length c3]) ++ List.replicate (L.length - (i + 1)) (Value.slice none 0 0)).toArray 22 (0, 0)) * H))) := h3.perm (by ac_rfl)
      rw [← star_assoc, pers_and] at h4
      have h5 := h4.pers_mono (ψ := immAll (us ++ [Value.slice a3 L[i].length c3]) (L.take (i + 1))) (fun I hI => by
        refine ⟨by simp [hus]; omega, fun j v l hv hl => ?_⟩
        rcases Nat.lt_trichotomy j i with hj | hj | hj
        · rw [List.getElem?_append_left (by omega)] at hv
          refine hI.2.2 j v l hv ?_
          rw [List.getElem?_take] at hl ⊢
          rw [if_pos (by omega)] at hl; rw [if_pos hj]; exact hl
        · subst hj
          rw [List.getElem?_append_right (by omega), hus, Nat.sub_self] at hv
          simp at hv
          rw [List.getElem?_take, if_pos (by omega), List.getElem?_eq_getElem hlt] at hl
          simp at hl
          subst hl; rw [← hv]; exact hI.1
        · rw [List.getElem?_eq_none (by simp; omega)] at hv; cases hv)
      exact h5.perm (by ac_rfl)
    · have : i = L.length := by omega
      subst this
      refine k (.slice (some ⟨b, 0, none⟩) L.length L.length) us w (by simp) ?_
      simp only [Nat.sub_self, List.replicate_zero, List.append_nil, List.take_length] at h
      exact osl_of h (by omega) (by omega)
end Go.Proofs.YtfaeklinhchidaaGreat

/-
  The disk: New, Read, Write.
-/
set_option linter.all false
set_option maxRecDepth 100000
namespace Go.Proofs.YtfaeklinhchidaaGreat
open Go Hold
variable {E : World0} {w : World} {H R : HP} {K : Value → World → Prop}
theorem immAll_snoc {I : Hp} {us : List Value} {Ls : List (List UInt8)} {v : Value} {l : List UInt8} (h : (immAll us Ls).p I) (hv : RdS I v l.length (l.map bv)) : (immAll (us ++ [v]) (Ls ++ [l])).p I := by
  refine ⟨by simp [h.1], fun j u m hu hm => ?_⟩
  have hl := h.1
  rcases Nat.lt_or_ge j us.length with hj | hj
  · rw [List.getElem?_append_left hj] at hu
    rw [List.getElem?_append_left (by omega)] at hm
    exact h.2 j u m hu hm
  · rw [List.getElem?_append_right hj] at hu
    rw [List.getElem?_append_right (by omega)] at hm
    have : j - us.length = 0 := by
      rcases Nat.eq_zero_or_pos (j - us.length) with h0 | h0
      · exact h0
      · rw [List.getElem?_eq_none (by simp; omega)] at hu; cases hu
    rw [this] at hu
    rw [show j - Ls.length = 0 by omega] at hm
    simp at hu hm
    subst hu; subst hm; exact hv
theorem immAll_nil {w : World} (h : sat E w R) : sat E w (pers (immAll [] []) * R) :=
  h.mono fun I h' hp' => (pers_star_p _ _ _ _).2 ⟨⟨rfl, fun i v l hv => by simp at hv⟩, hp'⟩
/-- One more of them stays. -/
theorem sat_snoc {us : List Value} {Ls : List (List UInt8)} {v : Value} {l : List UInt8} (h : sat E w (pers (immS v l.length (l.map bv)) * (pers (immAll us Ls) * R))) : sat E w (pers (immAll (us ++ [v]) (Ls ++ [l])) * R) := by
  rw [← star_assoc, pers_and] at h
  exact h.pers_mono fun I hI => immAll_snoc hI.2 hI.1
theorem immAll_set {I : Hp} {vs : List Value} {L : List (List UInt8)} {v : Value} {l : List UInt8} {n : Nat} (h : (immAll vs L).p I) (hv : RdS I v l.length (l.map bv)) : (immAll (vs.set n v) (L.set n l)).p I := by
  refine ⟨by simp [h.1], fun j u m hu hm => ?_⟩
  by_cases hj : n = j
  · subst hj
    have h1 := (List.getElem?_eq_some_iff.1 hu).1
    have h2 := (List.getElem?_eq_some_iff.1 hm).1
    simp at h1 h2
    simp [h1] at hu; simp [h2] at hm
    subst hu; subst hm; exact hv
  · rw [List.getElem?_set_ne hj] at hu hm
    exact h.2 j u m hu hm
def zeros : List UInt8 := List.replicate 256 0
theorem zeros_map : List.replicate 256 (Value.int .u8 0) = zeros.map bv := by unfold zeros; rw [List.map_replicate]; rfl
theorem New_spec (h : sat E w H) {n : Int} (h1 : 1 ≤ n) (h2 : n ≤ 1024)
    (k : ∀ d w', sat E w' (dsk d (List.replicate n.toNat zeros) [] * H) → K (.tuple #[.pointer (some ⟨d, 0, none⟩), .int .i64 0]) w') : Calls prog 14 #[.int .i64 n] w (Ret K) := by
  obtain ⟨n, rfl⟩ := Int.eq_ofNat_of_zero_le (show 0 ≤ n by omega)
  refine c14 ?_
  unfold B14
  have e1 : ¬ (n : Int) < 1 := by omega
  have e2 : ¬ (1024 : Int) < n := by omega
  simp only [↓opsA, opsB, if_true, if_false, ↓reduceIte, e1, e2]
  refine make_sl h rfl (by omega) (by omega) (by omega) (by omega) ?_
  intro b w h
  simp only [Int.toNat_natCast] at h ⊢
  refine pvv_of (v := .agg #[.slice (some ⟨b, 0, none⟩) n n, .slice none 0 0, .int .i64 0]) (fun _ => by kernel_rfl) ?_
  refine box_sl h ?_
  intro d w h
  have h : sat E w (pts d (.cells [Value.slice (some ⟨b, 0, none⟩) n n, .slice none 0 0, .int .i64 0].toArray 107 (0, 0)) * (pts b (.cells (List.replicate n (Value.slice none 0 0)).toArray 22 (0, 0)) * H)) := h
  simp only [↓opsA, opsB, if_true, if_false, ↓reduceIte]
  refine ld_at h ?_
  simp only [↓opsA, opsB, if_true, if_false, ↓reduceIte]
  refine lp_nat (fun m σ w => ∃ (i : Nat) (us : List Value), σ = [.int .i64 i] ∧ m = n - i ∧ i ≤ n ∧ us.length = i ∧
    sat E w (pts d (.cells [Value.slice (some ⟨b, 0, none⟩) n n, .slice none 0 0, .int .i64 0].toArray 107 (0, 0)) * (pts b (.cells (us ++ List.replicate (n - i) (Value.slice none 0 0)).toArray 22 (0, 0)) * (pers (immAll us (List.replicate i zeros)) * H)))) n ⟨0, [], rfl, rfl, by omega, rfl, ?_⟩ ?_
  · exact (immAll_nil h).perm (by simp; ac_rfl)
  · rintro m σ w again ⟨i, us, rfl, rfl, hi, hus, h⟩ hag
    simp only [↓opsA, opsB, if_true, if_false, ↓reduceIte]
    refine cd_dec (fun hlt => ?_) (fun hge => ?_)
    · have hlt : i < n := by omega
      refine dr_sl h fun w h _ => ?_
      refine ld_at h ?_
      refine make_sl h rfl (by omega) (by omega) (by omega) (by omega) ?_
      intro b2 w h
      refine st_at h ?_
      rw [o_index (by omega) (by omega)]
      simp only [Int.toNat_natCast, Nat.mul_one, ↓opsA, opsB, if_true, if_false, ↓reduceIte]
      have e3 : (256 : Int).toNat = 256 := rfl
      rw [e3] at h ⊢
      rw [zeros_map] at h
      have hf := osl_freeze (osl_of (n := 256) (sz := 1) h (by simp [zeros]) (by omega))
      refine store_sl hf rfl (by simp; omega) ?_
      intro w h
      rw [i64_of (by omega) (by omega)]
      refine hag _ _ _ (by omega) ⟨i + 1, us ++ [Value.slice (some ⟨b2, 0, none⟩) 256 256], rfl, rfl, by omega, by simp [hus], ?_⟩
      have e1 : (us ++ List.replicate (n - i) (Value.slice none 0 0)).set i (.slice (some ⟨b2, 0, none⟩) 256 256) = (us ++ [Value.slice (some ⟨b2, 0, none⟩) 256 256]) ++ List.replicate (n - (i + 1)) (Value.slice none 0 0) := by
        rw [List.set_append_right _ _ (by omega), hus, Nat.sub_self, show n - i = (n - (i + 1)) + 1 by omega, List.replicate_succ]
        simp
      rw [e1] at h
      have h4 := sat_snoc (l := zeros) (h.perm (Q := pers (immS (Value.slice (some ⟨b2, 0, none⟩) 256 256) 256 (zeros.map bv)) * (pers (immAll us (List.replicate i zeros)) * (pts d (.cells [Value.slice (some ⟨b, 0, none⟩) n n, .slice none 0 0, .int .i64 0].toArray 107 (0, 0)) * (pts b (.cells ((us ++ [Value.slice (some ⟨b2, 0, none⟩) 256 256]) ++ List.replicate (n - (i + 1)) (Value.slice none 0 0)).toArray 22 (0, 0)) * H)))) (by ac_rfl))
      rw [← List.replicate_succ'] at h4
      exact h4.perm (by ac_rfl)
    · have : i = n := by omega
      subst this
      refine k d w (sat_dsk.2 ⟨.slice (some ⟨b, 0, none⟩) i i, us, .slice none 0 0, [], rfl, ?_⟩)
      simp only [Nat.sub_self, List.replicate_zero, List.append_nil] at h
      have h2 := osl_of (n := i) (sz := 1) (h.own b) (by omega) (by omega)
      have h3 := osl_nil h2 190 2
      have h4 := immAll_nil h3
      simp only [List.length_replicate, Int.toNat_natCast]
      exact h4.perm (by ac_rfl)
theorem Read_spec {d : Nat} {L : List (List UInt8)} {W : List (Int × List UInt8)} (h : sat E w H) [s : DskS H d L W R] {n : Nat} (hn : n < L.length) (hl : L[n].length ≤ 140737488355328)
    (k : ∀ v' w', sat E w' (osl 5 1 v' L[n].length (L[n].map bv) * (dsk d L W * R)) → K (.tuple #[v', .int .i64 0]) w') : Calls prog 41 #[.pointer (some ⟨d, 0, none⟩), .int .i64 n] w (Ret K) := by
  obtain ⟨lv, vs, wv, ws, e, hd⟩ := sat_dsk.1 (h.dsks d)
  obtain ⟨a, c, rfl, hc, hlen, ha⟩ := osl_shape hd.drop
  refine c41 ?_
  unfold B41
  have h1 : ¬ (n : Int) < 0 := by omega
  have h2 : ¬ (L.length : Int) ≤ n := by omega
  simp only [↓opsA, opsB, if_true, if_false, ↓reduceIte, h1]
  refine ld_at hd ?_
  simp only [↓opsA, opsB, if_true, if_false, ↓reduceIte, h2]
  refine ld_at hd ?_
  obtain ⟨b, o, rfl, hb⟩ := win_cell ((Rds.osl).win hd.drop.drop') (j := n) (by omega)
  rw [o_index (by omega) (by omega)]
  simp only [Int.toNat_natCast, Nat.mul_one]
  refine ld_cell hb ?_
  refine Clone_spec hd (v := vs[n]) (l := L[n]) ?_ hl ?_
  · exact (immAll_rds (List.getElem?_eq_getElem (by omega)) (List.getElem?_eq_getElem hn)).left.right.right.right
  intro v' w' h'
  refine k v' w' ?_
  have h2 := sat_dsk.2 ⟨.slice (some ⟨b, o, none⟩) L.length c, vs, wv, ws, e, h'.perm (Q := pts d (.cells [.slice (some ⟨b, o, none⟩) L.length c, wv, .int .i64 W.length].toArray 107 (0, 0)) * (osl 22 1 (.slice (some ⟨b, o, none⟩) L.length c) L.length vs * (osl 190 2 wv W.length (wcells ws) * (pers (immAll vs L) * (pers (immAll (ws.map (·.2)) (W.map (·.2))) * (osl 5 1 v' L[n].length (L[n].map bv) * R)))))) (by ac_rfl)⟩
  exact h2.perm (star_left_comm _ _ _)
/-! ### Write -/
theorem wcells_length (ws : List (Int × Value)) : (wcells ws).length = ws.length * 2 := by
  induction ws with
  | nil => rfl
  | cons x r ih => simp [wcells] at ih ⊢; omega
theorem wcells_snoc (ws : List (Int × Value)) (n : Int) (v : Value) : wcells (ws ++ [(n, v)]) = wcells ws ++ [.int .i64 n, v] := by simp [wcells]
theorem Write_spec {d : Nat} {L : List (List UInt8)} {W : List (Int × List UInt8)} (h : sat E w H) [s : DskS H d L W R] {n : Nat} {v : Value} {l : List UInt8} (hn : n < L.length) (hl : l.length = 256) (hW : W.length ≤ 1000000)
    (hv : Rds R v l.length (l.map bv))
    (k : ∀ w', sat E w' (dsk d (L.set n l) (W ++ [((n : Int), L[n])]) * R) → K (.int .i64 0) w') : Calls prog 94 #[.pointer (some ⟨d, 0, none⟩), .int .i64 n, v] w (Ret K) := by
  obtain ⟨lv, vs, wv, ws, e, hd⟩ := sat_dsk.1 (h.dsks d)
  obtain ⟨av, cv, rfl, hcv, hv, ha⟩ := hv.shape hd.drop.drop.drop.drop.drop
  have hL := hd.drop.drop.drop.pers_get.1
  obtain ⟨ab, cb, hvs, _, _⟩ := hd.drop.drop.drop.pers_get.2 n vs[n] L[n] (List.getElem?_eq_getElem (by omega)) (List.getElem?_eq_getElem hn)
  have hL2 : ws.length = W.length := by simpa using hd.drop.drop.drop.drop.pers_get.1
  obtain ⟨aw, cw, rfl, hcw, hwl, _⟩ := osl_shape hd.drop.drop
  obtain ⟨bl, cl, spl, rfl, hlen, hc, hP, hcl⟩ := osl_open (hd.perm (star_left_comm _ _ _)) (by omega)
  refine c94 ?_
  unfold B94
  have h1 : ¬ (n : Int) < 0 := by omega
  have h2 : ¬ (L.length : Int) ≤ n := by omega
  have h3 : (l.length : Int) = 256 := by omega
  have hget : (vs ++ spl)[n]? = some vs[n] := by rw [List.getElem?_append_left (by omega), List.getElem?_eq_getElem (by omega)]
  simp only [↓opsA, opsB, if_true, if_false, ↓reduceIte, h1]
  refine ld_at hP ?_
  simp only [↓opsA, opsB, if_true, if_false, ↓reduceIte, h2, h3]
  refine dr_sl hP fun w hP _ => ?_
  refine ld_at hP ?_
  refine ld_at hP ?_
  rw [o_index (by omega) (by omega)]
  simp only [Int.toNat_natCast, Nat.mul_one, Nat.zero_add]
  refine ld_in hP hget ?_
  rw [hvs] at hget ⊢
  refine pvv_of (v := .agg #[.int .i64 n, .slice ab L[n].length cb]) (fun _ => by kernel_rfl) ?_
  refine buildSlice_sl (e := 190) (cs := #[.int .i64 n, .slice ab L[n].length cb]) hP (fun w => by kernel_rfl) fun b1 w hP => ?_
  refine st_in hP hget ?_
  refine st_at hP ?_
  refine st_at hP ?_
  refine append_sl hP [.int .i64 n, .slice ab L[n].length cb] rfl (.inr ⟨b1, 0, _, 190, (0, 0), rfl, hP.pts_get, fun j v hj => by simpa using hj⟩) (by simp [Value.oneCell']) (by omega) (by omega) fun v' w hP => ?_
  obtain ⟨a4, c4, rfl, _, _, _⟩ := osl_shape hP
  refine st_in hP hget ?_
  refine st_at hP ?_
  refine store_at hP rfl (by simp) fun w hP => ?_
  refine atAdd_spec hP (xs := [_, _, .int .i64 W.length]) rfl fun w hP => ?_
  refine dr_sl hP fun w hP _ => ?_
  refine ld_in hP (v := .slice (some ⟨bl, 0, none⟩) L.length cl) (by simp) ?_
  refine Clone_spec hP (v := .slice av l.length cv) (l := l) (Rds.under hv) (by omega) fun v5 w hP => ?_
  have hP := osl_freeze hP
  obtain ⟨a5, c5, rfl, hc5, _⟩ := hP.pers_get
  refine st_in hP (v := .slice (some ⟨bl, 0, none⟩) L.length cl) (by simp) ?_
  rw [o_index (by omega) (by omega)]
  simp only [Int.toNat_natCast, Nat.mul_one, Nat.zero_add]
  refine store_sl hP rfl (by simp; omega) fun w hP => k w ?_
  rw [i64_of (by omega) (by omega), List.set_append_left _ _ (by omega)] at hP
  have hP := hcl (by simp) hP
  have hI := (hP.perm (Q := pers ((immS (.slice a5 l.length c5) l.length (l.map bv)).and ((immAll vs L).and (immAll (ws.map (·.2)) (W.map (·.2))))) *
    (pts d (.cells [.slice (some ⟨bl, 0, none⟩) L.length cl, .slice a4 (W.length + 1) c4, .int .i64 (W.length + 1)].toArray 107 (0, 0)) * (osl 22 1 (.slice (some ⟨bl, 0, none⟩) L.length cl) L.length (vs.set n (.slice a5 l.length c5)) *
    (osl 190 2 (.slice a4 (W.length + 1) c4) (W.length + 1) (wcells ws ++ [.int .i64 n, .slice ab L[n].length cb]) * (pts b1 (.cells #[.int .i64 n, .slice ab L[n].length cb] 190 (0, 0)) * R))))) (by
      rw [← pers_and, ← pers_and]; simp only [List.set]; ac_rfl)).pers_mono (ψ := (immAll (vs.set n (.slice a5 l.length c5)) (L.set n l)).and (immAll (ws.map (·.2) ++ [.slice ab L[n].length cb]) (W.map (·.2) ++ [L[n]]))) (fun I hI =>
        ⟨immAll_set hI.2.1 hI.1, immAll_snoc hI.2.2 (hI.2.1.2 n _ L[n] (by rw [List.getElem?_eq_getElem (by omega), hvs]) (List.getElem?_eq_getElem hn))⟩)
  rw [← pers_and] at hI
  refine sat_dsk.2 ⟨.slice (some ⟨bl, 0, none⟩) L.length cl, vs.set n (.slice a5 l.length c5), .slice a4 (W.length + 1) c4, ws ++ [((n : Int), .slice ab L[n].length cb)], by simp [e], ?_⟩
  rw [wcells_snoc]
  simp only [List.length_set, List.length_append, List.length_cons, List.length_nil, List.map_append, List.map_cons, List.map_nil]
  exact (hI.perm (Q := pts b1 (.cells #[.int .i64 n, .slice ab L[n].length cb] 190 (0, 0)) * _) (by ac_rfl)).drop
end Go.Proofs.YtfaeklinhchidaaGreat

/-
  A disk: what it holds.
-/
set_option linter.all false
set_option maxRecDepth 100000
namespace Go.Proofs.YtfaeklinhchidaaGreat
open Go Hold
variable {E : World0} {w : World} {H R : HP} {K : Value → World → Prop}
/-- What a disk holds. -/
structure Wf (L : List (List UInt8)) (W : List (Int × List UInt8)) : Prop where
  pos : 1 ≤ L.length
  le : L.length ≤ 1024
  l : ∀ l ∈ L, l.length = 256
  w : ∀ p ∈ W, 0 ≤ p.1 ∧ p.1 < L.length ∧ p.2.length = 256
theorem wcells_drop : ∀ (ws : List (Int × Value)) (k : Nat), wcells (ws.drop k) = (wcells ws).drop (k * 2)
  | ws, 0 => by simp
  | [], k + 1 => by simp [wcells]
  | x :: r, k + 1 => by
    have e : wcells (x :: r) = .int .i64 x.1 :: x.2 :: wcells r := by simp [wcells]
    rw [e, show (k + 1) * 2 = k * 2 + 1 + 1 by omega]
    simpa using wcells_drop r k
/-- The blocks ahead of the writes from the k'th on. -/
def undo (L : List (List UInt8)) (W : List (Int × List UInt8)) : List (List UInt8) := W.foldr (fun p L => L.set p.1.toNat p.2) L
theorem undo_snoc (L : List (List UInt8)) (W : List (Int × List UInt8)) (p : Int × List UInt8) : undo L (W ++ [p]) = undo (L.set p.1.toNat p.2) W := by simp [undo]
theorem Rds.own {H : HP} {v : Value} {e sz n : Nat} {xs : List Value} {R : HP} [s : OwnS H v e sz n xs R] : Rds H v n xs := fun E w h => osl_rd (h.perm s.eq)
/-- The blocks of a disk, read. -/
theorem rdd_of (h : sat E w H) {lv : Value} {vs : List Value} {L : List (List UInt8)} {R1 R2 : HP} [s1 : OwnS H lv 22 1 L.length vs R1] [s2 : Split R1 (pers (immAll vs L)) R2] : Rdd H lv L :=
  ⟨vs, fun E w hs => osl_rd (hs.perm s1.eq), (((h.perm s1.eq).drop.split (pers (immAll vs L))).pers_get).1, fun i u l h1 h2 E w hs => (((hs.perm s1.eq).drop.split (pers (immAll vs L))).pers_get).2 i u l h1 h2⟩
/-- A disk, shut again. -/
theorem dsk_shut (d : Nat) (L : List (List UInt8)) (W : List (Int × List UInt8)) {lv wv : Value} {vs : List Value} {ws : List (Int × Value)} {R1 R2 R3 R4 R5 : HP} (e : ws.map (·.1) = W.map (·.1)) (h : sat E w H)
    [s1 : Own H d (.cells [lv, wv, .int .i64 W.length].toArray 107 (0, 0)) R1] [s2 : OwnS R1 lv 22 1 L.length vs R2] [s3 : OwnS R2 wv 190 2 W.length (wcells ws) R3]
    [s4 : Split R3 (pers (immAll vs L)) R4] [s5 : Split R4 (pers (immAll (ws.map (·.2)) (W.map (·.2)))) R5] : sat E w (dsk d L W * R5) :=
  sat_dsk.2 ⟨lv, vs, wv, ws, e, by rw [← s5.eq, ← s4.eq, ← s3.eq, ← s2.eq, ← s1.eq]; exact h⟩
end Go.Proofs.YtfaeklinhchidaaGreat

/-
  A disk: from an image; forks.
-/
set_option linter.all false
set_option maxRecDepth 100000
namespace Go.Proofs.YtfaeklinhchidaaGreat
open Go Hold
variable {E : World0} {w : World} {H R : HP} {K : Value → World → Prop}
theorem Rdd.under {H0 H1 R1 : HP} {v : Value} {L : List (List UInt8)} (h : Rdd H1 v L) [s : Split H0 H1 R1] : Rdd H0 v L :=
  let ⟨vs, h1, h2, h3⟩ := h
  ⟨vs, Rds.under h1, h2, fun i u l a b => Rds.under (h3 i u l a b)⟩
theorem Image_spec {d : Nat} {L : List (List UInt8)} {W : List (Int × List UInt8)} (h : sat E w H) [s : DskS H d L W R] (wf : Wf L W)
    (k : ∀ v' vs' w', sat E w' (osl 22 1 v' L.length vs' * (pers (immAll vs' L) * H)) → K v' w') : Calls prog 40 #[.pointer (some ⟨d, 0, none⟩)] w (Ret K) := by
  obtain ⟨lv, vs, wv, ws, e, hd⟩ := sat_dsk.1 (h.dsks d)
  refine c40 ?_
  unfold B40
  simp only [↓opsA, opsB, if_true, if_false, ↓reduceIte]
  refine ld_at hd ?_
  refine copied_spec hd (rdd_of hd) wf.le (fun l hl => by rw [wf.l l hl]; omega) fun v' vs' w _ h => k v' vs' w ?_
  have h := dsk_shut d L W e h
  exact h.perm (by rw [s.eq]; ac_rfl)
/-- Is an image one of blocks? -/
def bad (L : List (List UInt8)) : Option Nat := if L.length < 1 ∨ 1024 < L.length then some 2 else if L.all (fun l => l.length == 256) then none else some 3
theorem Rds.len {v : Value} {n : Nat} {xs : List Value} (h : Rds H v n xs) (hs : sat E w H) : ∃ a c, v = .slice a n c := let ⟨a, c, e, _⟩ := h E w hs; ⟨a, c, e⟩
theorem isBad_spec {l : List UInt8} {v : Value} (hv : RdS (hp w) v l.length (l.map bv)) (k : K (.bool !(decide (l.length = 256))) w) : Calls prog 72 #[v] w (Ret K) := by
  obtain ⟨a, c, rfl, _⟩ := hv
  refine c72 ?_
  unfold B72
  simp only [↓opsA, opsB, if_true, if_false, ↓reduceIte]
  have e : decide ((l.length : Int) = 256) = decide (l.length = 256) := by congr 1; apply propext; omega
  rw [e]
  exact k
theorem Index_spec (h : sat E w H) {v : Value} {L : List (List UInt8)} (hv : Rdd H v L) (hL : L.length ≤ 1024)
    (k : ∀ (n : Int) w', sat E w' H → (0 ≤ n ↔ ¬ L.all (fun l => l.length == 256) = true) → K (.int .i64 n) w') : Calls prog 114 #[v, .func (.func 72) #[] #[]] w (Ret K) := by
  obtain ⟨vs, hv, hvl, hva⟩ := hv
  obtain ⟨a, c, rfl, hc, hv, _⟩ := hv.shape h
  refine c114 ?_
  unfold B114
  simp only [↓opsA, opsB, if_true, if_false, ↓reduceIte]
  refine lp_nat (fun n σ w => ∃ i : Nat, σ = [.int .i64 i] ∧ n = L.length - i ∧ i ≤ L.length ∧ (∀ j (hj : j < L.length), j < i → L[j].length = 256) ∧ sat E w H) L.length ⟨0, rfl, rfl, by omega, fun j _ hj => by omega, h⟩ ?_
  rintro n σ w again ⟨i, rfl, rfl, hi, hall, h⟩ hag
  simp only [↓opsA, opsB, if_true, if_false, ↓reduceIte]
  refine cd_dec (fun hlt => ?_) (fun hge => ?_)
  · have hlt : i < L.length := by omega
    obtain ⟨b1, o1, rfl, hb1⟩ := win_cell (hv.win h) (j := i) (by omega)
    rw [o_index (by omega) (by omega)]
    simp only [Int.toNat_natCast, Nat.mul_one]
    refine ld_cell hb1 ?_
    refine oCall_body Tryz.func72 (by kernel_rfl) (by kernel_rfl) ?_
    refine isBad_spec (hva i vs[i] L[i] (List.getElem?_eq_getElem (by omega)) (List.getElem?_eq_getElem hlt) E w h) ?_
    by_cases hb : L[i].length = 256
    · simp only [hb, ↓opsA, opsB, if_true, if_false, ↓reduceIte]
      rw [i64_of (by omega) (by omega)]
      refine hag _ _ _ (by omega) ⟨i + 1, rfl, rfl, by omega, fun j hj hji => ?_, h⟩
      rcases Nat.lt_or_ge j i with hh | hh
      · exact hall j hj hh
      · have : j = i := by omega
        subst this; exact hb
    · simp only [hb, ↓opsA, opsB, if_true, if_false, ↓reduceIte]
      refine k i w h ⟨fun _ ha => hb ?_, fun _ => by omega⟩
      have := List.all_eq_true.1 ha L[i] (List.getElem_mem hlt)
      simpa using this
  · refine k (-1) w h ⟨fun hh => by omega, fun hh => absurd ?_ hh⟩
    refine List.all_eq_true.2 fun l hl => ?_
    obtain ⟨j, hj, rfl⟩ := List.mem_iff_getElem.1 hl
    simpa using hall j hj (by omega)
theorem Load_spec (h : sat E w H) {v : Value} {L : List (List UInt8)} (hv : Rdd H v L)
    (k0 : ∀ e w', bad L = some e → sat E w' H → K (.tuple #[.pointer none, .int .i64 e]) w')
    (k1 : ∀ d w', bad L = none → sat E w' (dsk d L [] * H) → K (.tuple #[.pointer (some ⟨d, 0, none⟩), .int .i64 0]) w') : Calls prog 39 #[v] w (Ret K) := by
  have hv0 := hv
  obtain ⟨vs, hv, hvl, hva⟩ := hv
  obtain ⟨a, c, rfl, hc, hv, _⟩ := hv.shape h
  refine c39 ?_
  unfold B39
  simp only [↓opsA, opsB, if_true, if_false, ↓reduceIte]
  by_cases h1 : (L.length : Int) < 1
  · simp only [h1, ↓opsA, opsB, if_true, if_false, ↓reduceIte]
    exact k0 2 w (by unfold bad; rw [if_pos (by omega)]) h
  · simp only [h1, ↓opsA, opsB, if_true, if_false, ↓reduceIte]
    by_cases h2 : (1024 : Int) < L.length
    · simp only [h2, ↓opsA, opsB, if_true, if_false, ↓reduceIte]
      exact k0 2 w (by unfold bad; rw [if_pos (by omega)]) h
    · simp only [h2, ↓opsA, opsB, if_true, if_false, ↓reduceIte]
      refine c71 ?_
      unfold B71
      refine Index_spec h hv0 (by omega) fun n w h hn => ?_
      simp only [↓opsA, opsB, if_true, if_false, ↓reduceIte]
      by_cases h3 : 0 ≤ n
      · simp only [h3, ↓opsA, opsB, if_true, if_false, ↓reduceIte]
        exact k0 3 w (by unfold bad; rw [if_neg (by omega), if_neg (hn.1 h3)]) h
      · simp only [h3, ↓opsA, opsB, if_true, if_false, ↓reduceIte]
        have hall : L.all (fun l => l.length == 256) = true := Classical.byContradiction fun hh => h3 (hn.2 hh)
        refine copied_spec h hv0 (by omega) (fun l hl => by have := List.all_eq_true.1 hall l hl; simp at this; omega) fun ov us w _ h => ?_
        obtain ⟨ao, co, rfl, _, _, _⟩ := osl_shape h
        refine pvv_of (v := .agg #[.slice ao L.length co, .slice none 0 0, .int .i64 0]) (fun _ => by kernel_rfl) ?_
        refine box_sl h fun d w h => ?_
        have h : sat E w (pts d (.cells [Value.slice ao L.length co, .slice none 0 0, .int .i64 0].toArray 107 (0, 0)) * _) := h
        refine k1 d w (by unfold bad; rw [if_neg (by omega), if_pos hall]) ?_
        have h := osl_nil h 190 2
        have h : sat E _ (pers (immAll (List.map (·.2) ([] : List (Int × Value))) (List.map (·.2) ([] : List (Int × List UInt8)))) * _) := immAll_nil h
        exact dsk_shut (lv := .slice ao L.length co) (wv := .slice none 0 0) (vs := us) (ws := []) d L [] rfl h
theorem rdd_of2 (h : sat E w H) {lv : Value} {R1 R2 : HP} (us : List Value) (L : List (List UInt8)) [s1 : OwnS H lv 22 1 L.length us R1] [s2 : Split H (pers (immAll us L)) R2] : Rdd H lv L :=
  ⟨us, Rds.own, ((h.split (pers (immAll us L))).pers_get).1, fun i u l h1 h2 => Rds.under (immAll_rds h1 h2)⟩
/-! ### Rows of one's own -/
def rows : List Value → List (List Value) → HP
  | v :: vs, xs :: xss => osl 5 1 v xs.length xs * rows vs xss
  | _, _ => Hold.emp
theorem sat_dup (φ : PP) (h : sat E w H) {R : HP} [s : Split H (pers φ) R] : sat E w (pers φ * H) := by
  have h := (h.split (pers φ)).pers_dup
  exact h.perm (by rw [s.eq])
end Go.Proofs.YtfaeklinhchidaaGreat

/-
  A log, its groups, its blocks; what cuts leave. No program in sight.
-/
set_option linter.all false
set_option maxRecDepth 100000
namespace Go.Proofs.YtfaeklinhchidaaGreat
open Go Hold
structure Lg where
  L : List Bs
  W : List (Int × Bs)
  size : Nat
  groups : Nat
  used : Nat
  a : List (Int × Int)
def Lg.pages (S : Lg) : Nat := S.L.length - S.size - 1
def Lg.place (S : Lg) (n : Nat) : Nat := match lookA S.a n with
  | some v => v.toNat
  | none => S.size + 1 + n
def wr (S : Lg) (n : Nat) (l : Bs) : Lg := { S with L := S.L.set n l, W := S.W ++ [((n : Int), S.L.getD n [])] }
def hist (S : Lg) (k : Nat) : List Bs := undo S.L (S.W.drop k)
/-! ### Deeds -/
def rangeP (S : Lg) (p : Int × Bs) : Bool := decide (p.1 < 0) || decide ((S.pages : Int) ≤ p.1)
def FormP (ps : List (Int × Bs)) : Prop := (ps.map (·.1)).Nodup ∧ ∀ p ∈ ps, p.2.length = 256
instance (ps : List (Int × Bs)) : Decidable (FormP ps) := by unfold FormP; infer_instance
def errC (S : Lg) (ps : List (Int × Bs)) : Int :=
  if ps.length = 0 then 0 else if 100 < ps.length then 6 else if ps.any (rangeP S) then 2 else if ¬ FormP ps then 3
  else if S.size - S.used < ps.length + 1 then 7 else 0
def sortP (ps : List (Int × Bs)) : List (Int × Bs) := ps.mergeSort fun x y => decide (x.1 ≤ y.1)
def step1 (S : Lg) (x : Int × Bs) (u : Nat) : Lg := { wr S u x.2 with a := putA S.a x.1 u }
def stepP : Lg → Nat → List (Int × Bs) → Lg
  | S, _, [] => S
  | S, u, x :: r => stepP (step1 S x u) (u + 1) r
def commitT (S : Lg) (ps : List (Int × Bs)) : Lg :=
  let T := stepP (wr S (S.used + 1) (idx ((sortP ps).map (·.1)))) (S.used + 2) (sortP ps)
  wr { T with used := S.used + (ps.length + 1), groups := S.groups + 1 } 0 (hdB (S.groups + 1) (S.used + (ps.length + 1)))
def commitS (S : Lg) (ps : List (Int × Bs)) : Lg := if errC S ps = 0 ∧ ps ≠ [] then commitT S ps else S
def back1 (S : Lg) (n : Int) : Lg := wr S (S.size + 1 + n.toNat) (S.L.getD (S.place n.toNat) [])
def backP : Lg → List Int → Lg
  | S, [] => S
  | S, n :: r => backP (back1 S n) r
def sortI (l : List Int) : List Int := l.mergeSort fun x y => decide (x ≤ y)
def touched (S : Lg) : List Int := sortI (S.a.map (·.1))
def checkT (S : Lg) : Lg := wr { backP S (touched S) with used := 0, a := [] } 0 (hdB S.groups 0)
def checkS (S : Lg) : Lg := if S.used = 0 then S else checkT S
theorem stepP_snoc : ∀ (qs : List (Int × Bs)) (S : Lg) (u : Nat) (x : Int × Bs), stepP S u (qs ++ [x]) = step1 (stepP S u qs) x (u + qs.length)
  | [], S, u, x => rfl
  | q :: qs, S, u, x => by
    simp only [List.cons_append, stepP, List.length_cons]
    rw [stepP_snoc qs]
    congr 1; omega
theorem backP_snoc : ∀ (l : List Int) (S : Lg) (n : Int), backP S (l ++ [n]) = back1 (backP S l) n
  | [], S, n => rfl
  | m :: l, S, n => backP_snoc l _ n
/-! ### What stays -/
theorem wr_len (S : Lg) (n : Nat) (l : Bs) : (wr S n l).L.length = S.L.length := by simp [wr]
theorem wr_W (S : Lg) (n : Nat) (l : Bs) : (wr S n l).W.length = S.W.length + 1 := by simp [wr]
theorem stepP_keep : ∀ (qs : List (Int × Bs)) (S : Lg) (u : Nat), (stepP S u qs).size = S.size ∧ (stepP S u qs).groups = S.groups ∧ (stepP S u qs).used = S.used ∧ (stepP S u qs).L.length = S.L.length ∧ (stepP S u qs).W.length = S.W.length + qs.length
  | [], S, u => ⟨rfl, rfl, rfl, rfl, rfl⟩
  | q :: qs, S, u => by
    obtain ⟨h1, h2, h3, h4, h5⟩ := stepP_keep qs (step1 S q u) (u + 1)
    simp only [stepP, List.length_cons]
    refine ⟨h1, h2, h3, h4.trans (wr_len S u q.2), ?_⟩
    rw [h5]
    have := wr_W S u q.2
    simp only [step1] at this ⊢
    omega
theorem stepP_at : ∀ (qs : List (Int × Bs)) (S : Lg) (u j : Nat), u + qs.length ≤ S.L.length → (stepP S u qs).L[j]? = if u ≤ j ∧ j < u + qs.length then (qs[j - u]?).map (·.2) else S.L[j]?
  | [], S, u, j, h => by simp [stepP]; omega
  | q :: qs, S, u, j, h => by
    simp only [List.length_cons] at h ⊢
    have e := stepP_at qs (step1 S q u) (u + 1) j (by rw [show (step1 S q u).L.length = S.L.length from wr_len S u q.2]; omega)
    simp only [stepP]
    rw [e]
    have e2 : (step1 S q u).L[j]? = if u = j then some q.2 else S.L[j]? := by
      show (S.L.set u q.2)[j]? = _
      rw [List.getElem?_set]
      split
      · rename_i h1; subst h1; rw [if_pos (by omega)]
      · rfl
    by_cases h1 : j = u
    · subst h1
      rw [if_neg (by omega), e2, if_pos rfl, if_pos (by omega)]
      simp
    · by_cases h2 : u + 1 ≤ j ∧ j < u + 1 + qs.length
      · rw [if_pos h2, if_pos (by omega), show j - u = (j - (u + 1)) + 1 by omega, List.getElem?_cons_succ]
      · rw [if_neg h2, e2, if_neg (fun e => h1 e.symm), if_neg (by omega)]
/-! ### Cuts -/
theorem hist_end (S : Lg) : hist S S.W.length = S.L := by simp [hist, undo]
theorem hist_wr (S : Lg) (n : Nat) (l : Bs) (k : Nat) (hn : n < S.L.length) (hk : k ≤ S.W.length) : hist (wr S n l) k = hist S k := by
  unfold hist wr
  simp only
  rw [List.drop_append_of_le_length hk, undo_snoc]
  congr 1
  simp only [Int.toNat_natCast, List.set_set]
  rw [List.getD_eq_getElem?_getD, List.getElem?_eq_getElem hn]
  simp
/-- At each cut from the a'th write on the blocks are so. -/
def Cutp (a : Nat) (Q : List Bs → Prop) (S : Lg) : Prop := ∀ k, a ≤ k → k ≤ S.W.length → Q (hist S k)
theorem Cutp.start {Q : List Bs → Prop} {S : Lg} (h : Q S.L) : Cutp S.W.length Q S := fun k h1 h2 => by
  rw [show k = S.W.length by omega, hist_end]; exact h
theorem Cutp.put {a : Nat} {Q : List Bs → Prop} {S : Lg} {n : Nat} {l : Bs} (h : Cutp a Q S) (hn : n < S.L.length) (hq : Q (S.L.set n l)) : Cutp a Q (wr S n l) := fun k h1 h2 => by
  rw [wr_W] at h2
  by_cases e : k = S.W.length + 1
  · rw [e, show S.W.length + 1 = (wr S n l).W.length from (wr_W S n l).symm, hist_end]; exact hq
  · rw [hist_wr S n l k hn (by omega)]; exact h k h1 (by omega)
/-- Ahead of the last write. -/
theorem Cutp.last {a : Nat} {Q : List Bs → Prop} {S : Lg} {n : Nat} {l : Bs} (h : Cutp a Q S) (hn : n < S.L.length) {k : Nat} (h1 : a ≤ k) (h2 : k < (wr S n l).W.length) : Q (hist (wr S n l) k) := by
  rw [wr_W] at h2
  rw [hist_wr S n l k hn (by omega)]; exact h k h1 (by omega)
theorem Cutp.step {a : Nat} {Q : List Bs → Prop} : ∀ (qs : List (Int × Bs)) (S : Lg) (u : Nat), Cutp a Q S → u + qs.length ≤ S.L.length →
    (∀ (L : List Bs) (j : Nat) (l : Bs), Q L → u ≤ j → j < u + qs.length → Q (L.set j l)) → Q S.L → Cutp a Q (stepP S u qs) ∧ Q (stepP S u qs).L
  | [], S, u, h, hl, hq, h0 => ⟨h, h0⟩
  | q :: qs, S, u, h, hl, hq, h0 => by
    simp only [List.length_cons] at hl hq
    have h1 : Q (S.L.set u q.2) := hq _ _ _ h0 (Nat.le_refl _) (by omega)
    exact Cutp.step qs (step1 S q u) (u + 1) (Cutp.put h (by omega) h1) (by rw [show (step1 S q u).L.length = S.L.length from wr_len S u q.2]; omega) (fun L j l hL h2 h3 => hq L j l hL (by omega) (by omega)) h1
end Go.Proofs.YtfaeklinhchidaaGreat

/-
  A log that was made by its calls: its blocks tell its groups. No program in sight.
-/
set_option linter.all false
set_option maxRecDepth 100000
namespace Go.Proofs.YtfaeklinhchidaaGreat
open Go Hold
def endOf (gs : List (List Int)) : Nat := (gs.map fun g => g.length + 1).sum
def putN : List (Int × Int) → Nat → List Int → List (Int × Int)
  | a, _, [] => a
  | a, u, n :: r => putN (putA a n u) (u + 1) r
def atFrom : List (Int × Int) → Nat → List (List Int) → List (Int × Int)
  | a, _, [] => a
  | a, n, g :: gs => atFrom (putN a (n + 2) g) (n + (g.length + 1)) gs
theorem endOf_snoc (gs : List (List Int)) (g : List Int) : endOf (gs ++ [g]) = endOf gs + (g.length + 1) := by simp [endOf]
theorem atFrom_snoc : ∀ (gs : List (List Int)) (a : List (Int × Int)) (n : Nat) (g : List Int), atFrom a n (gs ++ [g]) = putN (atFrom a n gs) (n + endOf gs + 2) g
  | [], a, n, g => by simp [atFrom, endOf]
  | h :: gs, a, n, g => by
    simp only [List.cons_append, atFrom]
    rw [atFrom_snoc gs]
    congr 1
    simp [endOf]; omega
theorem stepP_a : ∀ (qs : List (Int × Bs)) (S : Lg) (u : Nat), (stepP S u qs).a = putN S.a u (qs.map (·.1))
  | [], S, u => rfl
  | q :: qs, S, u => stepP_a qs (step1 S q u) (u + 1)
structure Grp (P : Nat) (g : List Int) : Prop where
  h1 : 1 ≤ g.length
  h2 : g.length ≤ 100
  rise : g.Pairwise (· < ·)
  all : ∀ n ∈ g, 0 ≤ n ∧ n < P
structure Rep (groups used : Nat) (gs : List (List Int)) (L : List Bs) : Prop where
  head : (L[0]? = some zeros ∧ groups = 0 ∧ gs = []) ∨ L[0]? = some (hdB groups used)
  idx : ∀ (i : Nat) (g : List Int), gs[i]? = some g → L[endOf (gs.take i) + 1]? = some (idx g)
structure LInv (S : Lg) (gs : List (List Int)) : Prop where
  wf : Wf S.L S.W
  s2 : 2 ≤ S.size
  sz : S.size + 2 ≤ S.L.length
  ue : S.used = endOf gs
  ule : S.used ≤ S.size
  a : S.a = atFrom [] 0 gs
  grp : ∀ g ∈ gs, Grp S.pages g
  rep : Rep S.groups S.used gs S.L
/-- What the map of a log's pages has. -/
structure AtOk (P u : Nat) (a : List (Int × Int)) : Prop where
  nd : (a.map (·.1)).Nodup
  all : ∀ y ∈ a, (0 ≤ y.1 ∧ y.1 < P) ∧ 1 ≤ y.2 ∧ y.2 ≤ u
theorem AtOk.puts {P u : Nat} : ∀ {g : List Int} {a : List (Int × Int)} {n : Nat}, AtOk P u a → (∀ x ∈ g, 0 ≤ x ∧ x < P) → 1 ≤ n → n + g.length ≤ u + 1 → AtOk P u (putN a n g)
  | [], a, n, h, hg, h1, h2 => h
  | x :: g, a, n, h, hg, h1, h2 => by
    simp only [List.length_cons] at h2
    refine AtOk.puts (g := g) ⟨putA_nodup h.nd, fun y hy => ?_⟩ (fun x hx => hg x (by simp [hx])) (by omega) (by omega)
    rcases putA_mem hy with rfl | hy
    · exact ⟨hg x (by simp), by simp; omega, by simp; omega⟩
    · exact h.all y hy
theorem AtOk.mono {P u v : Nat} {a : List (Int × Int)} (h : AtOk P u a) (hv : u ≤ v) : AtOk P v a := ⟨h.nd, fun y hy => by have := h.all y hy; omega⟩
theorem AtOk.from {P : Nat} : ∀ {gs : List (List Int)} {a : List (Int × Int)} {n : Nat}, AtOk P n a → (∀ g ∈ gs, Grp P g) → AtOk P (n + endOf gs) (atFrom a n gs)
  | [], a, n, h, hg => by simpa [atFrom, endOf] using h
  | g :: gs, a, n, h, hg => by
    have h1 := AtOk.puts (g := g) (n := n + 2) (h.mono (v := n + (g.length + 1)) (by omega)) (hg g (by simp)).all (by omega) (by omega)
    have h2 := AtOk.from (gs := gs) h1 fun g hg' => hg g (by simp [hg'])
    simp only [atFrom]
    rw [show n + endOf (g :: gs) = n + (g.length + 1) + endOf gs by simp [endOf]; omega]
    exact h2
theorem LInv.atOk {S : Lg} {gs : List (List Int)} (h : LInv S gs) : AtOk S.pages S.used S.a := by
  have := AtOk.from (gs := gs) (a := []) (n := 0) ⟨by simp, fun y hy => by simp at hy⟩ h.grp
  rw [Nat.zero_add] at this
  rw [h.a, h.ue]
  exact this
theorem LInv.plc {S : Lg} {gs : List (List Int)} (h : LInv S gs) {n : Nat} (hn : n < S.pages) : (1 ≤ S.place n ∧ S.place n ≤ S.used) ∨ S.place n = S.size + 1 + n := by
  unfold Lg.place
  cases e : lookA S.a n with
  | none => exact .inr rfl
  | some v => have := (h.atOk.all _ (lookA_mem e)).2; exact .inl (by simp only; omega)
theorem LInv.place_lt {S : Lg} {gs : List (List Int)} (h : LInv S gs) {n : Nat} (hn : n < S.pages) : S.place n < S.L.length := by
  have := h.plc hn; have := h.ule; have := h.sz
  unfold Lg.pages at hn
  omega
theorem endOf_take_le (gs : List (List Int)) {i : Nat} {g : List Int} (h : gs[i]? = some g) : endOf (gs.take i) + g.length + 1 ≤ endOf gs := by
  have h2 := List.take_append_drop (i + 1) gs
  have h3 : gs.take (i + 1) = gs.take i ++ [g] := by
    rw [List.take_succ, h]; rfl
  have h5 : ∀ a b : List (List Int), endOf (a ++ b) = endOf a + endOf b := fun a b => by simp [endOf]
  have h4 : endOf gs = endOf (gs.take (i + 1)) + endOf (gs.drop (i + 1)) := by rw [← h5, h2]
  rw [h4, h3, endOf_snoc]; omega
/-- Blocks that tell the same groups: those of the log's used part, and the head. -/
theorem Rep.same {G u : Nat} {gs : List (List Int)} {L M : List Bs} (h : Rep G u gs L) (hu : endOf gs ≤ u) (e : ∀ j, j ≤ u → M[j]? = L[j]?) : Rep G u gs M := by
  refine ⟨by rw [e 0 (by omega)]; exact h.head, fun i g hg => ?_⟩
  have := endOf_take_le gs hg
  rw [e _ (by omega)]
  exact h.idx i g hg
/-! ### A group that is taken -/
theorem sortP_perm (ps : List (Int × Bs)) : (sortP ps).Perm ps := List.mergeSort_perm _ _
theorem sortP_length (ps : List (Int × Bs)) : (sortP ps).length = ps.length := (sortP_perm ps).length_eq
theorem sortP_le (ps : List (Int × Bs)) : (sortP ps).Pairwise fun x y => x.1 ≤ y.1 := by
  have := List.pairwise_mergeSort (le := fun x y : Int × Bs => decide (x.1 ≤ y.1)) (by intro a b c; simp; omega) (by intro a b; simp; omega) ps
  exact this.imp (by intro a b h; simpa using h)
theorem sortP_rise {ps : List (Int × Bs)} (h : (ps.map (·.1)).Nodup) : ((sortP ps).map (·.1)).Pairwise (· < ·) := by
  have h1 : ((sortP ps).map (·.1)).Nodup := (((sortP_perm ps).map (·.1)).nodup_iff).2 h
  have h2 : ((sortP ps).map (·.1)).Pairwise (· ≤ ·) := by
    rw [List.pairwise_map]; exact sortP_le ps
  exact (h2.and h1).imp (by intro a b h; have := h.1; have := h.2; omega)
theorem sortP_unique {ps qs : List (Int × Bs)} (h : ps.Perm qs) (hn : (ps.map (·.1)).Nodup) : sortP ps = sortP qs := by
  have hq : (qs.map (·.1)).Nodup := ((h.map (·.1)).nodup_iff).1 hn
  have h1 := sortP_rise hn
  have h2 := sortP_rise hq
  rw [List.pairwise_map] at h1 h2
  exact ((sortP_perm ps).trans (h.trans (sortP_perm qs).symm)).eq_of_pairwise (fun x y _ _ a b => by omega) h1 h2
structure Taken (S : Lg) (ps : List (Int × Bs)) : Prop where
  n1 : 1 ≤ ps.length
  n2 : ps.length ≤ 100
  rg : ∀ p ∈ ps, 0 ≤ p.1 ∧ p.1 < S.pages
  form : FormP ps
  fit : S.used + (ps.length + 1) ≤ S.size
theorem errC_zero {S : Lg} {ps : List (Int × Bs)} (h : errC S ps = 0) (hn : ps ≠ []) : Taken S ps := by
  unfold errC at h
  have h0 : ps.length ≠ 0 := fun e => hn (List.length_eq_zero_iff.1 e)
  rw [if_neg h0] at h
  split at h
  · exact absurd h (by decide)
  split at h
  · exact absurd h (by decide)
  rename_i h1 h2
  split at h
  · exact absurd h (by decide)
  rename_i h3
  split at h
  · exact absurd h (by decide)
  rename_i h4
  refine ⟨by omega, by omega, fun p hp => ?_, by simpa using h3, by omega⟩
  have h2 := (List.any_eq_false.1 (by simpa using h2)) p hp
  simp only [rangeP, Bool.or_eq_true, decide_eq_true_eq] at h2
  omega
/-- The state ahead of the head's write. -/
def midT (S : Lg) (ps : List (Int × Bs)) : Lg :=
  { stepP (wr S (S.used + 1) (idx ((sortP ps).map (·.1)))) (S.used + 2) (sortP ps) with used := S.used + (ps.length + 1), groups := S.groups + 1 }
theorem commitT_mid (S : Lg) (ps : List (Int × Bs)) : commitT S ps = wr (midT S ps) 0 (hdB (S.groups + 1) (S.used + (ps.length + 1))) := rfl
theorem midT_len (S : Lg) (ps : List (Int × Bs)) : (midT S ps).L.length = S.L.length ∧ (midT S ps).W.length = S.W.length + ps.length + 1 := by
  obtain ⟨_, _, _, h1, h2⟩ := stepP_keep (sortP ps) (wr S (S.used + 1) (idx ((sortP ps).map (·.1)))) (S.used + 2)
  refine ⟨h1.trans (wr_len _ _ _), ?_⟩
  show (stepP _ _ _).W.length = _
  rw [h2, wr_W, sortP_length]; omega
theorem commitT_len (S : Lg) (ps : List (Int × Bs)) : (commitT S ps).L.length = S.L.length ∧ (commitT S ps).W.length = S.W.length + ps.length + 2 := by
  rw [commitT_mid]
  obtain ⟨h1, h2⟩ := midT_len S ps
  exact ⟨(wr_len _ _ _).trans h1, by rw [wr_W, h2]⟩
theorem commitT_size (S : Lg) (ps : List (Int × Bs)) : (commitT S ps).size = S.size := by
  show (stepP _ _ _).size = _
  rw [(stepP_keep _ _ _).1]; rfl
theorem commitT_used (S : Lg) (ps : List (Int × Bs)) : (commitT S ps).used = S.used + (ps.length + 1) := rfl
theorem commitT_groups (S : Lg) (ps : List (Int × Bs)) : (commitT S ps).groups = S.groups + 1 := rfl
theorem commitT_pages (S : Lg) (ps : List (Int × Bs)) : (commitT S ps).pages = S.pages := by
  unfold Lg.pages; rw [(commitT_len S ps).1, commitT_size]
theorem midT_at (S : Lg) (ps : List (Int × Bs)) (h : S.used + 2 + ps.length ≤ S.L.length) (j : Nat) : (midT S ps).L[j]? =
    if S.used + 2 ≤ j ∧ j < S.used + 2 + ps.length then ((sortP ps)[j - (S.used + 2)]?).map (·.2) else if j = S.used + 1 then some (idx ((sortP ps).map (·.1))) else S.L[j]? := by
  show (stepP _ _ _).L[j]? = _
  rw [stepP_at _ _ _ _ (by rw [sortP_length, wr_len]; exact h), sortP_length]
  split
  · rfl
  · show (S.L.set (S.used + 1) _)[j]? = _
    rw [List.getElem?_set]
    by_cases e : j = S.used + 1
    · rw [if_pos e.symm, if_pos (by omega), if_pos e]
    · rw [if_neg (fun h => e h.symm), if_neg e]
theorem Wf.put {S : Lg} (h : Wf S.L S.W) {n : Nat} {l : Bs} (hn : n < S.L.length) (hl : l.length = 256) : Wf (wr S n l).L (wr S n l).W := by
  refine ⟨by rw [wr_len]; exact h.pos, by rw [wr_len]; exact h.le, fun x hx => ?_, fun p hp => ?_⟩
  · rcases List.mem_or_eq_of_mem_set hx with hx | rfl
    · exact h.l x hx
    · exact hl
  · rw [wr_len]
    rcases List.mem_append.1 hp with hp | hp
    · exact h.w p hp
    · simp at hp; subst hp
      refine ⟨by simp, by simp; omega, ?_⟩
      simp only [List.getElem?_eq_getElem hn, Option.getD_some]
      exact h.l _ (List.getElem_mem _)
theorem Wf.steps : ∀ {qs : List (Int × Bs)} {S : Lg} {u : Nat}, Wf S.L S.W → u + qs.length ≤ S.L.length → (∀ q ∈ qs, q.2.length = 256) → Wf (stepP S u qs).L (stepP S u qs).W
  | [], S, u, h, hl, hq => h
  | q :: qs, S, u, h, hl, hq => by
    simp only [List.length_cons] at hl
    exact Wf.steps (qs := qs) (S := step1 S q u) (Wf.put h (by omega) (hq q (by simp))) (by rw [show (step1 S q u).L.length = S.L.length from wr_len S u q.2]; omega) fun x hx => hq x (by simp [hx])
theorem Taken.fmap {S : Lg} {ps : List (Int × Bs)} (h : Taken S ps) : Grp S.pages ((sortP ps).map (·.1)) := by
  refine ⟨by rw [List.length_map, sortP_length]; exact h.n1, by rw [List.length_map, sortP_length]; exact h.n2, sortP_rise h.form.1, fun n hn => ?_⟩
  obtain ⟨p, hp, rfl⟩ := List.mem_map.1 hn
  exact h.rg p ((sortP_perm ps).mem_iff.1 hp)
theorem LInv.mid {S : Lg} {gs : List (List Int)} (h : LInv S gs) {ps : List (Int × Bs)} (t : Taken S ps) : Wf (midT S ps).L (midT S ps).W := by
  have h1 := h.sz; have h2 := t.fit
  have h3 : (idx ((sortP ps).map (·.1))).length = 256 := idx_length t.fmap.h2
  exact Wf.steps (Wf.put h.wf (by omega) h3) (by rw [sortP_length, wr_len]; omega) fun q hq => t.form.2 q ((sortP_perm ps).mem_iff.1 hq)
theorem LInv.commit {S : Lg} {gs : List (List Int)} (h : LInv S gs) {ps : List (Int × Bs)} (t : Taken S ps) : LInv (commitT S ps) (gs ++ [(sortP ps).map (·.1)]) := by
  have h1 := h.sz; have h2 := t.fit
  have hl := (commitT_len S ps).1
  have hg : ((sortP ps).map (·.1)).length = ps.length := by rw [List.length_map, sortP_length]
  have hm := midT_at S ps (by omega)
  have he := h.ue
  have hc : ∀ j, 1 ≤ j → (commitT S ps).L[j]? = (midT S ps).L[j]? := fun j hj => by
    rw [commitT_mid]
    show ((midT S ps).L.set 0 _)[j]? = _
    rw [List.getElem?_set_ne (by omega)]
  refine ⟨?_, by rw [commitT_size]; exact h.s2, by rw [commitT_size, hl]; exact h1, by rw [commitT_used, endOf_snoc, hg, he], by rw [commitT_used, commitT_size]; exact h2, ?_, ?_, ?_, ?_⟩
  · rw [commitT_mid]
    exact Wf.put (h.mid t) (by rw [(midT_len S ps).1]; omega) (hdB_length _ _)
  · show (stepP _ _ _).a = _
    rw [stepP_a, atFrom_snoc, Nat.zero_add, ← he]
    show putN S.a _ _ = _
    rw [h.a]
  · intro g hg'
    rw [commitT_pages]
    rcases List.mem_append.1 hg' with hg' | hg'
    · exact h.grp g hg'
    · simp at hg'; subst hg'; exact t.fmap
  · refine .inr ?_
    rw [commitT_mid]
    show ((midT S ps).L.set 0 _)[0]? = _
    rw [List.getElem?_set_self (by rw [(midT_len S ps).1]; omega)]
    rfl
  · intro i g hg'
    rcases Nat.lt_trichotomy i gs.length with hi | hi | hi
    · rw [List.getElem?_append_left hi] at hg'
      have := endOf_take_le gs hg'
      rw [List.take_append_of_le_length (by omega), hc _ (by omega), hm, if_neg (by omega), if_neg (by omega)]
      exact h.rep.idx i g hg'
    · subst hi
      rw [List.getElem?_append_right (Nat.le_refl _), Nat.sub_self] at hg'
      simp only [List.getElem?_cons_zero, Option.some.injEq] at hg'
      subst hg'
      rw [List.take_left, ← he, hc _ (by omega), hm, if_neg (by omega), if_pos rfl]
    · rw [List.getElem?_eq_none (by simp; omega)] at hg'; cases hg'
end Go.Proofs.YtfaeklinhchidaaGreat

/-
  Checkpoints; what is read behind a cut. No program in sight.
-/
set_option linter.all false
set_option maxRecDepth 100000
namespace Go.Proofs.YtfaeklinhchidaaGreat
open Go Hold
def Lg.view (S : Lg) (n : Nat) : Bs := S.L.getD (S.place n) []
def Lg.all (S : Lg) : List Bs := (List.range S.pages).map S.view
theorem backP_keep : ∀ (l : List Int) (S : Lg), (backP S l).size = S.size ∧ (backP S l).groups = S.groups ∧ (backP S l).used = S.used ∧ (backP S l).a = S.a ∧ (backP S l).L.length = S.L.length ∧ (backP S l).W.length = S.W.length + l.length
  | [], S => ⟨rfl, rfl, rfl, rfl, rfl, rfl⟩
  | n :: l, S => by
    obtain ⟨h1, h2, h3, h4, h5, h6⟩ := backP_keep l (back1 S n)
    refine ⟨h1, h2, h3, h4, h5.trans (wr_len _ _ _), ?_⟩
    simp only [backP, h6, List.length_cons]
    have : (back1 S n).W.length = S.W.length + 1 := wr_W _ _ _
    omega
theorem place_of {S T : Lg} (h1 : T.a = S.a) (h2 : T.size = S.size) (n : Nat) : T.place n = S.place n := by
  unfold Lg.place; rw [h1, h2]
/-- A page that the log has. -/
structure Has1 (S : Lg) (n : Int) : Prop where
  a : 0 ≤ n
  b : n < S.pages
  c : S.place n.toNat ≤ S.size
theorem back_at : ∀ (l : List Int) (S : Lg) (j : Nat), S.size + 1 ≤ S.L.length → (∀ n ∈ l, Has1 S n) →
    (backP S l).L[j]? = if S.size + 1 ≤ j ∧ ((j - S.size - 1 : Nat) : Int) ∈ l then some (S.view (j - S.size - 1)) else S.L[j]?
  | [], S, j, hs, h => by simp [backP]
  | n :: l, S, j, hs, h => by
    have hn := h n (by simp)
    have hnl : S.size + 1 + n.toNat < S.L.length := by have := hn.a; have := hn.b; unfold Lg.pages at this; omega
    have hv : ∀ m : Nat, Has1 S m → (back1 S n).view m = S.view m := fun m hm => by
      unfold Lg.view
      rw [place_of (S := S) (T := back1 S n) rfl rfl]
      show (S.L.set _ _).getD _ _ = _
      rw [List.getD_eq_getElem?_getD, List.getElem?_set_ne (by have := hm.c; simp only [Int.toNat_natCast] at this; omega), ← List.getD_eq_getElem?_getD]
    have ih := back_at l (back1 S n) j (by rw [show (back1 S n).L.length = S.L.length from wr_len _ _ _]; exact hs) (fun m hm => by
      have := h m (by simp [hm])
      exact ⟨this.a, by unfold Lg.pages; rw [show (back1 S n).L.length = S.L.length from wr_len _ _ _]; exact this.b, by rw [place_of (S := S) (T := back1 S n) rfl rfl]; exact this.c⟩)
    simp only [backP]
    have es : (back1 S n).size = S.size := rfl
    rw [ih, es]
    by_cases h1 : S.size + 1 ≤ j ∧ ((j - S.size - 1 : Nat) : Int) ∈ l
    · rw [if_pos h1, if_pos ⟨h1.1, by simp [h1.2]⟩]
      exact congrArg some (hv _ (h _ (by simp [h1.2])))
    · rw [if_neg h1]
      show (S.L.set _ _)[j]? = _
      by_cases h2 : S.size + 1 + n.toNat = j
      · subst h2
        have e : S.size + 1 + n.toNat - S.size - 1 = n.toNat := by omega
        rw [List.getElem?_set_self hnl, if_pos ⟨by omega, by rw [e]; have := hn.a; simp; left; omega⟩, e]
        rfl
      · rw [List.getElem?_set_ne h2, if_neg]
        rintro ⟨h3, h4⟩
        rcases List.mem_cons.1 h4 with h4 | h4
        · exact h2 (by omega)
        · exact h1 ⟨h3, h4⟩
theorem sortI_mem {l : List Int} {n : Int} : n ∈ sortI l ↔ n ∈ l := (List.mergeSort_perm _ _).mem_iff
theorem sortI_length (l : List Int) : (sortI l).length = l.length := List.length_mergeSort l
theorem LInv.has {S : Lg} {gs : List (List Int)} (h : LInv S gs) {n : Int} (hn : n ∈ touched S) : Has1 S n := by
  unfold touched at hn
  rw [sortI_mem] at hn
  obtain ⟨v, hv⟩ := lookA_of hn
  have := h.atOk.all _ (lookA_mem hv)
  have hu := h.ule
  refine ⟨this.1.1, this.1.2, ?_⟩
  unfold Lg.place
  rw [Int.toNat_of_nonneg this.1.1, hv]
  simp only at this ⊢; omega
theorem LInv.untouched {S : Lg} {gs : List (List Int)} (h : LInv S gs) {n : Nat} (hn : (n : Int) ∉ touched S) : S.place n = S.size + 1 + n := by
  unfold touched at hn
  rw [sortI_mem] at hn
  unfold Lg.place
  rw [lookA_none hn]
theorem putA_ne (l : List (Int × Int)) (k v : Int) : putA l k v ≠ [] := by
  cases l with
  | nil => simp [putA]
  | cons x r => unfold putA; split <;> simp
theorem putN_ne : ∀ (g : List Int) (a : List (Int × Int)) (n : Nat), a ≠ [] ∨ g ≠ [] → putN a n g ≠ []
  | [], a, n, h => by simpa [putN] using h
  | x :: g, a, n, h => putN_ne g _ _ (.inl (putA_ne _ _ _))
theorem atFrom_ne {P : Nat} : ∀ (gs : List (List Int)) (a : List (Int × Int)) (n : Nat), (∀ g ∈ gs, Grp P g) → a ≠ [] ∨ gs ≠ [] → atFrom a n gs ≠ []
  | [], a, n, h, hn => by simpa [atFrom] using hn
  | g :: gs, a, n, h, hn => atFrom_ne gs _ _ (fun g hg => h g (by simp [hg])) (.inl (putN_ne _ _ _ (.inr fun e => by
      have := (h g (by simp)).h1
      rw [e] at this; simp at this)))
theorem LInv.empty_iff {S : Lg} {gs : List (List Int)} (h : LInv S gs) : S.used = 0 ↔ S.a = [] := by
  constructor
  · intro e
    have : gs = [] := by
      cases gs with
      | nil => rfl
      | cons g gs => have := h.ue; simp [endOf] at this; omega
    rw [h.a, this]; rfl
  · intro e
    cases gs with
    | nil => rw [h.ue]; rfl
    | cons g gs => exact absurd (h.a.symm.trans e) (atFrom_ne _ _ _ h.grp (.inr (by simp)))
def midC (S : Lg) : Lg := { backP S (touched S) with used := 0, a := [] }
theorem checkT_mid (S : Lg) : checkT S = wr (midC S) 0 (hdB S.groups 0) := rfl
theorem midC_len (S : Lg) : (midC S).L.length = S.L.length ∧ (midC S).W.length = S.W.length + S.a.length := by
  obtain ⟨_, _, _, _, h1, h2⟩ := backP_keep (touched S) S
  refine ⟨h1, ?_⟩
  show (backP S (touched S)).W.length = _
  rw [h2]; unfold touched; rw [sortI_length, List.length_map]
theorem checkT_len (S : Lg) : (checkT S).L.length = S.L.length ∧ (checkT S).W.length = S.W.length + S.a.length + 1 := by
  rw [checkT_mid]
  obtain ⟨h1, h2⟩ := midC_len S
  exact ⟨(wr_len _ _ _).trans h1, by rw [wr_W, h2]⟩
theorem checkT_size (S : Lg) : (checkT S).size = S.size := (backP_keep (touched S) S).1
theorem checkT_pages (S : Lg) : (checkT S).pages = S.pages := by
  unfold Lg.pages; rw [(checkT_len S).1, checkT_size]
theorem Wf.backs : ∀ {l : List Int} {S : Lg}, Wf S.L S.W → (∀ n ∈ l, Has1 S n) → S.size + 1 ≤ S.L.length → Wf (backP S l).L (backP S l).W
  | [], S, h, hl, hs => h
  | n :: l, S, h, hl, hs => by
    have hn := hl n (by simp)
    have hnl : S.size + 1 + n.toNat < S.L.length := by have := hn.a; have := hn.b; unfold Lg.pages at this; omega
    refine Wf.backs (l := l) (S := back1 S n) (Wf.put h hnl ?_) (fun m hm => ?_) ?_
    · have : S.place n.toNat < S.L.length := by have := hn.c; omega
      rw [List.getD_eq_getElem?_getD, List.getElem?_eq_getElem this]
      exact h.l _ (List.getElem_mem _)
    · have := hl m (by simp [hm])
      exact ⟨this.a, by unfold Lg.pages; rw [show (back1 S n).L.length = S.L.length from wr_len _ _ _]; exact this.b, by rw [place_of (S := S) (T := back1 S n) rfl rfl]; exact this.c⟩
    · rw [show (back1 S n).L.length = S.L.length from wr_len _ _ _]; exact hs
theorem LInv.check {S : Lg} {gs : List (List Int)} (h : LInv S gs) : LInv (checkT S) [] := by
  have h1 := h.sz
  have hl := (checkT_len S).1
  refine ⟨?_, by rw [checkT_size]; exact h.s2, by rw [checkT_size, hl]; exact h1, rfl, Nat.zero_le _, rfl, fun g hg => by simp at hg, ⟨.inr ?_, fun i g hg => by simp at hg⟩⟩
  · rw [checkT_mid]
    exact Wf.put (Wf.backs h.wf (fun n hn => h.has hn) (by omega)) (by have := (midC_len S).1; show 0 < (midC S).L.length; omega) (hdB_length _ _)
  · rw [checkT_mid]
    show ((midC S).L.set 0 _)[0]? = _
    rw [List.getElem?_set_self (by rw [(midC_len S).1]; omega)]
    rw [show (wr (midC S) 0 (hdB S.groups 0)).groups = S.groups from (backP_keep (touched S) S).2.1]
    rfl
theorem LInv.check_view {S : Lg} {gs : List (List Int)} (h : LInv S gs) (n : Nat) : (checkT S).view n = S.view n := by
  have h1 := h.sz
  have e : (checkT S).place n = S.size + 1 + n := by
    unfold Lg.place
    rw [checkT_size]
    rfl
  unfold Lg.view
  rw [e, checkT_mid]
  show ((midC S).L.set 0 _).getD _ _ = _
  rw [List.getD_eq_getElem?_getD, List.getElem?_set_ne (by omega)]
  show ((backP S (touched S)).L[_]?).getD _ = _
  rw [back_at _ _ _ (by omega) (fun n hn => h.has hn), show S.size + 1 + n - S.size - 1 = n by omega]
  by_cases ht : (n : Int) ∈ touched S
  · rw [if_pos ⟨by omega, ht⟩]; rfl
  · rw [if_neg (fun e => ht e.2), ← h.untouched ht, List.getD_eq_getElem?_getD]
/-! ### Blocks that are read alike -/
structure Alike (S : Lg) (gs : List (List Int)) (L : List Bs) : Prop where
  len : L.length = S.L.length
  l : ∀ x ∈ L, x.length = 256
  rep : Rep S.groups S.used gs L
  view : ∀ n, n < S.pages → L.getD (S.place n) [] = S.view n
theorem LInv.alike {S : Lg} {gs : List (List Int)} (h : LInv S gs) : Alike S gs S.L := ⟨rfl, h.wf.l, h.rep, fun n _ => rfl⟩
theorem Alike.set {S : Lg} {gs : List (List Int)} {L : List Bs} (h : Alike S gs L) (hu : endOf gs ≤ S.used) {j : Nat} {l : Bs} (h1 : S.used < j) (h3 : l.length = 256) (h4 : ∀ n, n < S.pages → S.place n ≠ j) : Alike S gs (L.set j l) := by
  refine ⟨by rw [List.length_set]; exact h.len, fun x hx => ?_, h.rep.same hu fun i hi => by rw [List.getElem?_set_ne (by omega)], fun n hn => ?_⟩
  · rcases List.mem_or_eq_of_mem_set hx with hx | rfl
    · exact h.l x hx
    · exact h3
  · rw [← h.view n hn, List.getD_eq_getElem?_getD, List.getD_eq_getElem?_getD, List.getElem?_set_ne (fun e => h4 n hn e.symm)]
/-- What is opened from such blocks. -/
def ofL (S : Lg) (L : List Bs) : Lg := { S with L := L, W := [] }
theorem Alike.inv {S : Lg} {gs : List (List Int)} {L : List Bs} (h : Alike S gs L) (i : LInv S gs) : LInv (ofL S L) gs :=
  ⟨⟨by show 1 ≤ L.length; rw [h.len]; exact i.wf.pos, by show L.length ≤ 1024; rw [h.len]; exact i.wf.le, h.l, fun p hp => by cases hp⟩, i.s2, by show S.size + 2 ≤ L.length; rw [h.len]; exact i.sz, i.ue, i.ule, i.a,
    fun g hg => by show Grp (L.length - S.size - 1) g; rw [h.len]; exact i.grp g hg, h.rep⟩
theorem Alike.all {S : Lg} {gs : List (List Int)} {L : List Bs} (h : Alike S gs L) : (ofL S L).all = S.all := by
  unfold Lg.all
  have e : (ofL S L).pages = S.pages := by unfold Lg.pages; show L.length - S.size - 1 = _; rw [h.len]
  rw [e]
  exact List.map_congr_left fun n hn => h.view n (List.mem_range.1 hn)
end Go.Proofs.YtfaeklinhchidaaGreat
