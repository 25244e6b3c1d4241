/-
  A deed on both logs; all pages of a log.
-/
import Derived.Test.YtgkeplodfkmnlaaGreatDskS
import Derived.Test.YtgkeplodfkmnlaaGreatWalT
import Derived.Lib.SmallJoins
set_option linter.all false
set_option maxRecDepth 100000
namespace Go.Proofs.YtgkeplodfkmnlaaGreat
open Go Hold
variable {E : World0} {w : World} {H R X : HP} {K : Value → World → Prop}
def doS (S : Lg) (x : Dd) : Lg := if x.chk = true then checkS S else commitS S x.pgs
/-- Both logs, behind so many deeds. -/
structure Both (S : Lg) (gs : List (List Int)) (F : List Bs) (V : List (Int × Bs)) (head full N m : Nat) : Prop where
  f : Far S gs N m
  ri : RInv F V N full
  fl : F.length = N + 10
  fu : full = S.used
  vl : V.length ≤ 2000 * m
  hd : head ≤ m
theorem Both.pages {S : Lg} {gs : List (List Int)} {F : List Bs} {V : List (Int × Bs)} {head full N m : Nat} (h : Both S gs F V head full N m) : S.pages = F.length - N - 1 := by
  unfold Lg.pages; rw [h.f.len, h.f.size, h.fl]
theorem check_used (S : Lg) : (checkS S).used = 0 := by
  unfold checkS
  split
  · assumption
  · rfl
theorem Both.check {S : Lg} {gs : List (List Int)} {F : List Bs} {V V' : List (Int × Bs)} {head full N m : Nat} (h : Both S gs F V head full N m) (i : RInv F V' N 0) (hv : V'.length ≤ V.length + 1100) : ∃ gs', Both (checkS S) gs' F V' head 0 N (m + 1) := by
  obtain ⟨gs', f'⟩ := h.f.check
  exact ⟨gs', f', i, h.fl, (check_used S).symm, by have := h.vl; omega, by have := h.hd; omega⟩
theorem Both.commit {S : Lg} {gs : List (List Int)} {F : List Bs} {V V' : List (Int × Bs)} {head head' full full' N m : Nat} (h : Both S gs F V head full N m) (ps : List (Int × Bs)) (i : RInv F V' N full') (hv : V'.length ≤ V.length + 110) (hh : head' ≤ head + 1) (hf : full' = (commitS S ps).used) : ∃ gs', Both (commitS S ps) gs' F V' head' full' N (m + 1) := by
  obtain ⟨gs', f'⟩ := h.f.commit ps
  exact ⟨gs', f', i, h.fl, hf, by have := h.vl; omega, by have := h.hd; omega⟩
theorem Do_spec {p d b mm r : Nat} {S : Lg} {gs : List (List Int)} {F : List Bs} {V : List (Int × Bs)} {head full N m : Nat} (B : Both S gs F V head full N m) (hm : m ≤ 60) (h : sat E w (lgI p d b S (rlI mm r F V N head full R))) (x : Dd) (ok : OkD R x)
    (k : ∀ gs' V' head' full' w', Both (doS S x) gs' F V' head' full' N (m + 1) → sat E w' (lgI p d b (doS S x) (rlI mm r F V' N head' full' R)) → K (.bool true) w') :
    Calls prog 9 #[.pointer (some ⟨p, 0, none⟩), .pointer (some ⟨mm, 0, none⟩), .agg (dcells x).toArray] w (Ret K) := by
  have hfl := B.f.len; have hfw := B.f.w; have hfg := B.f.g; have hfew := B.f.i.few; have hvl := B.vl; have hhd := B.hd
  refine c9 ?_
  unfold B9
  refine box_sl h fun xb w h => ?_
  have h : sat E w (pts xb (.cells (dcells x).toArray 31 (0, 0)) * lgI p d b S (rlI mm r F V N head full R)) := h
  try simp only [↓o_nil, ↓o_field, ↓o_add, ↓o_sub, ↓o_mul, ↓o_lss, ↓o_leq, ↓o_gtr, ↓o_geq, ↓o_not, ↓o_pick, ↓o_eqInt, ↓o_neInt, ↓o_eqBool, ↓o_neBool, ↓o_eqPtr, ↓o_nePtr, ↓o_eqPtr', ↓o_eqSl, ↓o_neSl, ↓o_eqStr, ↓o_neStr, ↓o_len, ↓o_lenS, ↓o_min, ↓o_max, ↓o_extract, ↓o_convInt, ↓cd_true, ↓cd_false, ↓gate_tt, ↓gate_ff, ↓gate_tf, ↓gate_ft, ↓gate_undef, ↓o_bind, ↓stay_v, ↓pop_cons, ↓fin_nil, Option.isNone_none, Option.isNone_some, Bool.not_true, Bool.not_false, Nat.zero_add, decide_true, decide_false, if_true, if_false, Bool.false_eq_true, ↓reduceIte]
  refine ld_in (b := xb) (v := .bool x.chk) h rfl ?_
  cases hchk : x.chk with
  | true =>
    have hdo : doS S x = checkS S := by unfold doS; rw [if_pos hchk]
    rw [hdo] at k
    try simp only [↓o_nil, ↓o_field, ↓o_add, ↓o_sub, ↓o_mul, ↓o_lss, ↓o_leq, ↓o_gtr, ↓o_geq, ↓o_not, ↓o_pick, ↓o_eqInt, ↓o_neInt, ↓o_eqBool, ↓o_neBool, ↓o_eqPtr, ↓o_nePtr, ↓o_eqPtr', ↓o_eqSl, ↓o_neSl, ↓o_eqStr, ↓o_neStr, ↓o_len, ↓o_lenS, ↓o_min, ↓o_max, ↓o_extract, ↓o_convInt, ↓cd_true, ↓cd_false, ↓gate_tt, ↓gate_ff, ↓gate_tf, ↓gate_ft, ↓gate_undef, ↓o_bind, ↓stay_v, ↓pop_cons, ↓fin_nil, Option.isNone_none, Option.isNone_some, Bool.not_true, Bool.not_false, Nat.zero_add, decide_true, decide_false, if_true, if_false, Bool.false_eq_true, ↓reduceIte]
    refine Check_spec B.f.i (lg_in h) (by omega) fun w h => ?_
    have h : sat E w (rlI mm r F V N head full (pts xb (.cells (dcells x).toArray 31 (0, 0)) * lgI p d b (checkS S) R)) := by
      unfold lgI rlI at h ⊢
      exact h.perm (by ac_rfl)
    refine rCheck_weak h B.ri (by omega) fun V' w ri' hV' h => ?_
    obtain ⟨gs', B'⟩ := B.check ri' hV'
    simp only [decide_true, ↓o_nil, ↓o_field, ↓o_add, ↓o_sub, ↓o_mul, ↓o_lss, ↓o_leq, ↓o_gtr, ↓o_geq, ↓o_not, ↓o_pick, ↓o_eqInt, ↓o_neInt, ↓o_eqBool, ↓o_neBool, ↓o_eqPtr, ↓o_nePtr, ↓o_eqPtr', ↓o_eqSl, ↓o_neSl, ↓o_eqStr, ↓o_neStr, ↓o_len, ↓o_lenS, ↓o_min, ↓o_max, ↓o_extract, ↓o_convInt, ↓cd_true, ↓cd_false, ↓gate_tt, ↓gate_ff, ↓gate_tf, ↓gate_ft, ↓gate_undef, ↓o_bind, ↓stay_v, ↓pop_cons, ↓fin_nil, Option.isNone_none, Option.isNone_some, Bool.not_true, Bool.not_false, Nat.zero_add, decide_true, decide_false, if_true, if_false, Bool.false_eq_true, ↓reduceIte]
    refine k gs' V' head 0 w B' ?_
    unfold lgI rlI at h ⊢
    exact (h.perm (show _ = pts xb (.cells (dcells x).toArray 31 (0, 0)) * (pts p (.cells (lcells (checkS S) d b).toArray 70 (0, 0)) * (dsk d (checkS S).L (checkS S).W * (omap b (mpA (checkS S).a) * (pts mm (.cells (rcells r N head 0).toArray 108 (0, 0)) * (rdsk r F V' * R))))) by ac_rfl)).drop
  | false =>
    have hdo : doS S x = commitS S x.pgs := by unfold doS; rw [if_neg (by rw [hchk]; simp)]
    rw [hdo] at k
    try simp only [↓o_nil, ↓o_field, ↓o_add, ↓o_sub, ↓o_mul, ↓o_lss, ↓o_leq, ↓o_gtr, ↓o_geq, ↓o_not, ↓o_pick, ↓o_eqInt, ↓o_neInt, ↓o_eqBool, ↓o_neBool, ↓o_eqPtr, ↓o_nePtr, ↓o_eqPtr', ↓o_eqSl, ↓o_neSl, ↓o_eqStr, ↓o_neStr, ↓o_len, ↓o_lenS, ↓o_min, ↓o_max, ↓o_extract, ↓o_convInt, ↓cd_true, ↓cd_false, ↓gate_tt, ↓gate_ff, ↓gate_tf, ↓gate_ft, ↓gate_undef, ↓o_bind, ↓stay_v, ↓pop_cons, ↓fin_nil, Option.isNone_none, Option.isNone_some, Bool.not_true, Bool.not_false, Nat.zero_add, decide_true, decide_false, if_true, if_false, Bool.false_eq_true, ↓reduceIte]
    refine ld_agg (b := xb) h rfl ?_
    have hokx : ∀ {Y : HP}, OkD (Y * R) x := fun {Y} => ⟨ok.rd.right, ok.len⟩
    have h : sat E w ((pts xb (.cells (dcells x).toArray 31 (0, 0)) * (pts p (.cells (lcells S d b).toArray 70 (0, 0)) * (dsk d S.L S.W * (omap b (mpA S.a) * (pts mm (.cells (rcells r N head full).toArray 108 (0, 0)) * rdsk r F V))))) * R) := by
      unfold lgI rlI at h
      exact h.perm (by ac_rfl)
    refine pages_spec h x hokx fun pv qs w hq h => ?_
    have h : sat E w (lgI p d b S (osl 65 2 pv x.pgs.length (wcells qs) * (rows (qs.map (·.2)) (bcells (x.pgs.map (·.2))) * (pts xb (.cells (dcells x).toArray 31 (0, 0)) * rlI mm r F V N head full R)))) := by
      unfold lgI rlI
      exact h.perm (by ac_rfl)
    refine dr_sl h fun w h _ => ?_
    unfold lgI at h
    refine ld_agg (b := xb) h rfl ?_
    refine Commit_spec B.f.i (by unfold lgI; exact h) (RdP.of hq) (by omega) (by omega) fun w h => ?_
    unfold lgI at h
    refine st_agg (b := xb) h rfl ?_
    generalize hS1 : commitS S x.pgs = S1 at h k
    have h : sat E w ((osl 65 2 pv x.pgs.length (wcells qs) * (rows (qs.map (·.2)) (bcells (x.pgs.map (·.2))) * (pts xb (.cells (dcells x).toArray 31 (0, 0)) * (pts p (.cells (lcells S1 d b).toArray 70 (0, 0)) * (dsk d S1.L S1.W * (omap b (mpA S1.a) * (pts mm (.cells (rcells r N head full).toArray 108 (0, 0)) * rdsk r F V))))))) * R) := by
      unfold rlI at h
      exact h.perm (by ac_rfl)
    refine pages_spec h x hokx fun pv2 qs2 w hq2 h => ?_
    have h : sat E w (rlI mm r F V N head full (osl 65 2 pv2 x.pgs.length (wcells qs2) * (rows (qs2.map (·.2)) (bcells (x.pgs.map (·.2))) * (osl 65 2 pv x.pgs.length (wcells qs) * (rows (qs.map (·.2)) (bcells (x.pgs.map (·.2))) * (pts xb (.cells (dcells x).toArray 31 (0, 0)) * lgI p d b S1 R)))))) := by
      unfold lgI rlI
      exact h.perm (by ac_rfl)
    refine rCommit_weak h B.ri (RdP.of hq2) (by omega) (by omega) (S := S) B.pages B.f.size B.fu.symm fun V' head' full' w ri' hV' hh' hf' h => ?_
    obtain ⟨gs', B'⟩ := B.commit x.pgs ri' hV' hh' hf'
    rw [hS1] at B'
    unfold rlI at h
    refine st_agg (b := xb) h rfl ?_
    simp only [decide_true, ↓o_nil, ↓o_field, ↓o_add, ↓o_sub, ↓o_mul, ↓o_lss, ↓o_leq, ↓o_gtr, ↓o_geq, ↓o_not, ↓o_pick, ↓o_eqInt, ↓o_neInt, ↓o_eqBool, ↓o_neBool, ↓o_eqPtr, ↓o_nePtr, ↓o_eqPtr', ↓o_eqSl, ↓o_neSl, ↓o_eqStr, ↓o_neStr, ↓o_len, ↓o_lenS, ↓o_min, ↓o_max, ↓o_extract, ↓o_convInt, ↓cd_true, ↓cd_false, ↓gate_tt, ↓gate_ff, ↓gate_tf, ↓gate_ft, ↓gate_undef, ↓o_bind, ↓stay_v, ↓pop_cons, ↓fin_nil, Option.isNone_none, Option.isNone_some, Bool.not_true, Bool.not_false, Nat.zero_add, decide_true, decide_false, if_true, if_false, Bool.false_eq_true, ↓reduceIte]
    have hqn : qs.length = x.pgs.length := by have := congrArg List.length hq; simpa using this
    have hpn : x.pgs.length ≤ 102 := by rw [Dd.pgs_length]; omega
    have h := (h.perm (show _ = osl 65 2 pv2 x.pgs.length (wcells qs2) * (rows (qs2.map (·.2)) (bcells (x.pgs.map (·.2))) * (pts xb (.cells (dcells x).toArray 31 (0, 0)) * (osl 65 2 pv x.pgs.length (wcells qs) * (rows (qs.map (·.2)) (bcells (x.pgs.map (·.2))) * lgI p d b S1 (rlI mm r F V' N head' full' R))))) by unfold lgI rlI; ac_rfl)).drop.drop.drop
    obtain ⟨ap, cp, rfl, _, _, _⟩ := osl_shape h
    have hwl := wcells_length qs
    generalize hY : lgI p d b S1 (rlI mm r F V' N head' full' R) = Y at h
    have hlens : ∀ (i : Nat) xs, (bcells (x.pgs.map (·.2)))[i]? = some xs → xs.length ≤ 256 := fun i xs hx => by
      unfold bcells at hx
      rw [List.getElem?_map] at hx
      obtain ⟨y, hy, rfl⟩ := Option.map_eq_some_iff.1 hx
      rw [List.getElem?_map] at hy
      obtain ⟨z, hz, rfl⟩ := Option.map_eq_some_iff.1 hy
      unfold Dd.pgs at hz
      rw [List.getElem?_mapIdx] at hz
      obtain ⟨u, _, rfl⟩ := Option.map_eq_some_iff.1 hz
      rw [List.length_map]; exact row_len x i
    refine lp_nat (fun q σ w => ∃ (i : Nat) (xss : List (List Value)), σ = [.int .i64 i] ∧ q = x.pgs.length - i ∧ i ≤ x.pgs.length ∧ xss.length = x.pgs.length ∧ (∀ (i : Nat) xs, xss[i]? = some xs → xs.length ≤ 256) ∧
      sat E w (osl 65 2 (.slice ap x.pgs.length cp) x.pgs.length (wcells qs) * (rows (qs.map (·.2)) xss * Y))) x.pgs.length ⟨0, _, rfl, rfl, by omega, by simp [bcells], hlens, h⟩ ?_
    clear h hlens
    rintro q σ w again ⟨i, xss, rfl, rfl, hi, hxl, hlens, h⟩ hag
    try simp only [↓o_nil, ↓o_field, ↓o_add, ↓o_sub, ↓o_mul, ↓o_lss, ↓o_leq, ↓o_gtr, ↓o_geq, ↓o_not, ↓o_pick, ↓o_eqInt, ↓o_neInt, ↓o_eqBool, ↓o_neBool, ↓o_eqPtr, ↓o_nePtr, ↓o_eqPtr', ↓o_eqSl, ↓o_neSl, ↓o_eqStr, ↓o_neStr, ↓o_len, ↓o_lenS, ↓o_min, ↓o_max, ↓o_extract, ↓o_convInt, ↓cd_true, ↓cd_false, ↓gate_tt, ↓gate_ff, ↓gate_tf, ↓gate_ft, ↓gate_undef, ↓o_bind, ↓stay_v, ↓pop_cons, ↓fin_nil, Option.isNone_none, Option.isNone_some, Bool.not_true, Bool.not_false, Nat.zero_add, decide_true, decide_false, if_true, if_false, Bool.false_eq_true, ↓reduceIte]
    refine cd_dec (fun hlt => ?_) (fun hge => ?_)
    · have hlt : i < x.pgs.length := by omega
      refine lp_nat (fun q σ w => ∃ (a : Nat) (xss : List (List Value)), σ = [.int .i64 a] ∧ q = 300 - a ∧ a ≤ 256 ∧ xss.length = x.pgs.length ∧ (∀ (i : Nat) xs, xss[i]? = some xs → xs.length ≤ 256) ∧
        sat E w (osl 65 2 (.slice ap x.pgs.length cp) x.pgs.length (wcells qs) * (rows (qs.map (·.2)) xss * Y))) 300 ⟨0, xss, rfl, rfl, by omega, hxl, hlens, h⟩ ?_
      clear h hlens hxl xss
      rintro q σ w again2 ⟨a, xss, rfl, rfl, ha, hxl, hlens, h⟩ hag2
      try simp only [↓o_nil, ↓o_field, ↓o_add, ↓o_sub, ↓o_mul, ↓o_lss, ↓o_leq, ↓o_gtr, ↓o_geq, ↓o_not, ↓o_pick, ↓o_eqInt, ↓o_neInt, ↓o_eqBool, ↓o_neBool, ↓o_eqPtr, ↓o_nePtr, ↓o_eqPtr', ↓o_eqSl, ↓o_neSl, ↓o_eqStr, ↓o_neStr, ↓o_len, ↓o_lenS, ↓o_min, ↓o_max, ↓o_extract, ↓o_convInt, ↓cd_true, ↓cd_false, ↓gate_tt, ↓gate_ff, ↓gate_tf, ↓gate_ft, ↓gate_undef, ↓o_bind, ↓stay_v, ↓pop_cons, ↓fin_nil, Option.isNone_none, Option.isNone_some, Bool.not_true, Bool.not_false, Nat.zero_add, decide_true, decide_false, if_true, if_false, Bool.false_eq_true, ↓reduceIte]
      have hrd : ∀ {Z : HP}, Rds (osl 65 2 (.slice ap x.pgs.length cp) x.pgs.length (wcells qs) * Z) (.slice ap x.pgs.length cp) x.pgs.length (wcells qs) := Rds.osl.left
      obtain ⟨b5, o5, rfl, _⟩ := win_cell ((hrd).win h) (j := i * 2) (by omega)
      rw [o_index (by omega) (by omega)]
      simp only [Int.toNat_natCast, ↓o_nil, ↓o_field, ↓o_add, ↓o_sub, ↓o_mul, ↓o_lss, ↓o_leq, ↓o_gtr, ↓o_geq, ↓o_not, ↓o_pick, ↓o_eqInt, ↓o_neInt, ↓o_eqBool, ↓o_neBool, ↓o_eqPtr, ↓o_nePtr, ↓o_eqPtr', ↓o_eqSl, ↓o_neSl, ↓o_eqStr, ↓o_neStr, ↓o_len, ↓o_lenS, ↓o_min, ↓o_max, ↓o_extract, ↓o_convInt, ↓cd_true, ↓cd_false, ↓gate_tt, ↓gate_ff, ↓gate_tf, ↓gate_ft, ↓gate_undef, ↓o_bind, ↓stay_v, ↓pop_cons, ↓fin_nil, Option.isNone_none, Option.isNone_some, Bool.not_true, Bool.not_false, Nat.zero_add, decide_true, decide_false, if_true, if_false, Bool.false_eq_true, ↓reduceIte]
      have hcc := (pg_cells h hrd (show i < qs.length by omega)).2
      refine ld_cell hcc ?_
      have hi1 : i < (qs.map (·.2)).length := by rw [List.length_map]; omega
      have hi2 : i < xss.length := by omega
      rw [rows_at _ _ i hi1 hi2] at h
      have hvi : (qs.map (·.2))[i] = (qs[i]'(by omega)).2 := by rw [List.getElem_map]
      rw [hvi] at h
      obtain ⟨aq, cq, hqv, hcq, _, hsome⟩ := osl_shape (h.perm (show _ = osl 5 1 (qs[i]'(by omega)).2 xss[i].length xss[i] * (osl 65 2 (.slice (some ⟨b5, o5, none⟩) x.pgs.length cp) x.pgs.length (wcells qs) * (rows ((qs.map (·.2)).eraseIdx i) (xss.eraseIdx i) * Y)) by ac_rfl))
      have hle := hlens i xss[i] (List.getElem?_eq_getElem hi2)
      rw [hqv]
      try simp only [↓o_nil, ↓o_field, ↓o_add, ↓o_sub, ↓o_mul, ↓o_lss, ↓o_leq, ↓o_gtr, ↓o_geq, ↓o_not, ↓o_pick, ↓o_eqInt, ↓o_neInt, ↓o_eqBool, ↓o_neBool, ↓o_eqPtr, ↓o_nePtr, ↓o_eqPtr', ↓o_eqSl, ↓o_neSl, ↓o_eqStr, ↓o_neStr, ↓o_len, ↓o_lenS, ↓o_min, ↓o_max, ↓o_extract, ↓o_convInt, ↓cd_true, ↓cd_false, ↓gate_tt, ↓gate_ff, ↓gate_tf, ↓gate_ft, ↓gate_undef, ↓o_bind, ↓stay_v, ↓pop_cons, ↓fin_nil, Option.isNone_none, Option.isNone_some, Bool.not_true, Bool.not_false, Nat.zero_add, decide_true, decide_false, if_true, if_false, Bool.false_eq_true, ↓reduceIte]
      refine cd_dec (fun hlt2 => ?_) (fun hge2 => ?_)
      · have hlt2 : a < xss[i].length := by omega
        obtain ⟨b6, rfl⟩ := hsome (by omega)
        try rw [o_index (by omega) (by omega)]
        try simp only [Int.toNat_natCast, ↓o_nil, ↓o_field, ↓o_add, ↓o_sub, ↓o_mul, ↓o_lss, ↓o_leq, ↓o_gtr, ↓o_geq, ↓o_not, ↓o_pick, ↓o_eqInt, ↓o_neInt, ↓o_eqBool, ↓o_neBool, ↓o_eqPtr, ↓o_nePtr, ↓o_eqPtr', ↓o_eqSl, ↓o_neSl, ↓o_eqStr, ↓o_neStr, ↓o_len, ↓o_lenS, ↓o_min, ↓o_max, ↓o_extract, ↓o_convInt, ↓cd_true, ↓cd_false, ↓gate_tt, ↓gate_ff, ↓gate_tf, ↓gate_ft, ↓gate_undef, ↓o_bind, ↓stay_v, ↓pop_cons, ↓fin_nil, Option.isNone_none, Option.isNone_some, Bool.not_true, Bool.not_false, Nat.zero_add, decide_true, decide_false, if_true, if_false, Bool.false_eq_true, ↓reduceIte]
        refine ld_cell hcc ?_
        rw [hqv] at h ⊢
        rw [o_index (by omega) (by omega)]
        simp only [Int.toNat_natCast, Nat.mul_one, Nat.zero_add]
        refine osl_store (c := cq) h hlt2 rfl fun w h => ?_
        rw [i64_of (by omega) (by omega)]
        refine hag2 (300 - (a + 1)) _ _ (by omega) ⟨a + 1, xss.set i (xss[i].set a (.int .u8 99)), rfl, rfl, by omega, by rw [List.length_set]; exact hxl, fun j xs hj => ?_, ?_⟩
        · rw [List.getElem?_set] at hj
          split at hj
          · try rw [if_pos hi2] at hj
            rw [Option.some.injEq] at hj
            rw [← hj, List.length_set]; exact hle
          · exact hlens j xs hj
        · rw [rows_set _ _ i hi1 hi2, hvi, hqv, List.length_set]
          exact h.perm (by ac_rfl)
      · rw [i64_of (by omega) (by omega)]
        refine hag (x.pgs.length - (i + 1)) _ _ (by omega) ⟨i + 1, xss, rfl, rfl, by omega, hxl, hlens, ?_⟩
        rw [rows_at _ _ i hi1 hi2, hvi]
        exact h
    · subst hY
      exact k gs' V' head' full' w B' h.drop.drop
theorem All_spec {p d b : Nat} {S : Lg} {gs : List (List Int)} (i : LInv S gs) (h : sat E w (lgI p d b S R)) (hp : S.pages ≤ 100)
    (k : ∀ v vs w', sat E w' (osl 60 1 v S.all.length vs * (pers (immAll vs S.all) * lgI p d b S R)) → K v w') : Calls prog 10 #[.pointer (some ⟨p, 0, none⟩)] w (Ret K) := by
  have hsz := i.sz; have hle := i.wf.le
  refine c10 ?_
  unfold B10
  have hall : S.all.length = S.pages := by simp [Lg.all]
  have hat : ∀ n (hn : n < S.pages), S.all[n]'(by rw [hall]; exact hn) = S.view n := fun n hn => by simp [Lg.all]
  refine lp_nat (fun q σ w => ∃ (n : Nat) (v : Value) (vs : List Value), σ = [v, .int .i64 n] ∧ q = S.pages - n ∧ n ≤ S.pages ∧ sat E w (osl 60 1 v n vs * (pers (immAll vs (S.all.take n)) * lgI p d b S R))) S.pages ⟨0, .slice none 0 0, [], rfl, rfl, by omega, ?_⟩ ?_
  · exact osl_nil (immAll_nil h) 60 1
  clear h
  rintro q σ w again ⟨n, v, vs, rfl, rfl, hn, h⟩ hag
  try simp only [↓o_nil, ↓o_field, ↓o_add, ↓o_sub, ↓o_mul, ↓o_lss, ↓o_leq, ↓o_gtr, ↓o_geq, ↓o_not, ↓o_pick, ↓o_eqInt, ↓o_neInt, ↓o_eqBool, ↓o_neBool, ↓o_eqPtr, ↓o_nePtr, ↓o_eqPtr', ↓o_eqSl, ↓o_neSl, ↓o_eqStr, ↓o_neStr, ↓o_len, ↓o_lenS, ↓o_min, ↓o_max, ↓o_extract, ↓o_convInt, ↓cd_true, ↓cd_false, ↓gate_tt, ↓gate_ff, ↓gate_tf, ↓gate_ft, ↓gate_undef, ↓o_bind, ↓stay_v, ↓pop_cons, ↓fin_nil, Option.isNone_none, Option.isNone_some, Bool.not_true, Bool.not_false, Nat.zero_add, decide_true, decide_false, if_true, if_false, Bool.false_eq_true, ↓reduceIte]
  have h := lg_in (X := osl 60 1 v n vs * pers (immAll vs (S.all.take n))) (by rw [star_assoc]; exact h)
  refine Pages_spec h (by omega) hle fun w h => ?_
  try simp only [↓o_nil, ↓o_field, ↓o_add, ↓o_sub, ↓o_mul, ↓o_lss, ↓o_leq, ↓o_gtr, ↓o_geq, ↓o_not, ↓o_pick, ↓o_eqInt, ↓o_neInt, ↓o_eqBool, ↓o_neBool, ↓o_eqPtr, ↓o_nePtr, ↓o_eqPtr', ↓o_eqSl, ↓o_neSl, ↓o_eqStr, ↓o_neStr, ↓o_len, ↓o_lenS, ↓o_min, ↓o_max, ↓o_extract, ↓o_convInt, ↓cd_true, ↓cd_false, ↓gate_tt, ↓gate_ff, ↓gate_tf, ↓gate_ft, ↓gate_undef, ↓o_bind, ↓stay_v, ↓pop_cons, ↓fin_nil, Option.isNone_none, Option.isNone_some, Bool.not_true, Bool.not_false, Nat.zero_add, decide_true, decide_false, if_true, if_false, Bool.false_eq_true, ↓reduceIte]
  by_cases hlt : (n : Int) < (S.pages : Int)
  · have h100 : (n : Int) < 100 := by omega
    simp only [hlt, h100, ↓o_nil, ↓o_field, ↓o_add, ↓o_sub, ↓o_mul, ↓o_lss, ↓o_leq, ↓o_gtr, ↓o_geq, ↓o_not, ↓o_pick, ↓o_eqInt, ↓o_neInt, ↓o_eqBool, ↓o_neBool, ↓o_eqPtr, ↓o_nePtr, ↓o_eqPtr', ↓o_eqSl, ↓o_neSl, ↓o_eqStr, ↓o_neStr, ↓o_len, ↓o_lenS, ↓o_min, ↓o_max, ↓o_extract, ↓o_convInt, ↓cd_true, ↓cd_false, ↓gate_tt, ↓gate_ff, ↓gate_tf, ↓gate_ft, ↓gate_undef, ↓o_bind, ↓stay_v, ↓pop_cons, ↓fin_nil, Option.isNone_none, Option.isNone_some, Bool.not_true, Bool.not_false, Nat.zero_add, decide_true, decide_false, if_true, if_false, Bool.false_eq_true, ↓reduceIte]
    have hlt : n < S.pages := by omega
    refine Read_ok h (by omega) hle hlt i.wf.l (fun v e => i.look e) (i.place_lt hlt) fun rv w h => ?_
    try simp only [↓o_nil, ↓o_field, ↓o_add, ↓o_sub, ↓o_mul, ↓o_lss, ↓o_leq, ↓o_gtr, ↓o_geq, ↓o_not, ↓o_pick, ↓o_eqInt, ↓o_neInt, ↓o_eqBool, ↓o_neBool, ↓o_eqPtr, ↓o_nePtr, ↓o_eqPtr', ↓o_eqSl, ↓o_neSl, ↓o_eqStr, ↓o_neStr, ↓o_len, ↓o_lenS, ↓o_min, ↓o_max, ↓o_extract, ↓o_convInt, ↓cd_true, ↓cd_false, ↓gate_tt, ↓gate_ff, ↓gate_tf, ↓gate_ft, ↓gate_undef, ↓o_bind, ↓stay_v, ↓pop_cons, ↓fin_nil, Option.isNone_none, Option.isNone_some, Bool.not_true, Bool.not_false, Nat.zero_add, decide_true, decide_false, if_true, if_false, Bool.false_eq_true, ↓reduceIte]
    have hv256 : (S.view n).length = 256 := by
      unfold Lg.view
      rw [getD_of (i.place_lt hlt)]
      exact i.wf.l _ (List.getElem_mem _)
    have hf := osl_freeze h
    obtain ⟨ar, cr, rfl, _, _⟩ := hf.pers_get
    have hf : sat E w (osl 60 1 v n vs * (pers (immAll (vs ++ [.slice ar 256 cr]) (S.all.take n ++ [S.view n])) * lgI p d b S R)) := by
      unfold lgI at hf
      have h2 := hf.perm (show _ = pers (immS (.slice ar 256 cr) 256 ((S.L.getD (S.place n) []).map bv)) * (pers (immAll vs (S.all.take n)) * (osl 60 1 v n vs * (pts p (.cells (lcells S d b).toArray 70 (0, 0)) * (dsk d S.L S.W * (omap b (mpA S.a) * R))))) by ac_rfl)
      have h3 := sat_snoc (l := S.view n) (v := .slice ar 256 cr) (by rw [hv256]; exact h2)
      unfold lgI
      exact h3.perm (by ac_rfl)
    refine push_sl (v := v) hf rfl rfl (by omega) (by omega) fun v2 w h => ?_
    rw [i64_of (by omega) (by omega)]
    refine hag (S.pages - (n + 1)) _ _ (by omega) ⟨n + 1, v2, vs ++ [.slice ar 256 cr], rfl, rfl, by omega, ?_⟩
    rw [List.take_succ_eq_append_getElem (by rw [hall]; exact hlt), hat n hlt]
    exact h
  · have hnn : n = S.pages := by omega
    subst hnn
    simp only [hlt, ↓o_nil, ↓o_field, ↓o_add, ↓o_sub, ↓o_mul, ↓o_lss, ↓o_leq, ↓o_gtr, ↓o_geq, ↓o_not, ↓o_pick, ↓o_eqInt, ↓o_neInt, ↓o_eqBool, ↓o_neBool, ↓o_eqPtr, ↓o_nePtr, ↓o_eqPtr', ↓o_eqSl, ↓o_neSl, ↓o_eqStr, ↓o_neStr, ↓o_len, ↓o_lenS, ↓o_min, ↓o_max, ↓o_extract, ↓o_convInt, ↓cd_true, ↓cd_false, ↓gate_tt, ↓gate_ff, ↓gate_tf, ↓gate_ft, ↓gate_undef, ↓o_bind, ↓stay_v, ↓pop_cons, ↓fin_nil, Option.isNone_none, Option.isNone_some, Bool.not_true, Bool.not_false, Nat.zero_add, decide_true, decide_false, if_true, if_false, Bool.false_eq_true, ↓reduceIte]
    refine k v vs w ?_
    have h := lg_out h
    rw [star_assoc, show S.all.take S.pages = S.all by rw [← hall, List.take_length]] at h
    rw [hall]
    exact h
end Go.Proofs.YtgkeplodfkmnlaaGreat

/-
  A disk: cuts.
-/
set_option linter.all false
set_option maxRecDepth 100000
namespace Go.Proofs.YtgkeplodfkmnlaaGreat
open Go Hold
variable {E : World0} {w : World} {H R : HP} {K : Value → World → Prop}
/-- The rounds of Backward. -/
theorem Back_spec (G : Nat → HP) {m : Nat} {us : List (Int × Value)} (hm : us.length = m) (hm2 : m ≤ 1000000) {x : Nat} {sv y : Value} (h : sat E w (G m))
    (hG : ∀ j {w : World}, sat E w (G j) → w.heap[x]? = some (.cells #[sv] 81 (0, 0))) (hr : ∀ j, Rds (G j) sv m (wcells us))
    (hy : ∀ (j : Nat) (hj : j < m) (w : World) (K' : Value → World → Prop), sat E w (G (j + 1)) → (∀ w', sat E w' (G j) → K' (.bool true) w') → ef prog (oCall y #[.int .i64 j, .agg #[.int .i64 (us[j]'(by omega)).1, (us[j]'(by omega)).2]]) w K')
    (k : ∀ w', sat E w' (G 0) → K (.tuple #[]) w') : Calls prog 84 #[y, .pointer (some ⟨x, 0, none⟩)] w (Ret K) := by
  have hr0 := hr
  obtain ⟨a, c, rfl, hc, _, ha⟩ := (hr m).shape h
  refine c84 ?_
  unfold B84
  refine ld_cell (v := .slice a m c) (cell_of (hG m h) rfl) ?_
  simp only [↓o_nil, ↓o_field, ↓o_add, ↓o_sub, ↓o_mul, ↓o_lss, ↓o_leq, ↓o_gtr, ↓o_geq, ↓o_not, ↓o_pick, ↓o_eqInt, ↓o_neInt, ↓o_eqBool, ↓o_neBool, ↓o_eqPtr, ↓o_nePtr, ↓o_eqPtr', ↓o_eqSl, ↓o_neSl, ↓o_eqStr, ↓o_neStr, ↓o_len, ↓o_lenS, ↓o_min, ↓o_max, ↓o_extract, ↓o_convInt, ↓cd_true, ↓cd_false, ↓gate_tt, ↓gate_ff, ↓gate_tf, ↓gate_ft, ↓gate_undef, ↓o_bind, ↓stay_v, ↓pop_cons, ↓fin_nil, Option.isNone_none, Option.isNone_some, Bool.not_true, Bool.not_false, Nat.zero_add, decide_true, decide_false, if_true, if_false, Bool.false_eq_true, ↓reduceIte]
  refine lp_nat (fun n σ w => σ = [.int .i64 ((n : Int) - 1)] ∧ n ≤ m ∧ sat E w (G n)) m ⟨?_, Nat.le_refl _, h⟩ ?_
  · rw [i64_of (by omega) (by omega)]
  · rintro n σ w again ⟨rfl, hn, h⟩ hag
    simp only [↓o_nil, ↓o_field, ↓o_add, ↓o_sub, ↓o_mul, ↓o_lss, ↓o_leq, ↓o_gtr, ↓o_geq, ↓o_not, ↓o_pick, ↓o_eqInt, ↓o_neInt, ↓o_eqBool, ↓o_neBool, ↓o_eqPtr, ↓o_nePtr, ↓o_eqPtr', ↓o_eqSl, ↓o_neSl, ↓o_eqStr, ↓o_neStr, ↓o_len, ↓o_lenS, ↓o_min, ↓o_max, ↓o_extract, ↓o_convInt, ↓cd_true, ↓cd_false, ↓gate_tt, ↓gate_ff, ↓gate_tf, ↓gate_ft, ↓gate_undef, ↓o_bind, ↓stay_v, ↓pop_cons, ↓fin_nil, Option.isNone_none, Option.isNone_some, Bool.not_true, Bool.not_false, Nat.zero_add, decide_true, decide_false, if_true, if_false, Bool.false_eq_true, ↓reduceIte]
    refine cd_dec (fun hlt => ?_) (fun hge => ?_)
    · obtain ⟨j, rfl⟩ : ∃ j, n = j + 1 := ⟨n - 1, by omega⟩
      have e : ((j + 1 : Nat) : Int) - 1 = (j : Int) := by omega
      rw [e]
      have hlen := wcells_length us
      refine ld_cell (v := .slice a m c) (cell_of (hG _ h) rfl) ?_
      have hwin := (hr (j + 1)).win h
      obtain ⟨b, o, rfl, _⟩ := win_cell hwin (j := j * 2) (by omega)
      rw [o_index (by omega) (by omega)]
      simp only [Int.toNat_natCast]
      obtain ⟨g1, g2⟩ := wcells_get us j (by omega)
      have h1 := hwin.cell b o rfl _ _ g1
      have h2 := hwin.cell b o rfl _ _ g2
      refine ldv_of (run_loadN (n := 2) (cs := [.int .i64 us[j].1, us[j].2]) rfl ?_) ?_
      · intro i v hi
        match i, hi with
        | 0, hi => simp at hi; subst hi; exact h1
        | 1, hi => simp at hi; subst hi; exact h2
        | i + 2, hi => simp at hi
      refine hy j (by omega) w _ h fun w' h' => ?_
      simp only [↓o_nil, ↓o_field, ↓o_add, ↓o_sub, ↓o_mul, ↓o_lss, ↓o_leq, ↓o_gtr, ↓o_geq, ↓o_not, ↓o_pick, ↓o_eqInt, ↓o_neInt, ↓o_eqBool, ↓o_neBool, ↓o_eqPtr, ↓o_nePtr, ↓o_eqPtr', ↓o_eqSl, ↓o_neSl, ↓o_eqStr, ↓o_neStr, ↓o_len, ↓o_lenS, ↓o_min, ↓o_max, ↓o_extract, ↓o_convInt, ↓cd_true, ↓cd_false, ↓gate_tt, ↓gate_ff, ↓gate_tf, ↓gate_ft, ↓gate_undef, ↓o_bind, ↓stay_v, ↓pop_cons, ↓fin_nil, Option.isNone_none, Option.isNone_some, Bool.not_true, Bool.not_false, Nat.zero_add, decide_true, decide_false, if_true, if_false, Bool.false_eq_true, ↓reduceIte]
      rw [i64_of (by omega) (by omega)]
      exact hag j _ _ (by omega) ⟨rfl, by omega, h'⟩
    · have : n = 0 := by omega
      subst this
      exact k w h
theorem Cut_nil {n : Value} (k : K (.tuple #[.pointer none, .int .i64 1]) w) : Calls prog 21 #[.pointer none, n] w (Ret K) := by
  refine c21 ?_
  unfold B21
  simp only [↓o_nil, ↓o_field, ↓o_add, ↓o_sub, ↓o_mul, ↓o_lss, ↓o_leq, ↓o_gtr, ↓o_geq, ↓o_not, ↓o_pick, ↓o_eqInt, ↓o_neInt, ↓o_eqBool, ↓o_neBool, ↓o_eqPtr, ↓o_nePtr, ↓o_eqPtr', ↓o_eqSl, ↓o_neSl, ↓o_eqStr, ↓o_neStr, ↓o_len, ↓o_lenS, ↓o_min, ↓o_max, ↓o_extract, ↓o_convInt, ↓cd_true, ↓cd_false, ↓gate_tt, ↓gate_ff, ↓gate_tf, ↓gate_ft, ↓gate_undef, ↓o_bind, ↓stay_v, ↓pop_cons, ↓fin_nil, Option.isNone_none, Option.isNone_some, Bool.not_true, Bool.not_false, Nat.zero_add, decide_true, decide_false, if_true, if_false, Bool.false_eq_true, ↓reduceIte]
  exact k
theorem Cut_range {d : Nat} {L : List (List UInt8)} {W : List (Int × List UInt8)} (h : sat E w H) [s : DskS H d L W R] {n : Int} (hn : n < 0 ∨ (W.length : Int) < n)
    (k : K (.tuple #[.pointer none, .int .i64 2]) w) : Calls prog 21 #[.pointer (some ⟨d, 0, none⟩), .int .i64 n] w (Ret K) := by
  obtain ⟨lv, vs, wv, ws, e, hd⟩ := sat_dsk.1 (h.dsks d)
  obtain ⟨a, c, rfl, hc, hl, ha⟩ := osl_shape hd.drop.drop
  refine c21 ?_
  unfold B21
  by_cases h1 : n < 0
  · simp only [↓o_nil, ↓o_field, ↓o_add, ↓o_sub, ↓o_mul, ↓o_lss, ↓o_leq, ↓o_gtr, ↓o_geq, ↓o_not, ↓o_pick, ↓o_eqInt, ↓o_neInt, ↓o_eqBool, ↓o_neBool, ↓o_eqPtr, ↓o_nePtr, ↓o_eqPtr', ↓o_eqSl, ↓o_neSl, ↓o_eqStr, ↓o_neStr, ↓o_len, ↓o_lenS, ↓o_min, ↓o_max, ↓o_extract, ↓o_convInt, ↓cd_true, ↓cd_false, ↓gate_tt, ↓gate_ff, ↓gate_tf, ↓gate_ft, ↓gate_undef, ↓o_bind, ↓stay_v, ↓pop_cons, ↓fin_nil, Option.isNone_none, Option.isNone_some, Bool.not_true, Bool.not_false, Nat.zero_add, decide_true, decide_false, if_true, if_false, Bool.false_eq_true, ↓reduceIte, h1]; exact k
  · have h2 : (W.length : Int) < n := by omega
    simp only [↓o_nil, ↓o_field, ↓o_add, ↓o_sub, ↓o_mul, ↓o_lss, ↓o_leq, ↓o_gtr, ↓o_geq, ↓o_not, ↓o_pick, ↓o_eqInt, ↓o_neInt, ↓o_eqBool, ↓o_neBool, ↓o_eqPtr, ↓o_nePtr, ↓o_eqPtr', ↓o_eqSl, ↓o_neSl, ↓o_eqStr, ↓o_neStr, ↓o_len, ↓o_lenS, ↓o_min, ↓o_max, ↓o_extract, ↓o_convInt, ↓cd_true, ↓cd_false, ↓gate_tt, ↓gate_ff, ↓gate_tf, ↓gate_ft, ↓gate_undef, ↓o_bind, ↓stay_v, ↓pop_cons, ↓fin_nil, Option.isNone_none, Option.isNone_some, Bool.not_true, Bool.not_false, Nat.zero_add, decide_true, decide_false, if_true, if_false, Bool.false_eq_true, ↓reduceIte, h1]
    refine ld_at hd ?_
    simp only [↓o_nil, ↓o_field, ↓o_add, ↓o_sub, ↓o_mul, ↓o_lss, ↓o_leq, ↓o_gtr, ↓o_geq, ↓o_not, ↓o_pick, ↓o_eqInt, ↓o_neInt, ↓o_eqBool, ↓o_neBool, ↓o_eqPtr, ↓o_nePtr, ↓o_eqPtr', ↓o_eqSl, ↓o_neSl, ↓o_eqStr, ↓o_neStr, ↓o_len, ↓o_lenS, ↓o_min, ↓o_max, ↓o_extract, ↓o_convInt, ↓cd_true, ↓cd_false, ↓gate_tt, ↓gate_ff, ↓gate_tf, ↓gate_ft, ↓gate_undef, ↓o_bind, ↓stay_v, ↓pop_cons, ↓fin_nil, Option.isNone_none, Option.isNone_some, Bool.not_true, Bool.not_false, Nat.zero_add, decide_true, decide_false, if_true, if_false, Bool.false_eq_true, ↓reduceIte, h2]
    exact k
theorem Cut_spec {d : Nat} {L : List (List UInt8)} {W : List (Int × List UInt8)} (h : sat E w H) [s : DskS H d L W R] (wf : Wf L W) (hW : W.length ≤ 1000000) {n : Nat} (hn : n ≤ W.length)
    (k : ∀ d' w', sat E w' (dsk d' (undo L (W.drop n)) [] * (dsk d L W * R)) → K (.tuple #[.pointer (some ⟨d', 0, none⟩), .int .i64 0]) w') : Calls prog 21 #[.pointer (some ⟨d, 0, none⟩), .int .i64 n] w (Ret K) := by
  obtain ⟨lv, vs, wv, ws, e, hd⟩ := sat_dsk.1 (h.dsks d)
  have hL2 : ws.length = W.length := by simpa using hd.drop.drop.drop.drop.pers_get.1
  obtain ⟨a, c, rfl, hc, hl, ha⟩ := osl_shape hd.drop.drop
  refine c21 ?_
  unfold B21
  have h1 : ¬ (n : Int) < 0 := by omega
  have h2 : ¬ (W.length : Int) < n := by omega
  simp only [↓o_nil, ↓o_field, ↓o_add, ↓o_sub, ↓o_mul, ↓o_lss, ↓o_leq, ↓o_gtr, ↓o_geq, ↓o_not, ↓o_pick, ↓o_eqInt, ↓o_neInt, ↓o_eqBool, ↓o_neBool, ↓o_eqPtr, ↓o_nePtr, ↓o_eqPtr', ↓o_eqSl, ↓o_neSl, ↓o_eqStr, ↓o_neStr, ↓o_len, ↓o_lenS, ↓o_min, ↓o_max, ↓o_extract, ↓o_convInt, ↓cd_true, ↓cd_false, ↓gate_tt, ↓gate_ff, ↓gate_tf, ↓gate_ft, ↓gate_undef, ↓o_bind, ↓stay_v, ↓pop_cons, ↓fin_nil, Option.isNone_none, Option.isNone_some, Bool.not_true, Bool.not_false, Nat.zero_add, decide_true, decide_false, if_true, if_false, Bool.false_eq_true, ↓reduceIte, h1]
  refine ld_at hd ?_
  simp only [↓o_nil, ↓o_field, ↓o_add, ↓o_sub, ↓o_mul, ↓o_lss, ↓o_leq, ↓o_gtr, ↓o_geq, ↓o_not, ↓o_pick, ↓o_eqInt, ↓o_neInt, ↓o_eqBool, ↓o_neBool, ↓o_eqPtr, ↓o_nePtr, ↓o_eqPtr', ↓o_eqSl, ↓o_neSl, ↓o_eqStr, ↓o_neStr, ↓o_len, ↓o_lenS, ↓o_min, ↓o_max, ↓o_extract, ↓o_convInt, ↓cd_true, ↓cd_false, ↓gate_tt, ↓gate_ff, ↓gate_tf, ↓gate_ft, ↓gate_undef, ↓o_bind, ↓stay_v, ↓pop_cons, ↓fin_nil, Option.isNone_none, Option.isNone_some, Bool.not_true, Bool.not_false, Nat.zero_add, decide_true, decide_false, if_true, if_false, Bool.false_eq_true, ↓reduceIte, h2]
  refine ld_at hd ?_
  refine copied_spec hd (rdd_of hd) wf.le (fun l hl => by rw [wf.l l hl]; omega) fun ov vs' w _ hd => ?_
  obtain ⟨ao, co, rfl, hco, hol, hoa⟩ := osl_shape hd
  refine alloc_sl hd fun ob w hd => ?_
  refine store_at hd (xs := [_]) rfl (by simp) fun w hd => ?_
  refine ld_at hd ?_
  rw [o_slice_l (by omega) (by omega)]
  simp only [Int.toNat_natCast]
  refine c50 ?_
  unfold B50
  refine box_sl hd fun xb w hd => ?_
  refine pvv_of (v := .func (.func 84) #[] #[.pointer (some ⟨xb, 0, none⟩)]) (fun _ => rfl) ?_
  refine rng_body hd Tryz.func84 (by kernel_rfl) (by kernel_rfl) fun rec D D1 w hd hround => ?_
  refine Back_spec (E := E) (fun j => (pts D1 (rec .ready none) * (pts D (.deferred (some [])) * (pts xb (.cells #[.slice (cutA a c n 2) (W.length - n) (c - n)] 81 (0, 0)) * (pts ob (.cells [Value.slice ao L.length co].toArray 32 (0, 0)) *
    (pts d (.cells [lv, .slice a W.length c, .int .i64 W.length].toArray 88 (0, 0)) * (osl 60 1 lv L.length vs * (osl 95 2 (.slice a W.length c) W.length (wcells ws) * (pers (immAll vs L) * (pers (immAll (ws.map (·.2)) (W.map (·.2))) * R))))))))) *
    ex fun us => osl 60 1 (.slice ao L.length co) L.length us * pers (immAll us (undo L ((W.drop n).drop j)))) (m := W.length - n) (us := ws.drop n) (by simp [hL2]) (by omega) (x := xb) (sv := .slice (cutA a c n 2) (W.length - n) (c - n)) ?_ ?_ ?_ ?_ ?_
  · rw [star_ex]
    refine sat_ex.2 ⟨vs', ?_⟩
    have : (W.drop n).drop (W.length - n) = [] := by simp; omega
    rw [this]
    exact hd.perm (by simp only [Value.cells]; ac_rfl)
  · intro j w h
    exact h.has
  · intro j E w h
    have hw := osl_rd (h.owns (.slice a W.length c))
    obtain ⟨a', c', e, hc', hw⟩ := hw
    cases e
    refine ⟨_, _, rfl, by omega, ?_⟩
    rw [wcells_drop]
    exact win_cut hw (fun hcn => by rw [wcells_length]; omega)
  · intro j hj w K' h hk
    rw [star_ex] at h
    obtain ⟨us, h⟩ := sat_ex.1 h
    have hj1 : n + j < ws.length := by omega
    have hj2 : n + j < W.length := by omega
    have e1 : (ws.drop n)[j]'(by simp; omega) = ws[n + j] := by simp
    have e2 : ws[n + j].1 = W[n + j].1 := by
      have := congrArg (fun l => l[n + j]?) e
      simp only [List.getElem?_map, List.getElem?_eq_getElem hj1, List.getElem?_eq_getElem hj2, Option.map_some, Option.some.injEq] at this
      exact this
    obtain ⟨w1, w2, w3⟩ := wf.w W[n + j] (List.getElem_mem hj2)
    have hrd : Rds (pers (immAll (ws.map (·.2)) (W.map (·.2)))) ws[n + j].2 W[n + j].2.length (W[n + j].2.map bv) :=
      immAll_rds (i := n + j) (by simp [List.getElem?_eq_getElem hj1]) (by simp [List.getElem?_eq_getElem hj2])
    obtain ⟨a2, c2, e3, hc2, hrd, _⟩ := hrd.shape (h.split (pers (immAll (ws.map (·.2)) (W.map (·.2))))).drop'
    obtain ⟨p, hp⟩ := Int.eq_ofNat_of_zero_le w1
    rw [e1, e2, e3, hp]
    have hpl : p < L.length := by omega
    refine hround [.int .i64 j, .agg #[.int .i64 p, .slice a2 W[n + j].2.length c2]] w K' rfl h.has ?_
    simp only [↓o_nil, ↓o_field, ↓o_add, ↓o_sub, ↓o_mul, ↓o_lss, ↓o_leq, ↓o_gtr, ↓o_geq, ↓o_not, ↓o_pick, ↓o_eqInt, ↓o_neInt, ↓o_eqBool, ↓o_neBool, ↓o_eqPtr, ↓o_nePtr, ↓o_eqPtr', ↓o_eqSl, ↓o_neSl, ↓o_eqStr, ↓o_neStr, ↓o_len, ↓o_lenS, ↓o_min, ↓o_max, ↓o_extract, ↓o_convInt, ↓cd_true, ↓cd_false, ↓gate_tt, ↓gate_ff, ↓gate_tf, ↓gate_ft, ↓gate_undef, ↓o_bind, ↓stay_v, ↓pop_cons, ↓fin_nil, Option.isNone_none, Option.isNone_some, Bool.not_true, Bool.not_false, Nat.zero_add, decide_true, decide_false, if_true, if_false, Bool.false_eq_true, ↓reduceIte]
    refine alloc_sl h fun wb w h => ?_
    have h : sat E w (pts wb (.cells [Value.int .i64 0, .slice none 0 0].toArray 95 (0, 0)) * _) := h
    refine storeN_sl (n := 2) h (by kernel_rfl) (vs := [.int .i64 p, .slice a2 W[n + j].2.length c2]) rfl rfl (by simp [Value.oneCell']) (by simp) fun w h => ?_
    simp only [List.take_zero, List.nil_append, List.length_cons, List.length_nil, List.drop_succ_cons, List.drop_zero, List.append_nil, Nat.zero_add] at h
    refine ⟨h.has, ?_⟩
    have h := (h.own D1).set (rec .busy none)
    refine dr_sl h fun w h _ => ?_
    simp only [↓o_nil, ↓o_field, ↓o_add, ↓o_sub, ↓o_mul, ↓o_lss, ↓o_leq, ↓o_gtr, ↓o_geq, ↓o_not, ↓o_pick, ↓o_eqInt, ↓o_neInt, ↓o_eqBool, ↓o_neBool, ↓o_eqPtr, ↓o_nePtr, ↓o_eqPtr', ↓o_eqSl, ↓o_neSl, ↓o_eqStr, ↓o_neStr, ↓o_len, ↓o_lenS, ↓o_min, ↓o_max, ↓o_extract, ↓o_convInt, ↓cd_true, ↓cd_false, ↓gate_tt, ↓gate_ff, ↓gate_tf, ↓gate_ft, ↓gate_undef, ↓o_bind, ↓stay_v, ↓pop_cons, ↓fin_nil, Option.isNone_none, Option.isNone_some, Bool.not_true, Bool.not_false, Nat.zero_add, decide_true, decide_false, if_true, if_false, Bool.false_eq_true, ↓reduceIte]
    refine ld_at h ?_
    refine ld_at h ?_
    refine ld_at h ?_
    refine Clone_spec h (v := .slice a2 W[n + j].2.length c2) (l := W[n + j].2) (Rds.under hrd) (by omega) fun v5 w h => ?_
    have h := osl_freeze h
    obtain ⟨a5, c5, rfl, hc5, _⟩ := h.pers_get
    refine st_at h ?_
    refine st_at h ?_
    obtain ⟨ob2, rfl⟩ := hoa (by omega)
    rw [o_index (by omega) (by omega)]
    simp only [Int.toNat_natCast, Nat.mul_one, Nat.zero_add]
    refine osl_store h (c := co) hpl rfl fun w h => ?_
    refine ⟨h.has, hk _ ?_⟩
    have h := (h.own D1).set (rec .ready none)
    rw [star_ex]
    refine sat_ex.2 ⟨us.set p (.slice a5 W[n + j].2.length c5), ?_⟩
    have eu : undo L ((W.drop n).drop j) = (undo L ((W.drop n).drop (j + 1))).set p W[n + j].2 := by
      have : (W.drop n).drop j = W[n + j] :: (W.drop n).drop (j + 1) := by
        rw [List.drop_drop, List.drop_drop, List.drop_eq_getElem_cons hj2]; rfl
      rw [this]
      simp [undo, hp]
    rw [eu]
    have h := sat_imp2 (h.lose wb) (immS (.slice a5 W[n + j].2.length c5) W[n + j].2.length (W[n + j].2.map bv)) (immAll us (undo L ((W.drop n).drop (j + 1))))
      (χ := immAll (us.set p (.slice a5 W[n + j].2.length c5)) ((undo L ((W.drop n).drop (j + 1))).set p W[n + j].2)) (fun I h1 h2 => immAll_set h2 h1)
    exact h.perm (by ac_rfl)
  · intro w h
    rw [star_ex] at h
    obtain ⟨us, h⟩ := sat_ex.1 h
    refine ⟨.ready, none, h.has, by simp, ?_⟩
    have h := (h.own D1).set (rec .exhausted none)
    simp only [jump]
    refine ld_at h ?_
    refine pvv_of (v := .agg #[.slice ao L.length co, .slice none 0 0, .int .i64 0]) (fun _ => by kernel_rfl) ?_
    refine box_sl h fun d2 w h => ?_
    have h : sat E w (pts d2 (.cells [Value.slice ao L.length co, .slice none 0 0, .int .i64 0].toArray 88 (0, 0)) * _) := h
    refine ⟨h.has, ?_⟩
    have h := (h.own D).set (.deferred none)
    refine k d2 _ ?_
    simp only [List.drop_zero] at h
    have h := dsk_shut d L W e (h.lose ob)
    have h := osl_nil h 95 2
    have h : sat E _ (pers (immAll (List.map (·.2) ([] : List (Int × Value))) (List.map (·.2) ([] : List (Int × List UInt8)))) * _) := immAll_nil h
    have h := dsk_shut' (lv := .slice ao L.length co) (wv := .slice none 0 0) (vs := us) (ws := []) d2 (undo L (W.drop n)) [] (undo_length L _).symm rfl h
    exact ((h.lose D).lose D1).lose xb
end Go.Proofs.YtgkeplodfkmnlaaGreat

/-
  What is opened behind a cut; rooms.
-/
set_option linter.all false
set_option maxRecDepth 100000
namespace Go.Proofs.YtgkeplodfkmnlaaGreat
open Go Hold
variable {E : World0} {w : World} {H R X : HP} {K : Value → World → Prop}
theorem Free_spec {p d b : Nat} {S : Lg} (h : sat E w (lgI p d b S R)) (hs : S.size ≤ 1024) (hu : S.used ≤ S.size) (k : ∀ w', sat E w' (lgI p d b S R) → K (.int .i64 ((S.size - S.used : Nat) : Int)) w') : Calls prog 13 #[.pointer (some ⟨p, 0, none⟩)] w (Ret K) := by
  unfold lgI lcells at *
  refine c13 ?_
  unfold B13
  simp only [↓o_nil, ↓o_field, ↓o_add, ↓o_sub, ↓o_mul, ↓o_lss, ↓o_leq, ↓o_gtr, ↓o_geq, ↓o_not, ↓o_pick, ↓o_eqInt, ↓o_neInt, ↓o_eqBool, ↓o_neBool, ↓o_eqPtr, ↓o_nePtr, ↓o_eqPtr', ↓o_eqSl, ↓o_neSl, ↓o_eqStr, ↓o_neStr, ↓o_len, ↓o_lenS, ↓o_min, ↓o_max, ↓o_extract, ↓o_convInt, ↓cd_true, ↓cd_false, ↓gate_tt, ↓gate_ff, ↓gate_tf, ↓gate_ft, ↓gate_undef, ↓o_bind, ↓stay_v, ↓pop_cons, ↓fin_nil, Option.isNone_none, Option.isNone_some, Bool.not_true, Bool.not_false, Nat.zero_add, decide_true, decide_false, if_true, if_false, Bool.false_eq_true, ↓reduceIte]
  refine dr_sl h fun w h _ => ?_
  refine ld_at h ?_
  refine ld_at h ?_
  try simp only [↓o_nil, ↓o_field, ↓o_add, ↓o_sub, ↓o_mul, ↓o_lss, ↓o_leq, ↓o_gtr, ↓o_geq, ↓o_not, ↓o_pick, ↓o_eqInt, ↓o_neInt, ↓o_eqBool, ↓o_neBool, ↓o_eqPtr, ↓o_nePtr, ↓o_eqPtr', ↓o_eqSl, ↓o_neSl, ↓o_eqStr, ↓o_neStr, ↓o_len, ↓o_lenS, ↓o_min, ↓o_max, ↓o_extract, ↓o_convInt, ↓cd_true, ↓cd_false, ↓gate_tt, ↓gate_ff, ↓gate_tf, ↓gate_ft, ↓gate_undef, ↓o_bind, ↓stay_v, ↓pop_cons, ↓fin_nil, Option.isNone_none, Option.isNone_some, Bool.not_true, Bool.not_false, Nat.zero_add, decide_true, decide_false, if_true, if_false, Bool.false_eq_true, ↓reduceIte]
  rw [i64_of (by omega) (by omega), show (S.size : Int) - (S.used : Int) = ((S.size - S.used : Nat) : Int) by omega]
  exact k w h
theorem check_a {S : Lg} {gs : List (List Int)} (i : LInv S gs) : (checkS S).a = [] := by
  unfold checkS
  split
  · rename_i h; exact i.empty_iff.1 h
  · rfl
theorem check_all {S : Lg} {gs : List (List Int)} (i : LInv S gs) : (checkS S).all = S.all := by
  unfold checkS
  split
  · rfl
  · exact i.check_all
theorem do_W (S : Lg) (x : Dd) : S.W.length ≤ (doS S x).W.length := by
  unfold doS checkS commitS
  split
  · split
    · exact Nat.le_refl _
    · rw [(checkT_len S).2]; omega
  · split
    · rw [(commitT_len S _).2]; omega
    · exact Nat.le_refl _
/-- What is opened from a cut behind or within a deed. -/
structure Cutd (S T : Lg) (at_ : Nat) (C : Lg) (gs : List (List Int)) : Prop where
  i : LInv C gs
  w : C.W = []
  l : C.L = hist T at_
  size : C.size = S.size
  g : C.groups ≤ T.groups + S.groups
  last : at_ = T.W.length → C.all = T.all
  ahead : at_ ≠ T.W.length → C.all = S.all
theorem cut_do {S : Lg} {gs : List (List Int)} (i : LInv S gs) (x : Dd) {gs' : List (List Int)} (i' : LInv (doS S x) gs') {k : Nat} (h1 : S.W.length ≤ k) (h2 : k ≤ (doS S x).W.length) : ∃ C gs2, Cutd S (doS S x) k C gs2 := by
  have hsz : (doS S x).size = S.size := by
    unfold doS checkS commitS
    split
    · split
      · rfl
      · exact checkT_size S
    · split
      · exact commitT_size S _
      · rfl
  by_cases hk : k = (doS S x).W.length
  · refine ⟨ofL (doS S x) (doS S x).L, gs', i'.alike.inv i', rfl, ?_, hsz, by show (doS S x).groups ≤ _; omega, fun _ => i'.alike.all, fun e => absurd hk e⟩
    rw [hk, hist_end]; rfl
  · have hal : Alike S gs (hist (doS S x) k) := by
      have h3 : k < (doS S x).W.length := by omega
      unfold doS checkS commitS at h3 ⊢
      split at h3
      · rename_i hc
        rw [if_pos hc]
        split at h3
        · rename_i hu; omega
        · rename_i hu
          rw [if_neg hu]
          exact i.cut_check h1 h3
      · rename_i hc
        rw [if_neg hc]
        split at h3
        · rename_i he
          rw [if_pos he]
          exact i.cut_commit (errC_zero he.1 he.2) h1 h3
        · omega
    exact ⟨ofL S (hist (doS S x) k), gs, hal.inv i, rfl, rfl, rfl, by show S.groups ≤ _; omega, fun e => absurd e hk, fun _ => hal.all⟩
end Go.Proofs.YtgkeplodfkmnlaaGreat

/-
  A deed that came in; numbers of two bytes.
-/
set_option linter.all false
set_option maxRecDepth 100000
namespace Go.Proofs.YtgkeplodfkmnlaaGreat
open Go Hold
section
variable {W : World} {H : Type} {enc : TypeId × Value → H} {r : Reach} {b0 : Nat} {v : Value} {d : DataW H} {p : List MemPlace}
theorem open_deed (hv : Value.okWide prog W r b0 31 v) (h : DataW.Trod enc prog W 0 (fun _ => true) true 31 v d p) (_hw : ∀ n ∈ d.weights prog 31, n ≤ 140737488351232) : ∃ x : Dd, v = .agg (dcells x).toArray ∧ OkD (old W) x := by
  obtain ⟨f0, f1, f2, f3, hu, _⟩ := u31
  obtain ⟨cs, rfl, _⟩ := Go.WideShapes.okWide_struct hu hv
  obtain ⟨fuel, hf⟩ := h
  obtain ⟨x, hx⟩ := deed_of hf
  refine ⟨x.1, ?_, x.2⟩
  have : cs.toList = dcells x.1 := by simpa [Value.cells] using hx
  rw [← this]
theorem open_k (hv : Value.okWide prog W r b0 45 v) (h : DataW.Trod enc prog W 0 (fun _ => true) true 45 v d p) (_hw : ∀ n ∈ d.weights prog 45, n ≤ 140737488351232) : ∃ x : Fin 65536, v = .int .u16 (x.val : Int) := open_u16 (by kernel_rfl) hv h
end
end Go.Proofs.YtgkeplodfkmnlaaGreat
