/-
  All below a page is gone through: the walk.
-/
import Derived.Test.YtfaeklinhchidaaGreatLookW
import Derived.Test.YtfaeklinhchidaaGreatWalT
import Derived.Test.YtfaeklinhchidaaGreatTrpF
set_option linter.all false
set_option maxRecDepth 100000
namespace Go.Proofs.YtfaeklinhchidaaGreat
open Go Hold
variable {E : World0} {w : World} {H R X : HP} {K : Value → World → Prop}
theorem below_spec {tb : Nat} {A : Ad} {N : Nat} (le : N ≤ 1000) {s : St} {k0 c B rb lb sm : Nat} (hB : B ≤ 1000) (hfs : s.fresh ≤ 100000) (hok : ∀ p, p < N → (s.cc p).Ok) : ∀ (f : Nat) {E : World0} {w : World} {R : HP} {K : Value → World → Prop} {p : Nat} {acc : Acc} {q : Nat × Acc},
    f ≤ 1000 → lookS N s.root s.fresh s.cc f p acc = some q → q.2.1.length ≤ B → sat E w (lkI tb A N s k0 (c + (B - acc.1.length)) rb lb sm 0 acc * R) →
    (∀ w', q.1 ≤ f → sat E w' (lkI tb A N s k0 (c + (B - q.2.1.length)) rb lb sm 0 q.2 * R) → K (.int .i64 q.1) w') →
    Calls prog 25 #[.pointer (some ⟨tb, 0, none⟩), .int .i64 p, .pointer (some ⟨rb, 0, none⟩), .pointer (some ⟨lb, 0, none⟩), .map (some sm)] w (Ret K) := by
  intro f
  induction f with
  | zero => intro E w R K p acc q _ hq; cases hq
  | succ f ih =>
    intro E w R K p acc q hf1000 hq hqB h k
    have hlen := lookS_len _ _ _ _ hq
    unfold lookS at hq
    split at hq
    case isFalse => cases hq
    rename_i hp
    obtain ⟨hp1, hp2, hpN, hps⟩ := hp
    split at hq
    case h_2 => cases hq
    rename_i n hcc
    split at hq
    · cases hq
    rename_i hnp
    have okn : NdOk n := by have := hok p hpN; rw [hcc] at this; exact this
    refine c25 ?_
    unfold B25
    refine jn_cut (fun σ w => σ = [] ∧ sat E w (lkI tb A N s k0 (c + (B - acc.1.length)) rb lb sm 0 acc * R)) ?_ ?_
    · intro kk hk
      have h1 : ¬ (p : Int) < 1 := by omega
      have h2 : ¬ (s.fresh : Int) ≤ (p : Int) := by omega
      simp only [h1, ↓opsA, opsB, if_true, if_false, ↓reduceIte]
      have h3 : sat E w (pts tb (.cells [Value.int .i64 s.root, .int .i64 s.free, .int .i64 s.fresh, .pointer (some ⟨A.q, 0, none⟩)].toArray 73 (0, 0)) * (omap sm (seenM acc.1) * (pX A N s.cc 0 k0 (c + (B - acc.1.length)) * (rpI rb 0 acc.1 * (lsI lb acc.2 * R))))) := h.perm (by unfold lkI trT; ac_rfl)
      refine ld_in (b := tb) (v := .int .i64 s.fresh) h3 rfl ?_
      simp only [h2, ↓opsA, opsB, if_true, if_false, ↓reduceIte]
      refine look1_ld (b := sm) h3 ?_
      rw [seen_look, if_neg hps]
      simp only [Option.getD_none, ↓opsA, opsB, if_true, if_false, ↓reduceIte]
      exact hk _ _ ⟨rfl, h⟩
    clear h
    rintro σ w ⟨rfl, h⟩
    rw [fin_nil]
    have h3 : sat E w (omap sm (seenM acc.1) * (rpI rb 0 acc.1 * (trT tb A N s 0 k0 (c + (B - acc.1.length)) * (lsI lb acc.2 * R)))) := h.perm (by unfold lkI; ac_rfl)
    clear h
    refine update_sl (b := sm) h3 fun w h => ?_
    rw [seen_put hps] at h
    have h := h.perm (show _ = rpI rb 0 acc.1 * (omap sm (seenM (acc.1 ++ [p])) * (trT tb A N s 0 k0 (c + (B - acc.1.length)) * (lsI lb acc.2 * R))) by ac_rfl)
    obtain ⟨ra, rc, l, hl, h⟩ := sat_rpI.1 h
    simp only [↓opsA, opsB, if_true, if_false, ↓reduceIte]
    refine ld_in (b := rb) (v := .slice ra acc.1.length rc) h rfl ?_
    refine buildSlice_sl (e := 3) (cs := [Value.int .i64 p].toArray) h (fun w => by kernel_rfl) fun b3 w h => ?_
    have h := h.owns (.slice ra acc.1.length rc)
    refine append_sl h [nv3 p] rfl (.inr ⟨b3, 0, _, 3, (0, 0), rfl, h.drop.pts_get, fun j u hj => by simpa [nv3] using hj⟩) (by simp [nv3, Value.oneCell']) (by omega) (by omega) fun pv w h => ?_
    obtain ⟨pa, pc, rfl, _, _, _⟩ := osl_shape h
    try simp only [↓opsA, opsB, if_true, if_false, ↓reduceIte]
    have h := h.perm (show _ = pts rb (.cells [Value.int .i64 0, .slice ra acc.1.length rc, .slice none 0 0, .slice none 0 0, .int .i64 (l : Nat)].toArray 31 (0, 0)) * (osl 3 1 (.slice pa (acc.1.length + 1) pc) (acc.1.length + 1) (acc.1.map nv3 ++ [nv3 p]) * (pts b3 (.cells [Value.int .i64 p].toArray 3 (0, 0)) * (omap sm (seenM (acc.1 ++ [p])) * (trT tb A N s 0 k0 (c + (B - acc.1.length)) * (lsI lb acc.2 * R))))) by ac_rfl)
    refine store_at (b := rb) h rfl (by simp) fun w h => ?_
    have h : sat E w (lkI tb A N s k0 (c + (B - (acc.1.length + 1)) + 1) rb lb sm 0 (acc.1 ++ [p], acc.2) * R) := by
      have h4 : sat E w (rpI rb 0 (acc.1 ++ [p]) * (pts b3 (.cells [Value.int .i64 p].toArray 3 (0, 0)) * (omap sm (seenM (acc.1 ++ [p])) * (trT tb A N s 0 k0 (c + (B - acc.1.length)) * (lsI lb acc.2 * R))))) :=
        sat_rpI.2 ⟨pa, pc, l, hl, by rw [List.map_append, List.length_append]; exact h⟩
      have e1 : c + (B - acc.1.length) = c + (B - (acc.1.length + 1)) + 1 := by omega
      rw [e1] at h4
      have h4 := h4.perm (show _ = pts b3 (.cells [Value.int .i64 p].toArray 3 (0, 0)) * (lkI tb A N s k0 (c + (B - (acc.1.length + 1)) + 1) rb lb sm 0 (acc.1 ++ [p], acc.2) * R) by unfold lkI; ac_rfl)
      exact h4.drop
    generalize hc2 : c + (B - (acc.1.length + 1)) = c2 at h
    refine pvv_of (v := .agg (vcells tb).toArray) (fun w => by kernel_rfl) ?_
    refine box_sl h fun cb w h => ?_
    have h : sat E w (pts cb (.cells (vcells tb).toArray 124 (0, 0)) * (trT tb A N s 0 k0 (c2 + 1) * (rpI rb 0 (acc.1 ++ [p]) * (lsI lb acc.2 * (omap sm (seenM (acc.1 ++ [p])) * R))))) := h.perm (by unfold lkI; show pts cb (.cells (vcells tb).toArray 124 (0, 0)) * _ = _; ac_rfl)
    have h := to_view le hok h
    have hrd : readS N (sv s) p = some n := by unfold readS sv; rw [if_pos hpN]; simp only [hcc]
    refine read_spec (C := Cv cb tb A N s k0 le) hrd h fun lv xs w hxs _ h => ?_
    obtain ⟨hfew, hxl⟩ := ok_few okn hxs
    have h := h.perm (show _ = chg (Cv cb tb A N s k0 le) c2 (sv s) * (osl 67 3 lv xs.length (elv xs) * (pers (evP xs) * (rpI rb 0 (acc.1 ++ [p]) * (lsI lb acc.2 * (omap sm (seenM (acc.1 ++ [p])) * R))))) by ac_rfl)
    have h := of_view h
    obtain ⟨a, c1, rfl, _, _, _⟩ := osl_shape h.drop
    refine alloc_sl h fun n0 w h => ?_
    have h : sat E w (pts n0 (.cells [Value.bool false, .slice none 0 0].toArray 63 (0, 0)) * _) := h
    refine store_all (b := n0) h (vs := [Value.bool n.leaf, .slice a xs.length c1]) rfl rfl (by simp [Value.oneCell']) fun w h => ?_
    let Q : HP := bxN n0 n.leaf (.slice a xs.length c1) * (osl 67 3 (.slice a xs.length c1) xs.length (elv xs) * (pers (evP xs) * R))
    have hQ : Q = bxN n0 n.leaf (.slice a xs.length c1) * (osl 67 3 (.slice a xs.length c1) xs.length (elv xs) * (pers (evP xs) * R)) := rfl
    clear_value Q
    have h : sat E w (lkI tb A N s k0 c2 rb lb sm 0 (acc.1 ++ [p], acc.2) * Q) := by
      rw [hQ]
      exact h.perm (by unfold lkI bxN; ac_rfl)
    have hqn : ∀ {w : World} {Y : HP}, sat E w (Y * Q) → sat E w (bxN n0 n.leaf (.slice a xs.length c1) * (osl 67 3 (.slice a xs.length c1) xs.length (elv xs) * (pers (evP xs) * (Y * R)))) := fun h => by rw [hQ] at h; exact h.perm (by ac_rfl)
    have hqr : Rds Q (.slice a xs.length c1) xs.length (elv xs) := by rw [hQ]; exact Rds.osl.left.right
    have hqe : ∀ x ∈ xs, EvR Q x := fun x hx => by rw [hQ]; exact ((evP_R x hx).left.right).right
    have hnn : n = ⟨n.leaf, esv xs⟩ := by rw [hxs]
    have htb : ∀ {w : World} {Y : HP} {c' : Nat} {acc' : Acc}, sat E w (lkI tb A N s k0 c' rb lb sm 0 acc' * Y) → sat E w (pts tb (.cells [Value.int .i64 s.root, .int .i64 s.free, .int .i64 s.fresh, .pointer (some ⟨A.q, 0, none⟩)].toArray 73 (0, 0)) * (pX A N s.cc 0 k0 c' * (rpI rb 0 acc'.1 * (lsI lb acc'.2 * (omap sm (seenM acc'.1) * Y))))) := fun h => h.perm (by unfold lkI trT; ac_rfl)
    refine jn_cut (fun σ w => σ = [] ∧ sat E w (lkI tb A N s k0 c2 rb lb sm 0 (acc.1 ++ [p], acc.2) * Q)) ?_ ?_
    · intro kk hk
      try simp only [↓opsA, opsB, if_true, if_false, ↓reduceIte]
      refine ld_in (b := tb) (v := .int .i64 s.root) (htb h) rfl ?_
      try simp only [↓opsA, opsB, if_true, if_false, ↓reduceIte]
      by_cases hroot : p = s.root
      · have h1 : (p : Int) = (s.root : Int) := by omega
        simp only [h1, decide_true, ↓opsA, opsB, if_true, if_false, ↓reduceIte]
        exact hk _ _ ⟨rfl, h⟩
      · have h1 : ¬ (p : Int) = (s.root : Int) := by omega
        have hpoor : n.poor = false := by
          cases e : n.poor
          · rfl
          · exact absurd ⟨hroot, e⟩ hnp
        simp only [h1, ↓opsA, opsB, if_true, if_false, ↓reduceIte]
        refine jn_cut (fun σ w => σ = [] ∧ sat E w (lkI tb A N s k0 c2 rb lb sm 0 (acc.1 ++ [p], acc.2) * Q)) ?_ ?_
        · intro kk2 hk2
          try simp only [↓opsA, opsB, if_true, if_false, ↓reduceIte]
          refine ld_agg (b := n0) (xs := [Value.bool n.leaf, .slice a xs.length c1]) (hqn h) rfl ?_
          refine poor_spec h hqr.right hfew fun w h => ?_
          rw [← hnn, hpoor]
          simp only [↓opsA, opsB, if_true, if_false, ↓reduceIte]
          exact hk2 _ _ ⟨rfl, h⟩
        · clear h
          rintro σ w ⟨rfl, h⟩
          rw [fin_nil]
          refine ld_agg (b := n0) (xs := [Value.bool n.leaf, .slice a xs.length c1]) (hqn h) rfl ?_
          refine bytes_spec h hqr.right hfew fun w h => ?_
          have hbl := bytes_le hfew n.leaf
          generalize (⟨n.leaf, esv xs⟩ : Nd).bytes = bn at *
          obtain ⟨ra, rc, l, hl, h⟩ := sat_rpI.1 (h.perm (show _ = rpI rb 0 (acc.1 ++ [p]) * (trT tb A N s 0 k0 c2 * (lsI lb acc.2 * (omap sm (seenM (acc.1 ++ [p])) * Q))) by unfold lkI; ac_rfl))
          have hback : ∀ {w : World} {l : Nat}, l ≤ 3000000 → sat E w (pts rb (.cells [Value.int .i64 (0 : Nat), .slice ra (acc.1 ++ [p]).length rc, .slice none 0 0, .slice none 0 0, .int .i64 (l : Nat)].toArray 31 (0, 0)) * (osl 3 1 (.slice ra (acc.1 ++ [p]).length rc) (acc.1 ++ [p]).length ((acc.1 ++ [p]).map nv3) * (trT tb A N s 0 k0 c2 * (lsI lb acc.2 * (omap sm (seenM (acc.1 ++ [p])) * Q))))) → sat E w (lkI tb A N s k0 c2 rb lb sm 0 (acc.1 ++ [p], acc.2) * Q) := fun hl h =>
            (sat_rpI.2 ⟨ra, rc, _, hl, h⟩).perm (by unfold lkI; ac_rfl)
          try simp only [↓opsA, opsB, if_true, if_false, ↓reduceIte]
          refine ld_in (b := rb) (v := .int .i64 (l : Nat)) h rfl ?_
          try simp only [↓opsA, opsB, if_true, if_false, ↓reduceIte]
          have hset : ∀ {w : World}, sat E w (pts rb (.cells [Value.int .i64 (0 : Nat), .slice ra (acc.1 ++ [p]).length rc, .slice none 0 0, .slice none 0 0, .int .i64 (l : Nat)].toArray 31 (0, 0)) * (osl 3 1 (.slice ra (acc.1 ++ [p]).length rc) (acc.1 ++ [p]).length ((acc.1 ++ [p]).map nv3) * (trT tb A N s 0 k0 c2 * (lsI lb acc.2 * (omap sm (seenM (acc.1 ++ [p])) * Q))))) → efu prog (Instr.storeAt 3 (.pointer (some ⟨rb, 0 + 4, none⟩)) (.int .i64 bn)) w fun u w => kk [] w := fun {w} h => by
            refine store_at (b := rb) h rfl (by simp) fun w h => ?_
            exact hk _ _ ⟨rfl, hback hbl h⟩
          by_cases h0 : l = 0
          · have h0' : (l : Int) = 0 := by omega
            simp only [h0', decide_true, ↓opsA, opsB, if_true, if_false, ↓reduceIte]
            exact hset h
          · have h0' : ¬ (l : Int) = 0 := by omega
            simp only [h0', ↓opsA, opsB, if_true, if_false, ↓reduceIte]
            refine ld_in (b := rb) (v := .int .i64 (l : Nat)) h rfl ?_
            simp only [↓opsA, opsB, if_true, if_false, ↓reduceIte]
            refine cd_dec (fun _ => hset h) (fun _ => hk _ _ ⟨rfl, hback hl h⟩)
    clear h
    rintro σ w ⟨rfl, h⟩
    rw [fin_nil, o_field]
    refine ld_in (b := n0) (xs := [Value.bool n.leaf, .slice a xs.length c1]) (v := .slice a xs.length c1) (hqn h) rfl ?_
    rw [o_len]
    have hal : (acc.1 ++ [p]).length = acc.1.length + 1 := by simp
    -- one element
    cases hlf : n.leaf
    · rw [hlf] at hq hQ hqn
      simp only [Bool.false_eq_true, if_false] at hq
      obtain ⟨q1, hq1, hq2⟩ := Option.bind_eq_some_iff.1 hq
      cases hq2
      have hqB : q1.2.1.length ≤ B := hqB
      have hq1 : lookKids (lookS N s.root s.fresh s.cc f) (esv xs) true 0 (acc.1 ++ [p], acc.2) = some q1 := by rw [hxs]; exact hq1
      refine lp_nat (fun r σ w => ∃ (i high : Nat) (ac : Acc), σ = [.int .i64 high, .int .i64 i] ∧ r = xs.length - i ∧ i ≤ xs.length ∧ high ≤ f ∧ lookKids (lookS N s.root s.fresh s.cc f) ((esv xs).drop i) (decide (i = 0)) high ac = some q1 ∧ ac.1.length ≤ q1.2.1.length ∧
        sat E w (lkI tb A N s k0 (c + (B - ac.1.length)) rb lb sm 0 ac * Q)) xs.length ⟨0, 0, _, rfl, rfl, by omega, by omega, hq1, ?_, by rw [hal, hc2]; exact h⟩ ?_
      · rw [hal]; exact hlen
      clear h
      rintro r σ w again ⟨i, high, ac, rfl, rfl, hi, hhigh, hkd, hacl, h⟩ hag
      try simp only [↓opsA, opsB, if_true, if_false, ↓reduceIte]
      refine cd_dec (fun hlt => ?_) (fun hge => ?_)
      · have hlt : i < xs.length := by omega
        have hd : (esv xs).drop i = xs[i].e :: (esv xs).drop (i + 1) := by
          rw [List.drop_eq_getElem_cons (by rw [esv_len]; exact hlt), esv_at xs hlt]
        rw [hd, lookKids] at hkd
        obtain ⟨q3, hq3, hkd⟩ := Option.bind_eq_some_iff.1 hkd
        split at hkd
        · cases hkd
        rename_i hsame
        have hq3l := lookS_len _ _ _ _ hq3
        have hq3m := lookKids_len (fun p acc q h => Nat.le_of_lt (lookS_len f p acc q h)) _ _ _ _ _ hkd
        refine jn_cut (fun σ w => σ = [.int .i64 q3.1] ∧ q3.1 ≤ f ∧ sat E w (lkI tb A N s k0 (c + (B - q3.2.1.length)) rb lb sm 0 q3.2 * Q)) ?_ ?_
        · intro kk hk
          clear hag
          obtain ⟨b, o, hab, hld⟩ := ld_ev h hqr.right hlt
          rw [hab, o_index (by omega) (by omega)]
          simp only [Int.toNat_natCast]
          refine hld ?_
          refine alloc_sl h fun e0 w h => ?_
          have h : sat E w (pts e0 (.cells [Value.slice none 0 0, .slice none 0 0, .int .i64 0].toArray 67 (0, 0)) * _) := h
          refine store_all (b := e0) h rfl rfl (ecells_one xs[i]) fun w h => ?_
          try simp only [↓opsA, opsB, if_true, if_false, ↓reduceIte]
          refine ld_in (b := n0) (xs := [Value.bool false, .slice a xs.length c1]) (v := .bool false) (hqn (h.perm (show _ = (pts e0 (.cells (ecells xs[i]).toArray 67 (0, 0)) * lkI tb A N s k0 (c + (B - ac.1.length)) rb lb sm 0 ac) * Q by ac_rfl))) rfl ?_
          simp only [↓opsA, opsB, if_true, if_false, ↓reduceIte]
          refine ld_in (b := e0) (xs := ecells xs[i]) (v := .int .i64 xs[i].e.pg) h rfl ?_
          have h := h.drop
          refine ih (by omega) hq3 (by omega) h fun w hq1000 h => ?_
          refine jn_cut (fun σ w => σ = [] ∧ sat E w (lkI tb A N s k0 (c + (B - q3.2.1.length)) rb lb sm 0 q3.2 * Q)) ?_ ?_
          · intro kk2 hk2
            try simp only [↓opsA, opsB, if_true, if_false, ↓reduceIte]
            by_cases h0 : i = 0
            · have h0' : ¬ (0 : Int) < (i : Int) := by omega
              simp only [h0', ↓opsA, opsB, if_true, if_false, ↓reduceIte]
              exact hk2 _ _ ⟨rfl, h⟩
            · have h0' : (0 : Int) < (i : Int) := by omega
              have hs : q3.1 = high := by
                refine Classical.byContradiction fun hne => hsame ⟨by simp [h0], hne⟩
              have hs' : (q3.1 : Int) = (high : Int) := by omega
              simp only [h0', hs', decide_true, ↓opsA, opsB, if_true, if_false, ↓reduceIte]
              exact hk2 _ _ ⟨rfl, h⟩
          · clear h
            rintro σ w ⟨rfl, h⟩
            rw [fin_nil]
            exact hk _ _ ⟨rfl, hq1000, h⟩
        · clear h
          rintro σ w ⟨rfl, hq1000, h⟩
          rw [pop_cons, fin_nil]
          try simp only [↓opsA, opsB, if_true, if_false, ↓reduceIte]
          rw [i64_of (n := (i : Int) + 1) (by omega) (by omega)]
          refine hag (xs.length - (i + 1)) _ _ (by omega) ⟨i + 1, q3.1, q3.2, rfl, rfl, by omega, hq1000, ?_, hq3m, h⟩
          have : decide (i + 1 = 0) = false := by simp
          rw [this]; exact hkd
      · have : i = xs.length := by omega
        subst this
        rw [List.drop_eq_nil_of_le (by rw [esv_len]; omega)] at hkd
        cases hkd
        try simp only [↓opsA, opsB, if_true, if_false, ↓reduceIte]
        rw [i64_of (n := (high : Int) + 1) (by omega) (by omega)]
        refine k w ?_ ?_
        · show high + 1 ≤ f + 1; omega
        · rw [hQ] at h
          exact (h.perm (show _ = bxN n0 false (.slice a xs.length c1) * (osl 67 3 (.slice a xs.length c1) xs.length (elv xs) * (pers (evP xs) * (lkI tb A N s k0 (c + (B - ac.1.length)) rb lb sm 0 ac * R))) by ac_rfl)).drop.drop.drop
    · rw [hlf] at hq hQ hqn
      simp only [if_true] at hq
      obtain ⟨lastF, hq1, hq2⟩ := Option.bind_eq_some_iff.1 hq
      cases hq2
      have hq1 : lookLeaf (esv xs) acc.2 = some lastF := by rw [hxs]; exact hq1
      refine lp_nat (fun r σ w => ∃ (i : Nat) (la : Option Bs), σ = [.int .i64 0, .int .i64 i] ∧ r = xs.length - i ∧ i ≤ xs.length ∧ lookLeaf ((esv xs).drop i) la = some lastF ∧
        sat E w (lkI tb A N s k0 c2 rb lb sm 0 (acc.1 ++ [p], la) * Q)) xs.length ⟨0, acc.2, rfl, rfl, by omega, hq1, h⟩ ?_
      clear h
      rintro r σ w again ⟨i, la, rfl, rfl, hi, hkd, h⟩ hag
      rw [pop_cons, pop_cons, fin_nil, o_lss]
      refine cd_dec (fun hlt => ?_) (fun hge => ?_)
      · have hlt : i < xs.length := by omega
        have hd : (esv xs).drop i = xs[i].e :: (esv xs).drop (i + 1) := by
          rw [List.drop_eq_getElem_cons (by rw [esv_len]; exact hlt), esv_at xs hlt]
        rw [hd, lookLeaf_cons] at hkd
        have hcond : xs[i].e.k ≠ [] ∧ ahead la xs[i].e.k = true := Classical.byContradiction fun hc => by rw [if_neg hc] at hkd; cases hkd
        rw [if_pos hcond] at hkd
        obtain ⟨hne, hord⟩ := hcond
        refine jn_cut (fun σ w => σ = [.int .i64 0] ∧ sat E w (lkI tb A N s k0 c2 rb lb sm 0 (acc.1 ++ [p], some xs[i].e.k) * Q)) ?_ ?_
        · intro kk hk
          clear hag
          obtain ⟨b, o, hab, hld⟩ := ld_ev h hqr.right hlt
          rw [hab, o_index (by omega) (by omega)]
          simp only [Int.toNat_natCast]
          refine hld ?_
          refine alloc_sl h fun e0 w h => ?_
          have h : sat E w (pts e0 (.cells [Value.slice none 0 0, .slice none 0 0, .int .i64 0].toArray 67 (0, 0)) * _) := h
          refine store_all (b := e0) h rfl rfl (ecells_one xs[i]) fun w h => ?_
          rw [o_field]
          refine ld_in (b := n0) (xs := [Value.bool true, .slice a xs.length c1]) (v := .bool true) (hqn (h.perm (show _ = (pts e0 (.cells (ecells xs[i]).toArray 67 (0, 0)) * lkI tb A N s k0 c2 rb lb sm 0 (acc.1 ++ [p], la)) * Q by ac_rfl))) rfl ?_
          rw [cd_true]
          have h : sat E w (pts e0 (.cells (ecells xs[i]).toArray 67 (0, 0)) * (lsI lb la * (trT tb A N s 0 k0 c2 * (rpI rb 0 (acc.1 ++ [p]) * (omap sm (seenM (acc.1 ++ [p])) * Q))))) := h.perm (by unfold lkI; ac_rfl)
          refine jn_cut (fun σ w => σ = [] ∧ sat E w (pts e0 (.cells (ecells xs[i]).toArray 67 (0, 0)) * (lsI lb la * (trT tb A N s 0 k0 c2 * (rpI rb 0 (acc.1 ++ [p]) * (omap sm (seenM (acc.1 ++ [p])) * Q)))))) ?_ ?_
          · intro kk2 hk2
            refine dr_sl h fun w h _ => ?_
            refine last_test hord (((hqe _ (List.getElem_mem _)).right).right.right) h fun w h => ?_
            exact hk2 _ _ ⟨rfl, h⟩
          · clear h
            rintro σ w ⟨rfl, h⟩
            rw [fin_nil]
            try simp only [↓opsA, opsB, if_true, if_false, ↓reduceIte]
            refine ld_in (b := e0) (xs := ecells xs[i]) (v := xs[i].kv) h rfl ?_
            have h := h.drop
            rw [hQ] at h
            have h := h.perm (show _ = pers (evP xs) * (lsI lb la * (trT tb A N s 0 k0 c2 * (rpI rb 0 (acc.1 ++ [p]) * (omap sm (seenM (acc.1 ++ [p])) * (bxN n0 true (.slice a xs.length c1) * (osl 67 3 (.slice a xs.length c1) xs.length (elv xs) * R)))))) by ac_rfl)
            have h := h.pers_new (ψ := immS (.slice xs[i].ka xs[i].e.k.length xs[i].kc) xs[i].e.k.length (xs[i].e.k.map bv)) fun I hI => (hI xs[i] (List.getElem_mem _)).1
            have h := h.perm (show _ = lsI lb la * (pers (immS (.slice xs[i].ka xs[i].e.k.length xs[i].kc) xs[i].e.k.length (xs[i].e.k.map bv)) * (trT tb A N s 0 k0 c2 * (rpI rb 0 (acc.1 ++ [p]) * (omap sm (seenM (acc.1 ++ [p])) * Q)))) by rw [hQ]; ac_rfl)
            refine lsI_store hne h fun w h => ?_
            exact hk _ _ ⟨rfl, h.perm (by unfold lkI; ac_rfl)⟩
        · clear h
          rintro σ w ⟨rfl, h⟩
          rw [pop_cons, fin_nil]
          try simp only [↓opsA, opsB, if_true, if_false, ↓reduceIte]
          rw [i64_of (n := (i : Int) + 1) (by omega) (by omega)]
          exact hag (xs.length - (i + 1)) _ _ (by omega) ⟨i + 1, some xs[i].e.k, rfl, rfl, by omega, hkd, h⟩
      · have : i = xs.length := by omega
        subst this
        rw [List.drop_eq_nil_of_le (by rw [esv_len]; omega)] at hkd
        cases hkd
        try simp only [↓opsA, opsB, if_true, if_false, ↓reduceIte]
        refine k w (by omega) ?_
        show sat E w (lkI tb A N s k0 (c + (B - (acc.1 ++ [p]).length)) rb lb sm 0 (acc.1 ++ [p], lastF) * R)
        rw [hal, hc2]
        rw [hQ] at h
        exact (h.perm (show _ = bxN n0 true (.slice a xs.length c1) * (osl 67 3 (.slice a xs.length c1) xs.length (elv xs) * (pers (evP xs) * (lkI tb A N s k0 c2 rb lb sm 0 (acc.1 ++ [p], lastF) * R))) by ac_rfl)).drop.drop.drop
end Go.Proofs.YtfaeklinhchidaaGreat

/-
  A key's value.
-/
set_option linter.all false
set_option maxRecDepth 100000
namespace Go.Proofs.YtfaeklinhchidaaGreat
open Go Hold
variable {E : World0} {w : World} {H R X : HP} {K : Value → World → Prop}
theorem leafT_spec {tb : Nat} {A : Ad} {N : Nat} (le : N ≤ 1000) {s : St} {k0 c f : Nat} {key : Bs} {kv : Value} {n : Nd} {i : Nat} {t : Bool} (hs : leafS N s key f s.root = some (n, i, t)) (hok : ∀ p, p < N → (s.cc p).Ok) (hkr : Rds R kv key.length (key.map bv))
    (h : sat E w (trT tb A N s 0 k0 (c + f) * R)) (k : ∀ lv xs w', esv xs = n.l → NdOk n → n.leaf = true → (i, t) = findP n key → sat E w' (osl 67 3 lv xs.length (elv xs) * (pers (evP xs) * (trT tb A N s 0 k0 c * R))) → K (.tuple #[nv n.leaf lv, .int .i64 i, .bool t]) w') :
    Calls prog 30 #[.pointer (some ⟨tb, 0, none⟩), kv] w (Ret K) := by
  obtain ⟨ka, kc, rfl, _, hkr, _⟩ := hkr.shape h.drop
  refine c30 ?_
  unfold B30
  refine alloc_sl h fun n0 w h => ?_
  have h : sat E w (pts n0 (.cells [Value.bool false, .slice none 0 0].toArray 63 (0, 0)) * (trT tb A N s 0 k0 (c + f) * R)) := h
  refine pvv_of (v := .agg (vcells tb).toArray) (fun w => by kernel_rfl) ?_
  refine box_sl h fun cb w h => ?_
  have h : sat E w (pts cb (.cells (vcells tb).toArray 124 (0, 0)) * (trT tb A N s 0 k0 (c + f) * (pts n0 (.cells [Value.bool false, .slice none 0 0].toArray 63 (0, 0)) * R))) := by
    have h : sat E w (pts cb (.cells (vcells tb).toArray 124 (0, 0)) * (pts n0 (.cells [Value.bool false, .slice none 0 0].toArray 63 (0, 0)) * (trT tb A N s 0 k0 (c + f) * R))) := h
    exact h.perm (by ac_rfl)
  rw [o_nil, o_field, o_field]
  refine ld_in (b := tb) (v := .int .i64 s.root) (xs := [Value.int .i64 s.root, .int .i64 s.free, .int .i64 s.fresh, .pointer (some ⟨A.q, 0, none⟩)]) (h.perm (show _ = pts tb (.cells [Value.int .i64 s.root, .int .i64 s.free, .int .i64 s.fresh, .pointer (some ⟨A.q, 0, none⟩)].toArray 73 (0, 0)) * (pX A N s.cc 0 k0 (c + f) * (pts cb (.cells (vcells tb).toArray 124 (0, 0)) * (pts n0 (.cells [Value.bool false, .slice none 0 0].toArray 63 (0, 0)) * R))) by unfold trT; ac_rfl)) rfl ?_
  have h := to_view le hok h
  have hrd : ∀ p, readS N (sv s) p = readS N s p := fun p => rfl
  refine lp_nat (fun q σ w => ∃ (p : Nat) (lf : Bool) (lv : Value), σ = [.int .i64 p] ∧ leafS N s key q p = some (n, i, t) ∧ lv.oneCell' = true ∧ sat E w (pts n0 (.cells [Value.bool lf, lv].toArray 63 (0, 0)) * (chg (Cv cb tb A N s k0 le) (c + q) (sv s) * R))) f ⟨s.root, false, .slice none 0 0, rfl, hs, rfl, h.perm (star_left_comm _ _ _)⟩ ?_
  clear h
  rintro q σ w again ⟨p, lf, lv0, rfl, hlf, hlv0, h⟩ hag
  rw [pop_cons, fin_nil, o_neInt]
  cases q with
  | zero => cases hlf
  | succ q =>
    unfold leafS at hlf
    by_cases hp0 : p = 0
    · rw [if_pos hp0] at hlf; cases hlf
    rw [if_neg hp0] at hlf
    obtain ⟨nn, hnn, hlf⟩ := Option.bind_eq_some_iff.1 hlf
    have hp0' : ¬ (p : Int) = 0 := by omega
    simp only [hp0', decide_false, Bool.not_false, cd_true]
    have h : sat E w (chg (Cv cb tb A N s k0 le) (c + q + 1) (sv s) * (pts n0 (.cells [Value.bool lf, lv0].toArray 63 (0, 0)) * R)) := h.perm (star_left_comm _ _ _)
    refine read_spec (C := Cv cb tb A N s k0 le) ((hrd p).trans hnn) h fun lv xs w hxs ok h => ?_
    obtain ⟨hfew, hxl⟩ := ok_few ok hxs
    obtain ⟨a, c1, rfl, _, _, _⟩ := osl_shape h
    have h := h.own n0
    refine store_all (b := n0) h (vs := [Value.bool nn.leaf, .slice a xs.length c1]) rfl rfl (by simp [Value.oneCell']) fun w h => ?_
    refine ld_agg (b := n0) h rfl ?_
    have hnn2 : nn = ⟨nn.leaf, esv xs⟩ := by rw [hxs]
    refine find_spec h (Rds.osl.left.right) (fun x hx => ((evP_R x hx).left.right).right) hkr.right.right.right.right (by rw [hxs]; exact ok.s) (by omega) fun w h => ?_
    rw [← hnn2]
    simp only [↓opsA, opsB, if_true, if_false, ↓reduceIte]
    refine ld_in (b := n0) (v := .bool nn.leaf) h rfl ?_
    have h := h.perm (show _ = pts n0 (.cells [Value.bool nn.leaf, .slice a xs.length c1].toArray 63 (0, 0)) * (osl 67 3 (.slice a xs.length c1) xs.length (elv xs) * (pers (evP xs) * (chg (Cv cb tb A N s k0 le) (c + q) (sv s) * R))) by ac_rfl)
    cases hl2 : nn.leaf
    · rw [hl2] at hlf h
      simp only [Bool.false_eq_true, if_false] at hlf
      obtain ⟨e, he, hlf2⟩ := Option.bind_eq_some_iff.1 hlf
      rw [cd_false]
      generalize (findP nn key).1 = j at *
      have hj : j < xs.length := by
        have := (List.getElem?_eq_some_iff.1 he).1
        rw [← hxs, esv_len] at this; exact this
      have hxe : xs[j].e = e := by
        rw [← hxs] at he
        rw [← esv_at xs hj]; exact (List.getElem?_eq_some_iff.1 he).2
      refine ld_in (b := n0) (v := .slice a xs.length c1) h rfl ?_
      have hrr : Rds (pts n0 (.cells [Value.bool false, .slice a xs.length c1].toArray 63 (0, 0)) * (osl 67 3 (.slice a xs.length c1) xs.length (elv xs) * (pers (evP xs) * (chg (Cv cb tb A N s k0 le) (c + q) (sv s) * R)))) (.slice a xs.length c1) xs.length (elv xs) := Rds.osl.left.right
      obtain ⟨b, o, rfl, _⟩ := ld_ev h hrr hj
      rw [o_index (by omega) (by omega)]
      simp only [↓opsA, opsB, if_true, if_false, ↓reduceIte, Int.toNat_natCast]
      have hpg : (elv xs)[j * 3 + 2]? = some (.int .i64 e.pg) := by
        have := take_cell (o := j * 3) (j := 2) (elv_at hj) rfl
        rw [this]; show some (Value.int .i64 (xs[j].e.pg)) = _; rw [hxe]
      refine ld_rd h hrr (j * 3 + 2) (by omega) hpg ?_
      refine hag q _ _ (by omega) ⟨e.pg, false, .slice (some ⟨b, o, none⟩) xs.length c1, rfl, hlf2, rfl, ?_⟩
      exact (h.perm (show _ = osl 67 3 (.slice (some ⟨b, o, none⟩) xs.length c1) xs.length (elv xs) * (pers (evP xs) * (pts n0 (.cells [Value.bool false, .slice (some ⟨b, o, none⟩) xs.length c1].toArray 63 (0, 0)) * (chg (Cv cb tb A N s k0 le) (c + q) (sv s) * R))) by ac_rfl)).drop.drop
    · rw [hl2] at hlf h
      simp only [if_true] at hlf
      obtain ⟨rfl, hft⟩ : nn = n ∧ findP nn key = (i, t) := by
        have := Option.some.inj hlf
        exact ⟨congrArg Prod.fst this, congrArg Prod.snd this⟩
      rw [hft]
      rw [cd_true]
      refine ld_agg (b := n0) h rfl ?_
      refine res_all (b := n0) h (vs := [Value.bool true, .slice a xs.length c1]) rfl rfl (by simp [Value.oneCell']) fun w h => ?_
      have := k (.slice a xs.length c1) xs w hxs ok hl2 hft.symm
      rw [hl2] at this
      refine this ?_
      have h := h.drop.perm (show _ = chg (Cv cb tb A N s k0 le) (c + q) (sv s) * (osl 67 3 (.slice a xs.length c1) xs.length (elv xs) * (pers (evP xs) * R)) by ac_rfl)
      exact (trT_le (c' := c) (of_view h) (by omega)).perm (by ac_rfl)
end Go.Proofs.YtfaeklinhchidaaGreat

/-
  Delete.
-/
set_option linter.all false
set_option maxRecDepth 100000
namespace Go.Proofs.YtfaeklinhchidaaGreat
open Go Hold
variable {E : World0} {w : World} {H R X : HP} {K : Value → World → Prop}
/-- A key is gone from a leaf; no page takes what this answers where it isn't there. -/
def delG (key : Bs) (n : Nd) : Nd := if (findP n key).2 then delF key n else ⟨true, [⟨List.replicate 300 0, [], 0⟩]⟩
theorem writeS_bad {N : Nat} {s : St} {p : Nat} {low : Bs} {r : List En × St} (h : writeS N s p low ⟨true, [⟨List.replicate 300 0, [], 0⟩]⟩ = some r) : False := by
  unfold writeS at h
  have hb : ¬ (⟨true, [⟨List.replicate 300 0, [], 0⟩]⟩ : Nd).bytes ≤ 253 := by unfold Nd.bytes Nd.one; simp
  rw [if_neg hb] at h
  obtain ⟨⟨o, s1⟩, h1, h⟩ := Option.bind_eq_some_iff.1 h
  have : halfP ⟨true, [⟨List.replicate 300 0, [], 0⟩]⟩ = 1 := rfl
  rw [this] at h
  cases h
theorem delG_there {key : Bs} {n : Nd} (h : ∃ N s p low r, writeS N s p low (delG key n) = some r) : (findP n key).2 = true ∧ delG key n = delF key n := by
  obtain ⟨N, s, p, low, r, h⟩ := h
  unfold delG at h ⊢
  by_cases ht : (findP n key).2 = true
  · exact ⟨ht, if_pos ht⟩
  · rw [if_neg ht] at h
    exact (writeS_bad h).elim
theorem elv_del {xs : List Ev} {i : Nat} (h : i < xs.length) : (elv xs).take (i * 3) ++ (elv xs).drop ((i + 1) * 3) = elv (xs.eraseIdx i) := by
  have this : elv xs = elv (xs.take i) ++ elv (xs.drop i) := by rw [← elv_app, List.take_append_drop]
  have e1 : (elv xs).take (i * 3) = elv (xs.take i) := by
    rw [this, List.take_left' (by rw [elv_len, List.length_take]; omega)]
  have e2 : (elv xs).drop ((i + 1) * 3) = elv (xs.drop (i + 1)) := fm_drop ecells_len xs (i + 1)
  rw [e1, e2, ← elv_app, List.eraseIdx_eq_take_drop_succ]
theorem del_leaf {kb : Nat} {ka : Option Addr} {kc : Nat} {key : Bs} {φ : PP} (hk : key.length ≤ 1000) (hkr : ∀ I, φ.p I → RdS I (.slice ka key.length kc) key.length (key.map bv)) :
    LeafSpec (.func (.func 31) #[] #[.pointer (some ⟨kb, 0, none⟩)]) (delG key) (boxS kb (.slice ka key.length kc) * (pers φ * R)) := by
  intro E w K Z lv xs ok wr h k
  obtain ⟨ht, hdg⟩ := delG_there wr
  obtain ⟨hfew, hxl⟩ := ok_few ok (xs := xs) rfl
  obtain ⟨a, c1, rfl, hc1, _, _⟩ := osl_shape h
  obtain ⟨hfl, hfl2⟩ := find_le ⟨true, esv xs⟩ key rfl
  have hi := hfl2 ht
  have hlen : (⟨true, esv xs⟩ : Nd).l.length = xs.length := esv_len xs
  rw [hlen] at hi
  refine oCall_body Tryz.func31 (by kernel_rfl) (by kernel_rfl) ?_
  refine c31 ?_
  unfold B31
  have hFr : Rds (pers (evP xs) * (Z * (boxS kb (.slice ka key.length kc) * (pers φ * R)))) (.slice ka key.length kc) key.length (key.map bv) := by
    have : Rds (pers φ * R) (.slice ka key.length kc) key.length (key.map bv) := fun E w hs => hkr _ hs.pers_get
    exact this.right.right.right
  have hFe : ∀ x ∈ xs, EvR (pers (evP xs) * (Z * (boxS kb (.slice ka key.length kc) * (pers φ * R)))) x := fun x hx => (evP_R x hx).left
  refine box_sl h fun n0 w h => ?_
  have h : sat E w (pts n0 (.cells [Value.bool true, .slice a xs.length c1].toArray 63 (0, 0)) * (osl 67 3 (.slice a xs.length c1) xs.length (elv xs) * (pers (evP xs) * (Z * (boxS kb (.slice ka key.length kc) * (pers φ * R)))))) := h
  refine alloc_sl h fun t1 w h => ?_
  have h : sat E w (pts t1 (.cells [Value.bool false, .slice none 0 0].toArray 63 (0, 0)) * (pts n0 (.cells [Value.bool true, .slice a xs.length c1].toArray 63 (0, 0)) * (osl 67 3 (.slice a xs.length c1) xs.length (elv xs) * (pers (evP xs) * (Z * (boxS kb (.slice ka key.length kc) * (pers φ * R))))))) := h
  refine ld_agg (b := n0) h rfl ?_
  refine ld_in (b := kb) (v := .slice ka key.length kc) (h.perm (show _ = boxS kb (.slice ka key.length kc) * (pts t1 (.cells [Value.bool false, .slice none 0 0].toArray 63 (0, 0)) * (pts n0 (.cells [Value.bool true, .slice a xs.length c1].toArray 63 (0, 0)) * (osl 67 3 (.slice a xs.length c1) xs.length (elv xs) * (pers (evP xs) * (Z * (pers φ * R)))))) by ac_rfl)) rfl ?_
  refine find_spec (leaf := true) h (Rds.osl.left.right.right) (fun x hx => ((hFe x hx).right).right.right) hFr.right.right.right ok.s (by omega) fun w h => ?_
  simp only [↓opsA, opsB, if_true, if_false, ↓reduceIte]
  unfold delF at hdg
  generalize hix : (findP ⟨true, esv xs⟩ key).1 = i at *
  refine ld_in (b := n0) (v := .slice a xs.length c1) h rfl ?_
  rw [i64_of (by omega) (by omega)]
  have h := h.perm (show _ = osl 67 3 (.slice a xs.length c1) xs.length (elv xs) * (pts n0 (.cells [Value.bool true, .slice a xs.length c1].toArray 63 (0, 0)) * (pts t1 (.cells [Value.bool false, .slice none 0 0].toArray 63 (0, 0)) * (pers (evP xs) * (Z * (boxS kb (.slice ka key.length kc) * (pers φ * R)))))) by ac_rfl)
  refine DeleteE_spec h hi (by omega) (elv_one xs) fun a3 c3 w h => ?_
  rw [elv_del hi] at h
  have hyl : (xs.eraseIdx i).length = xs.length - 1 := by rw [List.length_eraseIdx, if_pos hi]
  try simp only [↓opsA, opsB, if_true, if_false, ↓reduceIte]
  have h := h.perm (show _ = pts n0 (.cells [Value.bool true, .slice a xs.length c1].toArray 63 (0, 0)) * (pts t1 (.cells [Value.bool false, .slice none 0 0].toArray 63 (0, 0)) * (osl 67 3 (.slice a3 (xs.length - 1) c3) (xs.length - 1) (elv (xs.eraseIdx i)) * (pers (evP xs) * (Z * (boxS kb (.slice ka key.length kc) * (pers φ * R)))))) by ac_rfl)
  refine store_at (b := n0) h rfl (by simp) fun w h => ?_
  refine ld_agg (b := n0) h rfl ?_
  have h := h.own t1
  refine res_all (b := t1) h (vs := [Value.bool true, .slice a3 (xs.length - 1) c3]) rfl rfl (by intro u hu; simp only [List.mem_cons, List.not_mem_nil, or_false] at hu; exact hu.elim (fun e => e ▸ rfl) (fun e => e ▸ rfl)) fun w h => ?_
  have hsub : ∀ y ∈ xs.eraseIdx i, y ∈ xs := fun y hy => List.mem_of_mem_eraseIdx hy
  refine k (.slice a3 (xs.length - 1) c3) (xs.eraseIdx i) w ?_ ⟨by omega, fun y hy => hfew.2 y (hsub y hy)⟩ ?_
  · rw [hdg]
    congr 1
    unfold esv
    rw [List.eraseIdx_eq_take_drop_succ, List.eraseIdx_eq_take_drop_succ, List.map_append, List.map_take, List.map_drop]
  · have h := h.perm (show _ = pts t1 (.cells [Value.bool true, .slice a3 (xs.length - 1) c3].toArray 63 (0, 0)) * (pts n0 (.cells [Value.bool true, .slice a3 (xs.length - 1) c3].toArray 63 (0, 0)) * (pers (evP xs) * (osl 67 3 (.slice a3 (xs.length - 1) c3) (xs.length - 1) (elv (xs.eraseIdx i)) * (Z * (boxS kb (.slice ka key.length kc) * (pers φ * R)))))) by ac_rfl)
    have h := (h.drop.drop).pers_mono (ψ := evP (xs.eraseIdx i)) fun I hI y hy => hI y (hsub y hy)
    rw [hyl]
    exact h.perm (by ac_rfl)
theorem Delete_none {tb : Nat} {A : Ad} {N : Nat} (hN : N ≤ 1000) {k0 c f : Nat} {s : St} {key : Bs} {ka : Option Addr} {kc : Nat} {n : Nd} {i : Nat} (hl : leafS N s key f s.root = some (n, i, false)) (hok : ∀ p, p < N → (s.cc p).Ok) (hk1 : 1 ≤ key.length) (hk2 : key.length ≤ 64) (hkr : Rds R (.slice ka key.length kc) key.length (key.map bv))
    (h : sat E w (trT tb A N s 0 k0 (c + f) * R)) (k : ∀ w', sat E w' (trT tb A N s 0 k0 c * R) → K (.int .i64 4) w') :
    Calls prog 9 #[.pointer (some ⟨tb, 0, none⟩), .slice ka key.length kc] w (Ret K) := by
  refine c9 ?_
  unfold B9
  refine box_sl h fun kb w h => ?_
  have h : sat E w (boxS kb (.slice ka key.length kc) * (trT tb A N s 0 k0 (c + f) * R)) := h
  simp only [↓opsA, opsB, if_true, if_false, ↓reduceIte]
  refine ld_in (b := kb) (v := .slice ka key.length kc) h rfl ?_
  refine isKey_spec hk1 hk2 ?_
  simp only [↓opsA, opsB, if_true, if_false, ↓reduceIte]
  refine ld_in (b := kb) (v := .slice ka key.length kc) h rfl ?_
  refine leafT_spec hN hl hok (hkr.right (X := boxS kb (.slice ka key.length kc))) (h.perm (star_left_comm _ _ _)) fun lv xs w hxs ok hlf _ h => ?_
  obtain ⟨a, c1, rfl, _, _, _⟩ := osl_shape h
  unfold nv
  simp only [↓opsA, opsB, if_true, if_false, ↓reduceIte]
  refine alloc_sl h fun n0 w h => ?_
  have h : sat E w (pts n0 (.cells [Value.bool false, .slice none 0 0].toArray 63 (0, 0)) * _) := h
  refine store_all (b := n0) h (vs := [Value.bool n.leaf, .slice a xs.length c1]) rfl rfl (by simp [Value.oneCell']) fun w h => ?_
  try simp only [↓opsA, opsB, if_true, if_false, ↓reduceIte]
  refine k w ?_
  exact (h.drop.drop.drop.perm (show _ = boxS kb (.slice ka key.length kc) * (trT tb A N s 0 k0 c * R) by ac_rfl)).drop
theorem Delete_spec {M : Nat → St → Nd → Nat → Option (Nd × St)} (hM : MendSpec M) {tb : Nat} {A : Ad} {N : Nat} (hN : N ≤ 1000) {k0 c f : Nat} {s s' : St} {key : Bs} {ka : Option Addr} {kc : Nat} {φ : PP} {n : Nd} {i : Nat} (hl : leafS N s key f s.root = some (n, i, true))
    (hd : doS M N (delG key) key s = some s') (hw0 : s.w = 0) (hok : ∀ p, p < N → (s.cc p).Ok) (hk1 : 1 ≤ key.length) (hk2 : key.length ≤ 64) (hkr : ∀ I, φ.p I → RdS I (.slice ka key.length kc) key.length (key.map bv))
    (h : sat E w (trT tb A N s 0 k0 (c + 30 + f) * (pers φ * R))) (k : ∀ w', sat E w' (trT tb A N s' 100 k0 c * (pers φ * R)) → (∀ p, p < N → (s'.cc p).Ok) → K (.int .i64 0) w') :
    Calls prog 9 #[.pointer (some ⟨tb, 0, none⟩), .slice ka key.length kc] w (Ret K) := by
  refine c9 ?_
  unfold B9
  refine box_sl h fun kb w h => ?_
  have h : sat E w (boxS kb (.slice ka key.length kc) * (trT tb A N s 0 k0 (c + 30 + f) * (pers φ * R))) := h
  simp only [↓opsA, opsB, if_true, if_false, ↓reduceIte]
  refine ld_in (b := kb) (v := .slice ka key.length kc) h rfl ?_
  refine isKey_spec hk1 hk2 ?_
  simp only [↓opsA, opsB, if_true, if_false, ↓reduceIte]
  refine ld_in (b := kb) (v := .slice ka key.length kc) h rfl ?_
  have hkr2 : Rds (pers φ * R) (.slice ka key.length kc) key.length (key.map bv) := fun E w hs => hkr _ hs.pers_get
  refine leafT_spec hN hl hok (hkr2.right (X := boxS kb (.slice ka key.length kc))) (h.perm (star_left_comm _ _ _)) fun lv xs w hxs ok hlf _ h => ?_
  obtain ⟨a, c1, rfl, _, _, _⟩ := osl_shape h
  unfold nv
  simp only [↓opsA, opsB, if_true, if_false, ↓reduceIte]
  refine alloc_sl h fun n0 w h => ?_
  have h : sat E w (pts n0 (.cells [Value.bool false, .slice none 0 0].toArray 63 (0, 0)) * _) := h
  refine store_all (b := n0) h (vs := [Value.bool n.leaf, .slice a xs.length c1]) rfl rfl (by simp [Value.oneCell']) fun w h => ?_
  try simp only [↓opsA, opsB, if_true, if_false, ↓reduceIte]
  have h := h.drop.drop.drop.perm (show _ = boxS kb (.slice ka key.length kc) * (trT tb A N s 0 k0 (c + 30) * (pers φ * R)) by ac_rfl)
  refine ld_in (b := kb) (v := .slice ka key.length kc) h rfl ?_
  refine pvv_of (v := .func (.func 31) #[] #[.pointer (some ⟨kb, 0, none⟩)]) (fun w => by kernel_rfl) ?_
  have h := (h.perm (show _ = pers φ * (trT tb A N s 0 k0 (c + 30) * (boxS kb (.slice ka key.length kc) * R)) by ac_rfl)).pers_dup
  have h := h.perm (show _ = trT tb A N s 0 k0 (c + 30) * (pers φ * (boxS kb (.slice ka key.length kc) * (pers φ * R))) by ac_rfl)
  refine do_spec hM hN hd hw0 hok (del_leaf (by omega) hkr) hkr h fun w h hok' => k w ?_ hok'
  have h := h.perm (show _ = pers φ * (boxS kb (.slice ka key.length kc) * (trT tb A N s' 100 k0 c * (pers φ * R))) by ac_rfl)
  exact h.drop.drop
end Go.Proofs.YtfaeklinhchidaaGreat

/-
  slices.Grow and Concat at the entries of nodes.
-/
set_option linter.all false
set_option maxRecDepth 100000
namespace Go.Proofs.YtfaeklinhchidaaGreat
open Go Hold
variable {E : World0} {w : World} {H R X : HP} {K : Value → World → Prop}
theorem GrowE_spec {n : Nat} (h : sat E w H) (hn : n ≤ 1000) (k : ∀ v w', sat E w' (osl 67 3 v 0 [] * H) → K v w') : Calls prog 137 #[.slice none 0 0, .int .i64 n] w (Ret K) := by
  refine c137 ?_
  unfold B137
  have h0 : ¬ (n : Int) < 0 := by omega
  unfold jn
  simp only [h0, ↓opsA, opsB, if_true, if_false, ↓reduceIte]
  rw [o_capE]
  simp only [↓opsA, opsB, if_true, if_false, ↓reduceIte]
  rw [i64_of (n := ((0 : Nat) : Int) - ((0 : Nat) : Int)) (by omega) (by omega), show ((0 : Nat) : Int) - ((0 : Nat) : Int) = 0 from rfl, i64_of (n := (n : Int) - 0) (by omega) (by omega), show (n : Int) - 0 = n by omega]
  refine cd_dec (fun hp => ?_) (fun hz => ?_)
  · have hp : 0 < n := by omega
    rw [o_capE, o_slice_h (by omega) (by omega), cutA_no]
    try simp only [↓opsA, opsB, if_true, if_false, ↓reduceIte]
    refine append_zsN h (a := none) (n := 0) (c := 0) (k' := n) (xs := []) rfl (.inl rfl) hp (by omega) (by omega) (by omega) (by omega) fun zs v' w hzl h => ?_
    rw [Nat.zero_add] at h
    obtain ⟨b', c', sp', rfl, hal, hat, hac, ham, h⟩ := row_open h (by omega)
    try simp only [↓opsA, opsB, if_true, if_false, ↓reduceIte]
    rw [o_slice_h (by omega) (by omega), cutA_no]
    try simp only [↓opsA, opsB, if_true, if_false, ↓reduceIte]
    refine k _ w ?_
    exact sat_osl.2 (.inr ⟨b', c', [] ++ zs ++ sp', rfl, rfl, by rw [List.nil_append]; exact hat, by omega, ham, h⟩)
  · exact k _ w (osl_nil h 67 3)
/-- Two rows become one. -/
theorem ConcatE_spec (h : sat E w H) {b n1 n2 : Nat} {v1 v2 : Value} {x1 x2 : List Value} (hs : Rds H (.slice (some ⟨b, 0, none⟩) 2 2) 2 [v1, v2]) (hr1 : Rds H v1 n1 x1) (hr2 : Rds H v2 n2 x2) (l1 : x1.length = n1 * 3) (l2 : x2.length = n2 * 3) (hn : n1 + n2 ≤ 1000) (o1 : ∀ x ∈ x1, x.oneCell' = true) (o2 : ∀ x ∈ x2, x.oneCell' = true)
    (k : ∀ v w', sat E w' (osl 67 3 v (n1 + n2) (x1 ++ x2) * H) → K v w') : Calls prog 120 #[.slice (some ⟨b, 0, none⟩) 2 2] w (Ret K) := by
  obtain ⟨a1, c1, rfl, _, hr1, _⟩ := hr1.shape h
  obtain ⟨a2, c2, rfl, _, hr2, _⟩ := hr2.shape h
  have hc0 : ∀ {w : World} {Y : HP}, sat E w (Y * H) → w.cell? ⟨b, 0, none⟩ = some (.slice a1 n1 c1) := fun h => by
    obtain ⟨b7, o7, e, hc⟩ := win_cell (hs.win h.drop) (j := 0) (by simp)
    cases e; exact hc
  have hc1 : ∀ {w : World} {Y : HP}, sat E w (Y * H) → w.cell? ⟨b, 1, none⟩ = some (.slice a2 n2 c2) := fun h => by
    obtain ⟨b7, o7, e, hc⟩ := win_cell (hs.win h.drop) (j := 1) (by simp)
    cases e; exact hc
  have e1 : ∀ {w : World} {Y : HP}, sat E w Y → sat E w (emp * Y) := fun h => h.perm (emp_star _).symm
  refine c120 ?_
  unfold B120
  rw [o_len]
  have hgrow : ∀ {w : World}, sat E w H → (Calls prog 137 #[(.slice none 0 0), .int .i64 ((n1 + n2 : Nat) : Int)] w (Ret fun t_15 w =>
    pv prog (oBi .len #[204] 3 #[false] #[.slice (some ⟨b, 0, none⟩) 2 2]) w fun t_16 w =>
    lp (fun σ w again_19 => pop σ fun newslice_17 σ => pop σ fun t_18 σ => fin σ <|
      pvv prog (binOp .lss 3 t_18 t_16) w fun t_20 w =>
      cd t_20 (
        pvv prog (Instr.indexAt 204 (.slice (some ⟨b, 0, none⟩) 2 2) t_18) w fun t_21 w =>
        ldv prog (Instr.loadAt 61 t_21) w fun t_22 w =>
        ef prog (oBi .append #[61, 61] 61 #[false, false] #[newslice_17, t_22]) w fun t_23 w =>
        pvv prog (binOp .add 3 t_18 (.int .i64 1)) w fun t_24 w =>
        again_19 [t_23, t_24] w) <|
      K newslice_17 w) [t_15, (.int .i64 0)] w)) := fun {w} h => by
    refine GrowE_spec h hn fun v w h => ?_
    rw [o_len]
    refine lp_nat (fun q σ w => ∃ (i : Nat) (v : Value) (n : Nat) (xs : List Value), σ = [v, .int .i64 i] ∧ q = 2 - i ∧ ((i = 0 ∧ n = 0 ∧ xs = []) ∨ (i = 1 ∧ n = n1 ∧ xs = x1) ∨ (i = 2 ∧ n = n1 + n2 ∧ xs = x1 ++ x2)) ∧ sat E w (osl 67 3 v n xs * H)) 2 ⟨0, v, 0, [], rfl, rfl, .inl ⟨rfl, rfl, rfl⟩, h⟩ ?_
    clear h
    rintro q σ w again ⟨i, v, n, xs, rfl, rfl, hc, h⟩ hag
    rcases hc with ⟨rfl, rfl, rfl⟩ | ⟨rfl, rfl, rfl⟩ | ⟨rfl, rfl, rfl⟩
    · simp only [show decide (((0 : Nat) : Int) < ((2 : Nat) : Int)) = true from rfl, ↓opsA, opsB, if_true, if_false, ↓reduceIte]
      rw [o_index (by omega) (by omega)]
      try simp only [↓opsA, opsB, if_true, if_false, ↓reduceIte, Int.toNat_zero, Int.toNat_natCast, Nat.zero_mul, Nat.add_zero]
      refine ld_cell (hc0 h) ?_
      refine append_sl h x1 l1 (hr1.win h.drop) o1 (by omega) (by omega) fun v' w h => ?_
      try simp only [↓opsA, opsB, if_true, if_false, ↓reduceIte]
      rw [i64_of (by omega) (by omega)]
      exact hag 1 _ _ (by omega) ⟨1, v', n1, x1, rfl, rfl, .inr (.inl ⟨rfl, rfl, rfl⟩), by rw [Nat.zero_add, List.nil_append] at h; exact h⟩
    · simp only [show decide (((1 : Nat) : Int) < ((2 : Nat) : Int)) = true from rfl, ↓opsA, opsB, if_true, if_false, ↓reduceIte]
      rw [o_index (by omega) (by omega)]
      try simp only [↓opsA, opsB, if_true, if_false, ↓reduceIte, Int.toNat_natCast, Nat.one_mul, Nat.mul_one]
      refine ld_cell (hc1 h) ?_
      refine append_sl h x2 l2 (hr2.win h.drop) o2 (by omega) (by omega) fun v' w h => ?_
      try simp only [↓opsA, opsB, if_true, if_false, ↓reduceIte]
      rw [i64_of (by omega) (by omega)]
      exact hag 0 _ _ (by omega) ⟨2, v', n + n2, xs ++ x2, rfl, rfl, .inr (.inr ⟨rfl, rfl, rfl⟩), h⟩
    · simp only [show decide (((2 : Nat) : Int) < ((2 : Nat) : Int)) = false from rfl, ↓opsA, opsB, if_true, if_false, ↓reduceIte]
      exact k v w h
  refine lp_nat (fun q σ w => ∃ (i n : Nat), σ = [.int .i64 n, .int .i64 i] ∧ q = 2 - i ∧ ((i = 0 ∧ n = 0) ∨ (i = 1 ∧ n = n1) ∨ (i = 2 ∧ n = n1 + n2)) ∧ sat E w H) 2 ⟨0, 0, rfl, rfl, .inl ⟨rfl, rfl⟩, h⟩ ?_
  clear h
  rintro q σ w again ⟨i, n, rfl, rfl, hc, h⟩ hag
  unfold jn
  rcases hc with ⟨rfl, rfl⟩ | ⟨rfl, rfl⟩ | ⟨rfl, rfl⟩
  · simp only [show decide (((0 : Nat) : Int) < ((2 : Nat) : Int)) = true from rfl, ↓opsA, opsB, if_true, if_false, ↓reduceIte]
    rw [o_index (by omega) (by omega)]
    try simp only [↓opsA, opsB, if_true, if_false, ↓reduceIte, Int.toNat_zero, Int.toNat_natCast, Nat.zero_mul, Nat.add_zero]
    refine ld_cell (hc0 (e1 h)) ?_
    rw [o_len]
    simp only [↓opsA, opsB, if_true, if_false, ↓reduceIte]
    rw [show ((0 : Nat) : Int) + (n1 : Int) = (n1 : Int) by omega, i64_of (n := (n1 : Int)) (by omega) (by omega)]
    have h0 : ¬ (n1 : Int) < 0 := by omega
    simp only [h0, ↓opsA, opsB, if_true, if_false, ↓reduceIte]
    rw [i64_of (by omega) (by omega)]
    exact hag 1 _ _ (by omega) ⟨1, n1, rfl, rfl, .inr (.inl ⟨rfl, rfl⟩), h⟩
  · simp only [show decide (((1 : Nat) : Int) < ((2 : Nat) : Int)) = true from rfl, ↓opsA, opsB, if_true, if_false, ↓reduceIte]
    rw [o_index (by omega) (by omega)]
    try simp only [↓opsA, opsB, if_true, if_false, ↓reduceIte, Int.toNat_natCast, Nat.one_mul, Nat.mul_one]
    refine ld_cell (hc1 (e1 h)) ?_
    rw [o_len]
    simp only [↓opsA, opsB, if_true, if_false, ↓reduceIte]
    rw [show (n : Int) + (n2 : Int) = ((n + n2 : Nat) : Int) by omega, i64_of (n := ((n + n2 : Nat) : Int)) (by omega) (by omega)]
    have h0 : ¬ ((n + n2 : Nat) : Int) < 0 := by omega
    simp only [h0, ↓opsA, opsB, if_true, if_false, ↓reduceIte]
    rw [i64_of (by omega) (by omega)]
    exact hag 0 _ _ (by omega) ⟨2, n + n2, rfl, rfl, .inr (.inr ⟨rfl, rfl⟩), h⟩
  · simp only [show decide (((2 : Nat) : Int) < ((2 : Nat) : Int)) = false from rfl, ↓opsA, opsB, if_true, if_false, ↓reduceIte]
    have hg := hgrow h
    simp only [↓opsA, opsB, if_true, if_false, ↓reduceIte] at hg
    exact hg
end Go.Proofs.YtfaeklinhchidaaGreat

/-
  Two leaves become one.
-/
set_option linter.all false
set_option maxRecDepth 100000
namespace Go.Proofs.YtfaeklinhchidaaGreat
open Go Hold
variable {E : World0} {w : World} {H R X : HP} {K : Value → World → Prop}
noncomputable def mendL (N : Nat) (s : St) (n : Nd) (i : Nat) : Option (Nd × St) :=
  if n.l.length < 2 then some (n, s) else (n.l[i]?).bind fun c => (readS N s c.pg).bind fun ch =>
    if ch.poor = true then
      (n.l[min i (n.l.length - 2)]?).bind fun a => (n.l[min i (n.l.length - 2) + 1]?).bind fun b =>
      (readS N s a.pg).bind fun left => (readS N s b.pg).bind fun right =>
      if left.leaf = true ∧ right.leaf = true then
        if (⟨true, left.l ++ right.l⟩ : Nd).bytes ≤ 253 then
          (giveS N s b.pg).bind fun s1 => (putS N s1 a.pg (.node ⟨true, left.l ++ right.l⟩)).bind fun s2 => some (⟨false, n.l.eraseIdx (min i (n.l.length - 2) + 1)⟩, s2)
        else ((left.l ++ right.l)[halfP ⟨true, left.l ++ right.l⟩]?).bind fun e =>
          (putS N s a.pg (.node ⟨true, (left.l ++ right.l).take (halfP ⟨true, left.l ++ right.l⟩)⟩)).bind fun s1 =>
          (putS N s1 b.pg (.node ⟨true, (left.l ++ right.l).drop (halfP ⟨true, left.l ++ right.l⟩)⟩)).bind fun s2 =>
          some (⟨false, n.l.set (min i (n.l.length - 2) + 1) { b with k := e.k }⟩, s2)
      else none
    else some (n, s)
theorem esv_erase (xs : List Ev) (j : Nat) : esv (xs.eraseIdx j) = (esv xs).eraseIdx j := by
  unfold esv
  rw [List.eraseIdx_eq_take_drop_succ, List.eraseIdx_eq_take_drop_succ, List.map_append, List.map_take, List.map_drop]
theorem merge_end {C : Cx} {c m : Nat} {s s1 s' : St} {n0 t1 ab bb ob i : Nat} {xs zs : List Ev} {lv lvb : Value} {φ : PP} (hm : C.mo = some m) (hi : i + 1 < xs.length) (hf : Few xs) (hg : giveS C.N s xs[i + 1].e.pg = some s1) (hp : putS C.N s1 xs[i].e.pg (.node ⟨true, esv zs⟩) = some s')
    (hx : ∀ I, φ.p I → ∀ x ∈ xs, evJ I x) (hz : ∀ I, φ.p I → (∀ z ∈ zs, evJ I z) ∧ RdS I lvb zs.length (elv zs))
    (h : sat E w (chg C c s * (osl 67 3 lv xs.length (elv xs) * (bxN n0 false lv * (pts t1 (.cells [Value.bool false, .slice none 0 0].toArray 63 (0, 0)) * (pts ab (.cells (ecells xs[i]).toArray 67 (0, 0)) * (pts bb (.cells (ecells xs[i + 1]).toArray 67 (0, 0)) * (bxN ob true lvb * (pers φ * R)))))))))
    (k : ∀ lv' ys w', esv ys = (esv xs).eraseIdx (i + 1) → Few ys → sat E w' (osl 67 3 lv' ys.length (elv ys) * (pers (evP ys) * (chg C c s' * (pers φ * R)))) → K (nv false lv') w') : (
            pvv prog (Instr.fieldAt 67 (.pointer (some ⟨bb, 0, none⟩)) 2) w fun t_86 w =>
            ldv prog (Instr.loadAt 3 t_86) w fun t_87 w =>
            Calls prog 53 #[(.pointer (some ⟨C.cb, 0, none⟩)), t_87] w (Ret fun t_88 w =>
            dr w fun w =>
            pv prog (oNil (.pointer (some ⟨C.cb, 0, none⟩))) w fun t_89 w =>
            pvv prog (Instr.fieldAt 124 t_89 2) w fun t_90 w =>
            pvv prog (Instr.fieldAt 67 (.pointer (some ⟨ab, 0, none⟩)) 2) w fun t_91 w =>
            bindS (vN (Instr.loadAt 117 t_90)) fun m_93 => ldv prog (Instr.loadAt 117 t_90) w fun t_92 w =>
            bindS (vN (Instr.loadAt 3 t_91)) fun m_95 => ldv prog (Instr.loadAt 3 t_91) w fun t_94 w =>
            bindS (vN (Instr.loadAt 63 (.pointer (some ⟨ob, 0, none⟩)))) fun m_97 => ldv prog (Instr.loadAt 63 (.pointer (some ⟨ob, 0, none⟩))) w fun t_96 w =>
            Calls prog 50 #[t_96] w (Ret fun t_98 w => stay prog none m_95 t_94 w <| stay prog none m_93 t_92 w <| 
            efu prog (Instr.mapUpdate 117 t_92 t_94 t_98) w fun u_99 w =>
            pvv prog (Instr.fieldAt 63 (.pointer (some ⟨n0, 0, none⟩)) 1) w fun t_100 w =>
            ldv prog (Instr.loadAt 61 t_100) w fun t_101 w =>
            Calls prog 84 #[t_101] w (Ret fun t_102 w =>
            pvv prog (binOp .add 3 (.int .i64 i) (.int .i64 1)) w fun t_103 w =>
            pvv prog (binOp .add 3 (.int .i64 i) (.int .i64 2)) w fun t_104 w =>
            Calls prog 32 #[t_102, t_103, t_104] w (Ret fun t_105 w =>
            pvv prog (Instr.build 63 #[(0, (.bool false)), (1, t_105)]) w fun t_106 w =>
            efu prog (Instr.storeAt 63 (.pointer (some ⟨t1, 0, none⟩)) t_106) w fun u_107 w =>
            ∃ r_108, (do loadVar 63 (← asAddr (.pointer (some ⟨t1, 0, none⟩)))).run prog w = .ok r_108 w ∧ K r_108 w))))) := by
  have hf1 := hf.1
  have hfree : s.free < 65536 := by
    have hg2 := hg
    unfold giveS at hg2
    obtain ⟨s5, hp5, _⟩ := Option.bind_eq_some_iff.1 hg2
    exact (putS_some hp5).2.1
  generalize hF : (osl 67 3 lv xs.length (elv xs) * (bxN n0 false lv * (pts t1 (.cells [Value.bool false, .slice none 0 0].toArray 63 (0, 0)) * (pts ab (.cells (ecells xs[i]).toArray 67 (0, 0)) * (pts bb (.cells (ecells xs[i + 1]).toArray 67 (0, 0)) * (bxN ob true lvb * (pers φ * R))))))) = F at h
  have hb : ∀ {w : World} {Y : HP}, sat E w (Y * F) → sat E w (pts bb (.cells (ecells xs[i + 1]).toArray 67 (0, 0)) * (Y * (osl 67 3 lv xs.length (elv xs) * (bxN n0 false lv * (pts t1 (.cells [Value.bool false, .slice none 0 0].toArray 63 (0, 0)) * (pts ab (.cells (ecells xs[i]).toArray 67 (0, 0)) * (bxN ob true lvb * (pers φ * R)))))))) := fun h => by rw [← hF] at h; exact h.perm (by ac_rfl)
  have ha : ∀ {w : World} {Y : HP}, sat E w (Y * F) → sat E w (pts ab (.cells (ecells xs[i]).toArray 67 (0, 0)) * (Y * (osl 67 3 lv xs.length (elv xs) * (bxN n0 false lv * (pts t1 (.cells [Value.bool false, .slice none 0 0].toArray 63 (0, 0)) * (pts bb (.cells (ecells xs[i + 1]).toArray 67 (0, 0)) * (bxN ob true lvb * (pers φ * R)))))))) := fun h => by rw [← hF] at h; exact h.perm (by ac_rfl)
  have ho : ∀ {w : World} {Y : HP}, sat E w (Y * F) → sat E w (pts ob (.cells [Value.bool true, lvb].toArray 63 (0, 0)) * (Y * (osl 67 3 lv xs.length (elv xs) * (bxN n0 false lv * (pts t1 (.cells [Value.bool false, .slice none 0 0].toArray 63 (0, 0)) * (pts ab (.cells (ecells xs[i]).toArray 67 (0, 0)) * (pts bb (.cells (ecells xs[i + 1]).toArray 67 (0, 0)) * (pers φ * R)))))))) := fun h => by rw [← hF] at h; exact h.perm (by unfold bxN; ac_rfl)
  have hn : ∀ {w : World} {Y : HP}, sat E w (Y * F) → sat E w (pts n0 (.cells [Value.bool false, lv].toArray 63 (0, 0)) * (Y * (osl 67 3 lv xs.length (elv xs) * (bxN ob true lvb * (pts t1 (.cells [Value.bool false, .slice none 0 0].toArray 63 (0, 0)) * (pts ab (.cells (ecells xs[i]).toArray 67 (0, 0)) * (pts bb (.cells (ecells xs[i + 1]).toArray 67 (0, 0)) * (pers φ * R)))))))) := fun h => by rw [← hF] at h; exact h.perm (by unfold bxN; ac_rfl)
  have hFz : Rds F lvb zs.length (elv zs) := fun E w hs => by
    rw [← hF] at hs
    exact (hz _ (hs.drop.drop.drop.drop.drop.drop.pers_get)).2
  have hFe : ∀ z ∈ zs, EvR F z := fun z hm => .of fun E w hs => by
    rw [← hF] at hs
    exact (hz _ (hs.drop.drop.drop.drop.drop.drop.pers_get)).1 z hm
  have hFx : Rds F lv xs.length (elv xs) := by rw [← hF]; exact Rds.osl.left
  obtain ⟨av, cv, rfl, _, _, _⟩ := hFx.shape h.drop
  obtain ⟨ao, co, rfl, _, _, _⟩ := hFz.shape h.drop
  rw [o_field]
  refine ld_in (b := bb) (v := .int .i64 xs[i + 1].e.pg) (hb h) rfl ?_
  refine give_spec hm hg h hfree fun w h => ?_
  obtain ⟨hp1, hy, _⟩ := putS_some hp
  refine dr_sl h fun w h _ => ?_
  try simp only [↓opsA, opsB, if_true, if_false, ↓reduceIte]
  have hcb : ∀ {w : World} {Y : HP}, sat E w (Y * (chg C c s1 * F)) → sat E w (pts C.cb (.cells (ccells C s1).toArray 124 (0, 0)) * (pts C.tb (.cells (tcells C).toArray 73 (0, 0)) * (chM C.mo C.N C.ct s1.cc s1.w * (pX C.A C.N C.ct 0 C.kk c * (Y * F))))) := fun h => sat_chg.1 (h.perm (star_left_comm _ _ _))
  have h0 : sat E w (emp * (chg C c s1 * F)) := by rw [emp_star]; exact h
  refine ld_in (b := C.cb) (v := .map C.mo) (hcb h0) rfl ?_
  refine ld_in (b := ab) (v := .int .i64 xs[i].e.pg) (ha h) rfl ?_
  refine ld_agg (b := ob) (ho h) rfl ?_
  refine page_spec h (leaf := true) hFz.right (fun z hm => (hFe z hm).right) hy fun b1 w h => ?_
  refine st_in (b := ab) (v := .int .i64 xs[i].e.pg) (ha (h.perm (show _ = (pts b1 (.cells ((pad (⟨true, esv zs⟩ : Nd).raw).map bv).toArray 5 (0, 0)) * chg C c s1) * F by ac_rfl))) rfl ?_
  refine st_in (b := C.cb) (xs := ccells C s1) (hcb h) rfl ?_
  have h := row_stay (PgC.len (x := .node ⟨true, esv zs⟩) hy) h
  refine chg_put hm hp h fun w h => ?_
  refine ld_in (b := n0) (v := .slice av xs.length cv) (hn h) rfl ?_
  refine CloneE_spec h hFx.right (elv_len xs) (by omega) (elv_one xs) fun v' w h => ?_
  rw [show (i : Int) + 1 = ((i + 1 : Nat) : Int) by omega, show (i : Int) + 2 = ((i + 1 : Nat) : Int) + 1 by omega, i64_of (n := ((i + 1 : Nat) : Int)) (by omega) (by omega), i64_of (n := ((i + 1 : Nat) : Int) + 1) (by omega) (by omega)]
  refine DeleteE_spec h hi (by omega) (elv_one xs) fun a3 c3 w h => ?_
  rw [elv_del hi] at h
  have hyl : (xs.eraseIdx (i + 1)).length = xs.length - 1 := by rw [List.length_eraseIdx, if_pos hi]
  refine pvv_of (v := nv false (.slice a3 (xs.length - 1) c3)) (fun w => by kernel_rfl) ?_
  rw [← hF] at h
  have h := h.perm (show _ = pts t1 (.cells [Value.bool false, .slice none 0 0].toArray 63 (0, 0)) * (osl 67 3 (.slice a3 (xs.length - 1) c3) (xs.length - 1) (elv (xs.eraseIdx (i + 1))) * (chg C c s' * (osl 67 3 (.slice av xs.length cv) xs.length (elv xs) * (bxN n0 false (.slice av xs.length cv) * (pts ab (.cells (ecells xs[i]).toArray 67 (0, 0)) * (pts bb (.cells (ecells xs[i + 1]).toArray 67 (0, 0)) * (bxN ob true (.slice ao zs.length co) * (pers φ * R)))))))) by ac_rfl)
  refine res_all (b := t1) h (vs := [Value.bool false, .slice a3 (xs.length - 1) c3]) rfl rfl (by simp [Value.oneCell']) fun w h => ?_
  have hsub : ∀ y ∈ xs.eraseIdx (i + 1), y ∈ xs := fun y hy => List.mem_of_mem_eraseIdx hy
  refine k _ (xs.eraseIdx (i + 1)) w (esv_erase xs (i + 1)) ⟨by omega, fun y hy => hf.2 y (hsub y hy)⟩ ?_
  have h := h.perm (show _ = (pts t1 (.cells [Value.bool false, .slice a3 (xs.length - 1) c3].toArray 63 (0, 0)) * (osl 67 3 (.slice av xs.length cv) xs.length (elv xs) * (bxN n0 false (.slice av xs.length cv) * (pts ab (.cells (ecells xs[i]).toArray 67 (0, 0)) * (pts bb (.cells (ecells xs[i + 1]).toArray 67 (0, 0)) * bxN ob true (.slice ao zs.length co)))))) * (pers φ * (osl 67 3 (.slice a3 (xs.length - 1) c3) (xs.length - 1) (elv (xs.eraseIdx (i + 1))) * (chg C c s' * R))) by ac_rfl)
  have h := h.drop.pers_new (ψ := evP (xs.eraseIdx (i + 1))) fun I hI y hy => hx I hI y (hsub y hy)
  rw [hyl]
  exact h.perm (by ac_rfl)
end Go.Proofs.YtfaeklinhchidaaGreat

/-
  A key is deleted: what is the same for all cases. No program in sight.
-/
set_option linter.all false
set_option maxRecDepth 100000
namespace Go.Proofs.YtfaeklinhchidaaGreat
open Go Hold
theorem mendL_easy : MendEasy mendL := by
  refine ⟨fun h => ?_, fun h1 h2 h3 h4 => ?_⟩
  · unfold mendL; rw [if_pos h]
  · unfold mendL
    rw [if_neg (by omega), h2]
    simp only [Option.bind_some, h3, h4, Bool.false_eq_true, if_false]
theorem leaf_cut {es : List En} {e : En} (h : Srt es) (hm : e ∈ es) : ∃ A B, es = A ++ e :: B ∧ delG e.k ⟨true, es⟩ = ⟨true, A ++ B⟩ := by
  obtain ⟨h1, h2⟩ := leaf_find h hm
  have hlt := (List.getElem?_eq_some_iff.1 h2).1
  have he := (List.getElem?_eq_some_iff.1 h2).2
  refine ⟨es.take (findP ⟨true, es⟩ e.k).1, es.drop ((findP ⟨true, es⟩ e.k).1 + 1), ?_, ?_⟩
  · have := List.drop_eq_getElem_cons hlt
    rw [he] at this
    rw [← this, List.take_append_drop]
  · unfold delG
    rw [if_pos h1]
    unfold delF
    rw [List.eraseIdx_eq_take_drop_succ]
theorem drop_leaf {N f : Nat} {s : St} {es : List En} (h : readS N s s.root = some ⟨true, es⟩) : dropS N (f + 1) s = some s := by
  unfold dropS
  rw [h]
  rfl
/-- A root that is a leaf is written again. -/
theorem root_leaf_rest {U : Uz} {N : Nat} {s : St} {E : List En} {fr : List Nat} (hok : ∀ p, p < N → (s.cc p).Ok) (hes : Srt E) (hee : ∀ e ∈ E, EnU U e) (hcap : E.length ≤ U.cap) (hf : FrOk s [s.root] fr) (hr : s.root ≠ 0) (hw : s.w ≤ 20) (hN : s.fresh ≤ N) (hN2 : N ≤ 60000) :
    ∃ s', ((writeS N s s.root [] ⟨true, E⟩).bind fun q => (growS N q.1 q.2).bind fun s3 => (dropS N 3 s3).bind fun s4 => finS N s4) = some s' ∧ TInv U N s' E fr [s.root] ∧ s'.fresh = s.fresh ∧ s'.root ≠ 0 := by
  have hrN : s.root < N := by have := (hf.m s.root (by simp)).2; omega
  rw [leaf_one hee hes hcap hrN]
  simp only [Option.bind_some]
  have hg : growS N [⟨[], [], s.root⟩] { s with w := s.w + 1, cc := upd s.cc s.root (.node ⟨true, E⟩) } = some { s with w := s.w + 1, cc := upd s.cc s.root (.node ⟨true, E⟩) } := by
    unfold growS; rw [if_neg (by simp)]
  rw [hg]
  simp only [Option.bind_some]
  rw [drop_stay (s := { s with w := s.w + 1, cc := upd s.cc s.root (.node ⟨true, E⟩) }) (n := ⟨true, E⟩) (readS_eq hrN upd_at) (.inl rfl)]
  simp only [Option.bind_some]
  have hnf : s.root ∉ fr := hf.notin (by simp)
  have hf2 : FrOk { s with w := s.w + 1, cc := upd s.cc s.root (.node ⟨true, E⟩) } [s.root] fr := hf.put hnf
  rw [finS_eq (s := { s with w := s.w + 1, cc := upd s.cc s.root (.node ⟨true, E⟩) }) (show s.root < 65536 by omega) (by have := free_lt hf2 (N := N) (by show s.fresh ≤ N; omega) (by omega); omega) (show s.fresh < 65536 by omega) (show s.w + 1 < 100 by omega) (by omega)]
  have ti : TInv U N { s with w := s.w + 1, cc := upd s.cc s.root (.node ⟨true, E⟩) } E fr [s.root] :=
    ⟨upd_ok hok (leaf_ok hee hes hcap), hes, hee, hf2, by show s.fresh ≤ N; omega, .inr (.inl ⟨hr, upd_at, hcap, rfl⟩)⟩
  exact ⟨_, rfl, ti.fin (y := .head s.root s.free s.fresh) trivial, rfl, hr⟩
/-- A root that is left with one page below gives way to it. -/
theorem one_rest {U : Uz} {N : Nat} {s : St} {x : Lf} {fr : List Nat} (hok : ∀ p, p < N → (s.cc p).Ok) (hes : Srt x.es) (hee : ∀ e ∈ x.es, EnU U e) (hcap : x.es.length ≤ U.cap) (hf : FrOk s [s.root, x.pg] fr) (hc : s.cc x.pg = .node ⟨true, x.es⟩) (hlw : x.low.length ≤ U.kl) (hb : U.kl + 3 ≤ 253) (hw : s.w ≤ 20) (hN : s.fresh ≤ N) (hN2 : N ≤ 60000) :
    ∃ s', ((writeS N s s.root [] ⟨false, [x.en]⟩).bind fun q => (growS N q.1 q.2).bind fun s3 => (dropS N 3 s3).bind fun s4 => finS N s4) = some s' ∧ TInv U N s' x.es (s.root :: fr) [x.pg] ∧ s'.fresh = s.fresh ∧ s'.root ≠ 0 := by
  have hrm := hf.m s.root (by simp)
  have hxm := hf.m x.pg (by simp)
  have hrN : s.root < N := by omega
  have hxN : x.pg < N := by omega
  have hne : x.pg ≠ s.root := fun e => by
    have := hf.d
    rw [e] at this
    simp at this
  have hin : NdOk ⟨false, [x].map Lf.en⟩ := inner_ok (U := U) (List.pairwise_singleton _ _) (fun y hy => by simp at hy; subst hy; exact hlw) (fun y hy => by simp at hy; subst hy; omega) (by simp; omega)
  have hin : NdOk ⟨false, [x.en]⟩ := hin
  have hwr : writeS N s s.root [] ⟨false, [x.en]⟩ = some ([⟨[], [], s.root⟩], { s with w := s.w + 1, cc := upd s.cc s.root (.node ⟨false, [x.en]⟩) }) := by
    unfold writeS
    rw [if_pos hin.b, putS_eq (y := .node ⟨false, [x.en]⟩) hrN hin]
    rfl
  rw [hwr]
  simp only [Option.bind_some]
  have hg : growS N [⟨[], [], s.root⟩] { s with w := s.w + 1, cc := upd s.cc s.root (.node ⟨false, [x.en]⟩) } = some { s with w := s.w + 1, cc := upd s.cc s.root (.node ⟨false, [x.en]⟩) } := by
    unfold growS; rw [if_neg (by simp)]
  rw [hg]
  simp only [Option.bind_some]
  have hfl : s.free < 65536 := by
    cases fr with
    | nil => have : s.free = 0 := hf.c; omega
    | cons p l =>
      have h1 : s.free = p := hf.c.1
      have := (hf.m p (by simp)).2
      omega
  have hdr : dropS N 3 { s with w := s.w + 1, cc := upd s.cc s.root (.node ⟨false, [x.en]⟩) } = some ⟨x.pg, s.root, s.fresh, s.w + 2, upd (upd s.cc s.root (.node ⟨false, [x.en]⟩)) s.root (.free s.free)⟩ := by
    unfold dropS
    rw [show readS N { s with w := s.w + 1, cc := upd s.cc s.root (.node ⟨false, [x.en]⟩) } s.root = some ⟨false, [x.en]⟩ from readS_eq hrN upd_at]
    show (do
      let s' ← giveS N { s with w := s.w + 1, cc := upd s.cc s.root (.node ⟨false, [x.en]⟩) } s.root
      dropS N 2 { s' with root := x.pg } : Option St) = _
    have hgv : giveS N { s with w := s.w + 1, cc := upd s.cc s.root (.node ⟨false, [x.en]⟩) } s.root = some ⟨s.root, s.root, s.fresh, s.w + 2, upd (upd s.cc s.root (.node ⟨false, [x.en]⟩)) s.root (.free s.free)⟩ := by
      unfold giveS
      rw [putS_eq (s := { s with w := s.w + 1, cc := upd s.cc s.root (.node ⟨false, [x.en]⟩) }) (y := .free s.free) hrN hfl]
      rfl
    rw [hgv]
    exact drop_leaf (s := ⟨x.pg, s.root, s.fresh, s.w + 2, upd (upd s.cc s.root (.node ⟨false, [x.en]⟩)) s.root (.free s.free)⟩) (es := x.es) (readS_eq hxN (by show upd (upd s.cc s.root _) s.root _ x.pg = _; rw [upd_ne hne, upd_ne hne]; exact hc))
  rw [hdr]
  simp only [Option.bind_some]
  have hf2 : FrOk ⟨x.pg, s.root, s.fresh, s.w + 2, upd (upd s.cc s.root (.node ⟨false, [x.en]⟩)) s.root (.free s.free)⟩ [x.pg] (s.root :: fr) := by
    have hnf : s.root ∉ fr := hf.notin (by simp)
    have hp : [s.root, x.pg].Perm [x.pg, s.root] := List.Perm.swap _ _ _
    have hf3 := hf.perm hp
    refine ⟨⟨rfl, s.free, upd_at, (hf.c.upd hnf).upd hnf⟩, hf3.d, hf3.m, ?_⟩
    have := hf.n
    simp only [List.length_cons, List.length_nil] at this ⊢
    omega
  rw [finS_eq (s := ⟨x.pg, s.root, s.fresh, s.w + 2, upd (upd s.cc s.root (.node ⟨false, [x.en]⟩)) s.root (.free s.free)⟩) (show x.pg < 65536 by omega) (show s.root < 65536 by omega) (show s.fresh < 65536 by omega) (show s.w + 2 < 100 by omega) (by omega)]
  have ti : TInv U N ⟨x.pg, s.root, s.fresh, s.w + 2, upd (upd s.cc s.root (.node ⟨false, [x.en]⟩)) s.root (.free s.free)⟩ x.es (s.root :: fr) [x.pg] := by
    refine ⟨upd_ok (upd_ok hok hin) hfl, hes, hee, hf2, by show s.fresh ≤ N; omega, .inr (.inl ⟨by show x.pg ≠ 0; omega, ?_, hcap, rfl⟩)⟩
    show upd (upd s.cc s.root _) s.root _ x.pg = _
    rw [upd_ne hne, upd_ne hne]; exact hc
  exact ⟨_, rfl, ti.fin (y := .head x.pg s.root s.fresh) trivial, rfl, by show x.pg ≠ 0; omega⟩
theorem Ord.drop_mid {P Q : List Lf} {a b : Lf} (h : Ord (P ++ a :: b :: Q)) : Ord (P ++ a :: Q) := by
  have hs : (P ++ a :: Q).Sublist (P ++ a :: b :: Q) := List.Sublist.append (List.Sublist.refl _) (List.Sublist.cons₂ _ (List.Sublist.cons _ (List.Sublist.refl _)))
  exact ⟨h.s1.sublist hs, fun x hx => h.s2 x (hs.subset hx), h.s3.sublist hs⟩
end Go.Proofs.YtfaeklinhchidaaGreat

/-
  A leaf that has become too small is mended. No program in sight.
-/
set_option linter.all false
set_option maxRecDepth 100000
namespace Go.Proofs.YtfaeklinhchidaaGreat
open Go Hold
theorem mend_pair {U : Uz} (hlo : U.lo = 2) (hcp : U.cap = 4) {N : Nat} {s : St} {P Q : List Lf} {a b : Lf} {fr : List Nat} (hok : ∀ p, p < N → (s.cc p).Ok) (hsr : Srt ((P ++ a :: b :: Q).flatMap (·.es))) (hen : ∀ e ∈ (P ++ a :: b :: Q).flatMap (·.es), EnU U e) (hf : FrOk s (s.root :: (P ++ a :: b :: Q).map (·.pg)) fr)
    (hc : ∀ y ∈ P ++ a :: b :: Q, s.cc y.pg = .node ⟨true, y.es⟩) (hl : ∀ y, y ∈ P ∨ y ∈ Q → U.lo ≤ y.es.length ∧ y.es.length ≤ U.cap) (h3 : 3 ≤ a.es.length + b.es.length) (h5 : a.es.length + b.es.length ≤ 5) (hh : ∀ x, (P ++ a :: b :: Q).head? = some x → x.low = []) (ho : Ord (P ++ a :: b :: Q)) (hlw : ∀ x ∈ P ++ a :: b :: Q, x.low.length ≤ U.kl)
    (hb : (P ++ a :: b :: Q).length * (U.kl + 3) ≤ 253) (hw : s.w ≤ 10) (hN : s.fresh < N) (hN2 : N ≤ 60000) :
    ∃ n' s2, (if (⟨true, a.es ++ b.es⟩ : Nd).bytes ≤ 253 then
        (giveS N s b.pg).bind fun s1 => (putS N s1 a.pg (.node ⟨true, a.es ++ b.es⟩)).bind fun s2 => some ((⟨false, ((P ++ a :: b :: Q).map Lf.en).eraseIdx (P.length + 1)⟩ : Nd), s2)
      else ((a.es ++ b.es)[halfP ⟨true, a.es ++ b.es⟩]?).bind fun e =>
        (putS N s a.pg (.node ⟨true, (a.es ++ b.es).take (halfP ⟨true, a.es ++ b.es⟩)⟩)).bind fun s1 =>
        (putS N s1 b.pg (.node ⟨true, (a.es ++ b.es).drop (halfP ⟨true, a.es ++ b.es⟩)⟩)).bind fun s2 =>
        some ((⟨false, ((P ++ a :: b :: Q).map Lf.en).set (P.length + 1) { b.en with k := e.k }⟩ : Nd), s2)) = some (n', s2) ∧ s2.root = s.root ∧
      ∃ s' fr' used', ((writeS N s2 s2.root [] n').bind fun q => (growS N q.1 q.2).bind fun s3 => (dropS N 3 s3).bind fun s4 => finS N s4) = some s' ∧ TInv U N s' ((P ++ a :: b :: Q).flatMap (·.es)) fr' used' ∧ s'.fresh = s.fresh ∧ s'.root ≠ 0 := by
  have hfl : (P ++ a :: b :: Q).flatMap (·.es) = P.flatMap (·.es) ++ (a.es ++ b.es) ++ Q.flatMap (·.es) := by simp
  have hsF : Srt (a.es ++ b.es) := by rw [hfl] at hsr; exact (List.pairwise_append.1 (List.pairwise_append.1 hsr).1).2.1
  have heF : ∀ e ∈ a.es ++ b.es, EnU U e := fun e hm => hen e (by rw [hfl]; simp only [List.mem_append] at hm ⊢; exact .inl (.inr hm))
  have hlF : (a.es ++ b.es).length = a.es.length + b.es.length := List.length_append
  have ham : a ∈ P ++ a :: b :: Q := by simp
  have hbm : b ∈ P ++ a :: b :: Q := by simp
  have hap := hf.m a.pg (by simp)
  have hbp := hf.m b.pg (by simp)
  have hrp := hf.m s.root (by simp)
  have haN : a.pg < N := by omega
  have hbN : b.pg < N := by omega
  have hnd := hf.d
  rw [List.cons_append, List.nodup_cons] at hnd
  have hrne : ∀ y ∈ P ++ a :: b :: Q, y.pg ≠ s.root := fun y hy e => hnd.1 (List.mem_append_left _ (by rw [← e]; exact List.mem_map_of_mem hy))
  have hpd : ((P ++ a :: b :: Q).map (·.pg)).Nodup := (List.nodup_append.1 hnd.2).1
  rw [List.map_append, List.map_cons, List.map_cons, List.nodup_append, List.nodup_cons, List.nodup_cons] at hpd
  obtain ⟨d1, ⟨d2, d3, d4⟩, d5⟩ := hpd
  have hab : a.pg ≠ b.pg := fun e => d2 (by rw [e]; simp)
  have hya : ∀ y, y ∈ P ∨ y ∈ Q → y.pg ≠ a.pg := fun y hy e => by
    rcases hy with hy | hy
    · exact d5 y.pg (List.mem_map_of_mem hy) a.pg (by simp) e
    · exact d2 (by rw [← e]; exact List.mem_cons_of_mem _ (List.mem_map_of_mem hy))
  have hyb : ∀ y, y ∈ P ∨ y ∈ Q → y.pg ≠ b.pg := fun y hy e => by
    rcases hy with hy | hy
    · exact d5 y.pg (List.mem_map_of_mem hy) b.pg (by simp) e
    · exact d3 (by rw [← e]; exact List.mem_map_of_mem hy)
  have haf : a.pg ∉ fr := hf.notin (by simp)
  have hbf : b.pg ∉ fr := hf.notin (by simp)
  have hfree : s.free < 65536 := by have := free_lt hf (N := N) (by omega) (by omega); omega
  have hcy : ∀ y, y ∈ P ∨ y ∈ Q → s.cc y.pg = .node ⟨true, y.es⟩ := fun y hy => hc y (by rcases hy with hy | hy <;> simp [hy])
  have hlowF : ∀ e ∈ a.es ++ b.es, lexB e.k a.low = false := fun e he => by
    rcases List.mem_append.1 he with he | he
    · exact ho.s2 a ham e he
    · have h1 := ho.s2 b hbm e he
      have h2 := ho.s1
      rw [List.pairwise_append, List.pairwise_cons] at h2
      have h4 : lexB a.low b.low = true := h2.2.1.1 b (by simp)
      cases hx : lexB e.k a.low
      · rfl
      · rw [lexB_trans _ _ _ hx h4] at h1; cases h1
  have hQ : ∀ c ∈ Q, lexB a.low c.low = true ∧ ∀ e ∈ a.es ++ b.es, lexB e.k c.low = true := fun c hcQ => by
    have h1 := ho.s1; have h3 := ho.s3
    rw [List.pairwise_append, List.pairwise_cons, List.pairwise_cons] at h1 h3
    refine ⟨h1.2.1.1 c (by simp [hcQ]), fun e he => ?_⟩
    rcases List.mem_append.1 he with he | he
    · exact h3.2.1.1 c (by simp [hcQ]) e he
    · exact h3.2.1.2.1 c hcQ e he
  have hbytes := bytes_uni heF
  have hz1 := U.z1
  have hz2 := U.z2
  rw [hcp] at hz1 hz2
  by_cases hsum : a.es.length + b.es.length ≤ 4
  · -- they become one
    have hby : (⟨true, a.es ++ b.es⟩ : Nd).bytes ≤ 253 := by
      rw [hbytes, hlF]
      exact Nat.le_trans (Nat.mul_le_mul_right _ hsum) hz1
    have okF : NdOk ⟨true, a.es ++ b.es⟩ := leaf_ok heF hsF (by rw [hlF, hcp]; exact hsum)
    let m : Lf := ⟨a.low, a.pg, a.es ++ b.es⟩
    let s2 : St := ⟨s.root, b.pg, s.fresh, s.w + 2, upd (upd s.cc b.pg (.free s.free)) a.pg (.node ⟨true, a.es ++ b.es⟩)⟩
    have hen2 : ((P ++ a :: b :: Q).map Lf.en).eraseIdx (P.length + 1) = (P ++ m :: Q).map Lf.en := by
      rw [List.eraseIdx_eq_take_drop_succ, List.map_append, List.map_append]
      have hPl : (P.map Lf.en).length = P.length := List.length_map _
      rw [List.take_append, List.drop_append, List.take_of_length_le (by omega), List.drop_eq_nil_of_le (by omega), hPl, show P.length + 1 - P.length = 1 by omega, show P.length + 1 + 1 - P.length = 2 by omega]
      simp [m, Lf.en]
    have hfF : FrOk s2 (s2.root :: (P ++ m :: Q).map (·.pg)) (b.pg :: fr) := by
      have hp : ((s.root :: (P ++ a :: b :: Q).map (·.pg)) ++ fr).Perm ((s.root :: (P ++ m :: Q).map (·.pg)) ++ (b.pg :: fr)) := by
        simp only [List.map_append, List.map_cons, List.cons_append, List.append_assoc]
        refine List.Perm.cons _ (List.Perm.append_left _ ?_)
        show (a.pg :: b.pg :: (Q.map (·.pg) ++ fr)).Perm (a.pg :: (Q.map (·.pg) ++ b.pg :: fr))
        exact List.Perm.cons _ List.perm_middle.symm
      refine ⟨⟨rfl, s.free, by show upd (upd s.cc b.pg _) a.pg _ b.pg = _; rw [upd_ne (fun e => hab e.symm), upd_at], (hf.c.upd hbf).upd haf⟩, (hp.nodup_iff).1 hf.d, fun p hm => hf.m p ((hp.mem_iff).2 hm), ?_⟩
      have := hf.n
      simp only [List.length_cons, List.length_map, List.length_append] at this ⊢
      show P.length + (Q.length + 1) + 1 + (fr.length + 1) + 1 = s.fresh
      omega
    have hcF : ∀ y ∈ P ++ m :: Q, s2.cc y.pg = .node ⟨true, y.es⟩ := fun y hy => by
      show upd (upd s.cc b.pg _) a.pg _ y.pg = _
      simp only [List.mem_append, List.mem_cons] at hy
      rcases hy with hy | rfl | hy
      · rw [upd_ne (hya y (.inl hy)), upd_ne (hyb y (.inl hy))]; exact hcy y (.inl hy)
      · exact upd_at
      · rw [upd_ne (hya y (.inr hy)), upd_ne (hyb y (.inr hy))]; exact hcy y (.inr hy)
    have hok2 : ∀ p, p < N → (s2.cc p).Ok := upd_ok (upd_ok hok hfree) okF
    have hF2 : (P ++ m :: Q).flatMap (·.es) = (P ++ a :: b :: Q).flatMap (·.es) := by simp [m]
    have hord : Ord (P ++ m :: Q) := by
      have := ord_replace (L1 := P) (x := a) (L2 := Q) (Ns := [m]) ho.drop_mid ⟨List.pairwise_singleton _ _, fun y hy e he => by simp only [List.mem_singleton] at hy; subst hy; exact hlowF e he, List.pairwise_singleton _ _⟩ (fun y hy => by simp only [List.mem_singleton] at hy; subst hy; exact .inl rfl) (fun y hy c hcQ => by simp only [List.mem_singleton] at hy; subst hy; exact hQ c hcQ)
      simpa using this
    have hlF2 : ∀ y ∈ P ++ m :: Q, U.lo ≤ y.es.length ∧ y.es.length ≤ U.cap := fun y hy => by
      simp only [List.mem_append, List.mem_cons] at hy
      rcases hy with hy | rfl | hy
      · exact hl y (.inl hy)
      · show U.lo ≤ (a.es ++ b.es).length ∧ (a.es ++ b.es).length ≤ U.cap
        rw [hlF]; omega
      · exact hl y (.inr hy)
    have hlw2 : ∀ y ∈ P ++ m :: Q, y.low.length ≤ U.kl := fun y hy => by
      simp only [List.mem_append, List.mem_cons] at hy
      rcases hy with hy | rfl | hy
      · exact hlw y (by simp [hy])
      · exact hlw a ham
      · exact hlw y (by simp [hy])
    have hh2 : ∀ x, (P ++ m :: Q).head? = some x → x.low = [] := fun x hx => by
      cases P with
      | nil => cases hx; exact hh a rfl
      | cons p P => cases hx; exact hh _ rfl
    refine ⟨⟨false, (P ++ m :: Q).map Lf.en⟩, s2, ?_, rfl, ?_⟩
    · rw [if_pos hby, hen2]
      unfold giveS
      rw [putS_eq (y := .free s.free) hbN hfree]
      simp only [Option.bind_eq_bind, Option.bind_some, Option.pure_def]
      rw [putS_eq (y := .node ⟨true, a.es ++ b.es⟩) haN okF]
      rfl
    · by_cases h2 : 2 ≤ (P ++ m :: Q).length
      · obtain ⟨s', g1, g2, g3, g4, g5⟩ := two_rest (U := U) (s1 := s2) (ls := P ++ m :: Q) (kvs := []) hok2 (by rw [hF2]; exact hsr) (by rw [hF2]; exact hen) hfF hcF h2 hlF2 hh2 hord hlw2 (Nat.le_trans (Nat.mul_le_mul_right _ (by simp)) hb) (by show s.w + 2 ≤ 20; omega) hN hN2
        rw [hF2] at g2
        exact ⟨s', _, _, g1, g2, g3, g5⟩
      · have hlen : (P ++ m :: Q).length = P.length + Q.length + 1 := by rw [List.length_append, List.length_cons]; omega
        have hP : P = [] := List.eq_nil_of_length_eq_zero (by omega)
        have hQ0 : Q = [] := List.eq_nil_of_length_eq_zero (by omega)
        subst hP; subst hQ0
        obtain ⟨s', g1, g2, g3, g4⟩ := one_rest (U := U) (N := N) (s := s2) (x := m) hok2 hsF heF (by show (a.es ++ b.es).length ≤ U.cap; rw [hlF, hcp]; exact hsum) hfF (hcF m (by simp)) (hlw2 m (by simp)) (Nat.le_trans (show U.kl + 3 ≤ 2 * (U.kl + 3) by omega) hb) (by show s.w + 2 ≤ 20; omega) (Nat.le_of_lt hN) hN2
        exact ⟨s', _, _, g1, by simpa using g2, g3, g4⟩
  · -- one gives to the other
    have hsum : a.es.length + b.es.length = 5 := by omega
    have hby : ¬ (⟨true, a.es ++ b.es⟩ : Nd).bytes ≤ 253 := by
      rw [hbytes, hlF, hsum]; omega
    have hhalf : halfP ⟨true, a.es ++ b.es⟩ = 2 := by
      have := U.hf (a.es ++ b.es) (by rw [hlF, hcp]; exact hsum) (fun e he => ⟨(heF e he).k, (heF e he).v⟩)
      rw [this, hlo]
    generalize hE : a.es ++ b.es = E at *
    obtain ⟨p1, p2, p3⟩ := srt_parts (i := 2) hsF
    have hlt : 2 < E.length := by omega
    have h5h : (E.drop 2).head? = some E[2] := by rw [List.drop_eq_getElem_cons hlt]; rfl
    obtain ⟨q1, q2⟩ := head_le hsF h5h
    have h5E : E[2] ∈ E := List.getElem_mem _
    have hx5 : lexB a.low E[2].k = true := by
      have hpos : 0 < (E.take 2).length := by rw [List.length_take]; omega
      have ha := q1 (E.take 2)[0] (List.getElem_mem _)
      have hb := hlowF (E.take 2)[0] (List.mem_of_mem_take (List.getElem_mem _))
      by_cases e : (E.take 2)[0].k = a.low
      · rw [← e]; exact ha
      · exact lexB_trans _ _ _ (lexB_total hb e) ha
    have ok1 : NdOk ⟨true, E.take 2⟩ := leaf_ok (U := U) (fun e hm => heF e (List.mem_of_mem_take hm)) p1 (by rw [List.length_take]; omega)
    have ok2 : NdOk ⟨true, E.drop 2⟩ := leaf_ok (U := U) (fun e hm => heF e (List.mem_of_mem_drop hm)) p2 (by rw [List.length_drop]; omega)
    let x1 : Lf := ⟨a.low, a.pg, E.take 2⟩
    let x2 : Lf := ⟨E[2].k, b.pg, E.drop 2⟩
    let s2 : St := ⟨s.root, s.free, s.fresh, s.w + 2, upd (upd s.cc a.pg (.node ⟨true, E.take 2⟩)) b.pg (.node ⟨true, E.drop 2⟩)⟩
    have two : ∀ {P : Lf → Prop}, P x1 → P x2 → ∀ y ∈ [x1, x2], P y := fun h1 h2 y hy => by
      simp only [List.mem_cons, List.not_mem_nil, or_false] at hy
      rcases hy with rfl | rfl
      · exact h1
      · exact h2
    have all : ∀ {T : Lf → Prop}, (∀ y, y ∈ P ∨ y ∈ Q → T y) → T x1 → T x2 → ∀ y ∈ P ++ x1 :: x2 :: Q, T y := fun h h1 h2 y hy => by
      simp only [List.mem_append, List.mem_cons] at hy
      rcases hy with hy | rfl | rfl | hy
      · exact h y (.inl hy)
      · exact h1
      · exact h2
      · exact h y (.inr hy)
    have hen2 : ((P ++ a :: b :: Q).map Lf.en).set (P.length + 1) { b.en with k := E[2].k } = (P ++ x1 :: x2 :: Q).map Lf.en := by
      have hPl : (P.map Lf.en).length = P.length := List.length_map _
      rw [List.map_append, List.map_append, List.set_append_right _ _ (by omega), hPl, show P.length + 1 - P.length = 1 by omega]
      rfl
    have hpg : (P ++ x1 :: x2 :: Q).map (·.pg) = (P ++ a :: b :: Q).map (·.pg) := by simp [x1, x2]
    have hF2 : (P ++ x1 :: x2 :: Q).flatMap (·.es) = (P ++ a :: b :: Q).flatMap (·.es) := by
      rw [hfl, List.flatMap_append, List.flatMap_cons, List.flatMap_cons]
      show _ ++ (E.take 2 ++ (E.drop 2 ++ _)) = _
      rw [← List.append_assoc (E.take 2), List.take_append_drop, List.append_assoc]
    have hfF : FrOk s2 (s2.root :: (P ++ x1 :: x2 :: Q).map (·.pg)) fr := by
      rw [hpg]
      exact ⟨(hf.c.upd haf).upd hbf, hf.d, hf.m, hf.n⟩
    have hcF : ∀ y ∈ P ++ x1 :: x2 :: Q, s2.cc y.pg = .node ⟨true, y.es⟩ := by
      refine all (fun y hy => ?_) ?_ ?_
      · show upd (upd s.cc a.pg _) b.pg _ y.pg = _
        rw [upd_ne (hyb y hy), upd_ne (hya y hy)]; exact hcy y hy
      · show upd (upd s.cc a.pg _) b.pg _ a.pg = _
        rw [upd_ne hab, upd_at]
      · exact upd_at
    have hord : Ord (P ++ x1 :: x2 :: Q) := by
      have := ord_replace (L1 := P) (x := a) (L2 := Q) (Ns := [x1, x2]) ho.drop_mid ⟨List.pairwise_pair.2 hx5, two (fun e he => hlowF e (List.mem_of_mem_take he)) (fun e he => q2 e he), List.pairwise_pair.2 fun e he => q1 e he⟩ (two (.inl rfl) (.inr hx5))
        (two (P := fun y => ∀ c ∈ Q, lexB y.low c.low = true ∧ ∀ e ∈ y.es, lexB e.k c.low = true) (fun c hcQ => ⟨(hQ c hcQ).1, fun e he => (hQ c hcQ).2 e (List.mem_of_mem_take he)⟩) (fun c hcQ => ⟨(hQ c hcQ).2 E[2] h5E, fun e he => (hQ c hcQ).2 e (List.mem_of_mem_drop he)⟩))
      simpa using this
    refine ⟨⟨false, (P ++ x1 :: x2 :: Q).map Lf.en⟩, s2, ?_, rfl, ?_⟩
    · rw [if_neg hby, hhalf, List.getElem?_eq_getElem hlt, Option.bind_some, hen2, putS_eq (y := .node ⟨true, E.take 2⟩) haN ok1, Option.bind_some, putS_eq (y := .node ⟨true, E.drop 2⟩) hbN ok2]
      rfl
    · obtain ⟨s', g1, g2, g3, g4, g5⟩ := two_rest (U := U) (s1 := s2) (ls := P ++ x1 :: x2 :: Q) (kvs := []) (upd_ok (upd_ok hok ok1) ok2) (by rw [hF2]; exact hsr) (by rw [hF2]; exact hen) hfF hcF (by simp; omega) (all hl (by show U.lo ≤ (E.take 2).length ∧ (E.take 2).length ≤ U.cap; rw [List.length_take]; omega) (by show U.lo ≤ (E.drop 2).length ∧ (E.drop 2).length ≤ U.cap; rw [List.length_drop]; omega)) (fun x hx => by
        cases P with
        | nil => cases hx; exact hh a rfl
        | cons p P => cases hx; exact hh _ rfl) hord (all (fun y hy => hlw y (by rcases hy with hy | hy <;> simp [hy])) (hlw a ham) (by show E[2].k.length ≤ U.kl; rw [(heF _ h5E).k]; exact Nat.le_refl _)) (Nat.le_trans (Nat.mul_le_mul_right _ (by simp)) hb) (by show s.w + 2 ≤ 20; omega) hN hN2
      rw [hF2] at g2
      exact ⟨s', _, _, g1, g2, g3, g5⟩
end Go.Proofs.YtfaeklinhchidaaGreat

/-
  A key is deleted. No program in sight.
-/
set_option linter.all false
set_option maxRecDepth 100000
namespace Go.Proofs.YtfaeklinhchidaaGreat
open Go Hold
theorem mendL_pair {N i : Nat} {s : St} {P Q : List Lf} {a b x : Lf} (hx : ((P ++ a :: b :: Q).map Lf.en)[i]? = some x.en) (hrx : readS N s x.pg = some ⟨true, x.es⟩) (hpoor : (⟨true, x.es⟩ : Nd).poor = true) (hmin : min i ((P ++ a :: b :: Q).length - 2) = P.length) (hra : readS N s a.pg = some ⟨true, a.es⟩) (hrb : readS N s b.pg = some ⟨true, b.es⟩) :
    mendL N s ⟨false, (P ++ a :: b :: Q).map Lf.en⟩ i = (if (⟨true, a.es ++ b.es⟩ : Nd).bytes ≤ 253 then
        (giveS N s b.pg).bind fun s1 => (putS N s1 a.pg (.node ⟨true, a.es ++ b.es⟩)).bind fun s2 => some ((⟨false, ((P ++ a :: b :: Q).map Lf.en).eraseIdx (P.length + 1)⟩ : Nd), s2)
      else ((a.es ++ b.es)[halfP ⟨true, a.es ++ b.es⟩]?).bind fun e =>
        (putS N s a.pg (.node ⟨true, (a.es ++ b.es).take (halfP ⟨true, a.es ++ b.es⟩)⟩)).bind fun s1 =>
        (putS N s1 b.pg (.node ⟨true, (a.es ++ b.es).drop (halfP ⟨true, a.es ++ b.es⟩)⟩)).bind fun s2 =>
        some ((⟨false, ((P ++ a :: b :: Q).map Lf.en).set (P.length + 1) { b.en with k := e.k }⟩ : Nd), s2)) := by
  have hlen : ((P ++ a :: b :: Q).map Lf.en).length = (P ++ a :: b :: Q).length := List.length_map _
  have h2 : ¬ ((P ++ a :: b :: Q).map Lf.en).length < 2 := by rw [hlen, List.length_append, List.length_cons, List.length_cons]; omega
  have hPl : (P.map Lf.en).length = P.length := List.length_map _
  have ha : ((P ++ a :: b :: Q).map Lf.en)[P.length]? = some a.en := by
    rw [List.map_append, List.getElem?_append_right (by omega), hPl, Nat.sub_self]; rfl
  have hb : ((P ++ a :: b :: Q).map Lf.en)[P.length + 1]? = some b.en := by
    rw [List.map_append, List.getElem?_append_right (by omega), hPl, show P.length + 1 - P.length = 1 by omega]; rfl
  unfold mendL
  rw [if_neg h2]
  show (((P ++ a :: b :: Q).map Lf.en)[i]?).bind _ = _
  rw [hx, Option.bind_some]
  rw [show x.en.pg = x.pg from rfl, hrx, Option.bind_some, if_pos hpoor]
  show (((P ++ a :: b :: Q).map Lf.en)[min i (((P ++ a :: b :: Q).map Lf.en).length - 2)]?).bind _ = _
  rw [hlen, hmin, ha, Option.bind_some]
  show (((P ++ a :: b :: Q).map Lf.en)[P.length + 1]?).bind _ = _
  rw [hb, Option.bind_some]
  rw [show a.en.pg = a.pg from rfl, show b.en.pg = b.pg from rfl, hra, Option.bind_some, hrb, Option.bind_some]
  simp only [and_self, if_true]
  rfl
theorem del_two {U : Uz} (hlo : U.lo = 2) (hcp : U.cap = 4) (hz : U.kl + U.vl + 2 < 56) {N : Nat} {s : St} {ls : List Lf} {fr : List Nat} {e : En} (hok : ∀ p, p < N → (s.cc p).Ok) (hsr : Srt (ls.flatMap (·.es))) (hen : ∀ e ∈ ls.flatMap (·.es), EnU U e) (hf : FrOk s (s.root :: ls.map (·.pg)) fr) (t : Two U s ls) (he : e ∈ ls.flatMap (·.es))
    (hw : s.w ≤ 5) (hN : s.fresh < N) (hN2 : N ≤ 60000) (hb : ls.length * (U.kl + 3) ≤ 253) :
    ∃ A B s' fr' used', ls.flatMap (·.es) = A ++ e :: B ∧ ((atS mendL N (delG e.k) e.k 3 s s.root []).bind fun q => (growS N q.1 q.2).bind fun s3 => (dropS N 3 s3).bind fun s4 => finS N s4) = some s' ∧ TInv U N s' (A ++ B) fr' used' ∧ s'.fresh = s.fresh ∧ s'.root ≠ 0 := by
  obtain ⟨L1, x, L2, sp⟩ := spot_of (key := e.k) t.o t.h (fun e => by have := t.n; rw [e] at this; simp at this)
  have hrm := hf.m s.root (by simp)
  have hrN : s.root < N := by omega
  have hxm : x ∈ ls := by rw [sp.e]; simp
  have hxp := hf.m x.pg (by simp; exact .inr (.inl ⟨x, hxm, rfl⟩))
  have hxN : x.pg < N := by omega
  have hfl : ls.flatMap (·.es) = L1.flatMap (·.es) ++ x.es ++ L2.flatMap (·.es) := by rw [sp.e]; simp
  have hsx : Srt x.es := by rw [hfl] at hsr; exact (List.pairwise_append.1 (List.pairwise_append.1 hsr).1).2.1
  have hex : ∀ e ∈ x.es, EnU U e := fun e hm => hen e (List.mem_flatMap.2 ⟨x, hxm, hm⟩)
  have hxe : e ∈ x.es := by
    rw [hfl] at he
    rcases List.mem_append.1 he with he | he
    · rcases List.mem_append.1 he with he | he
      · have := sp.a e he; rw [lexB_irrefl] at this; cases this
      · exact he
    · have := sp.b e he; rw [lexB_irrefl] at this; cases this
  obtain ⟨A0, B0, hAB, hdel⟩ := leaf_cut hsx hxe
  have hlx : (A0 ++ B0).length + 1 = x.es.length := by rw [hAB]; simp; omega
  have hsub0 : (A0 ++ B0).Sublist x.es := by rw [hAB]; exact List.Sublist.append (List.Sublist.refl _) (List.sublist_cons_self _ _)
  have hxl := t.l x hxm
  rw [hlo, hcp] at hxl
  generalize hE : A0 ++ B0 = E at *
  have hsE : Srt E := hsx.sublist hsub0
  have heE : ∀ e ∈ E, EnU U e := fun e hm => hex e (hsub0.subset hm)
  have hnd := hf.d
  rw [List.cons_append, List.nodup_cons] at hnd
  have hrne : ∀ y ∈ ls, y.pg ≠ s.root := fun y hy e => hnd.1 (List.mem_append_left _ (by rw [← e]; exact List.mem_map_of_mem hy))
  have hpd : (ls.map (·.pg)).Nodup := (List.nodup_append.1 hnd.2).1
  have hxne : ∀ y, y ∈ L1 ∨ y ∈ L2 → y.pg ≠ x.pg := fun y hy e => by
    rw [sp.e, List.map_append, List.map_cons, List.nodup_append, List.nodup_cons] at hpd
    rcases hy with hy | hy
    · exact hpd.2.2 y.pg (List.mem_map_of_mem hy) x.pg (by simp) e
    · exact hpd.2.1.1 (by rw [← e]; exact List.mem_map_of_mem hy)
  let x' : Lf := ⟨x.low, x.pg, E⟩
  let s1 : St := { s with w := s.w + 1, cc := upd s.cc x.pg (.node ⟨true, E⟩) }
  have hlsm : ∀ y, y ∈ L1 ∨ y ∈ L2 → y ∈ ls := fun y hy => by rw [sp.e]; rcases hy with hy | hy <;> simp [hy]
  have all : ∀ {T : Lf → Prop}, (∀ y, y ∈ L1 ∨ y ∈ L2 → T y) → T x' → ∀ y ∈ L1 ++ x' :: L2, T y := fun h h1 y hy => by
    simp only [List.mem_append, List.mem_cons] at hy
    rcases hy with hy | rfl | hy
    · exact h y (.inl hy)
    · exact h1
    · exact h y (.inr hy)
  have hlen : (L1 ++ x' :: L2).length = ls.length := by rw [sp.e]; simp
  have hpg : (L1 ++ x' :: L2).map (·.pg) = ls.map (·.pg) := by rw [sp.e]; simp [x']
  have henn : (L1 ++ x' :: L2).map Lf.en = ls.map Lf.en := by rw [sp.e]; simp [x', Lf.en]
  have hF2 : (L1 ++ x' :: L2).flatMap (·.es) = (L1.flatMap (·.es) ++ A0) ++ (B0 ++ L2.flatMap (·.es)) := by
    rw [List.flatMap_append, List.flatMap_cons]
    show _ ++ (E ++ _) = _
    rw [← hE]; simp
  have hF1 : ls.flatMap (·.es) = (L1.flatMap (·.es) ++ A0) ++ e :: (B0 ++ L2.flatMap (·.es)) := by rw [hfl, hAB]; simp
  have hsub : ((L1.flatMap (·.es) ++ A0) ++ (B0 ++ L2.flatMap (·.es))).Sublist (ls.flatMap (·.es)) := by rw [hF1]; exact List.Sublist.append (List.Sublist.refl _) (List.sublist_cons_self _ _)
  have hsr2 : Srt ((L1 ++ x' :: L2).flatMap (·.es)) := by rw [hF2]; exact hsr.sublist hsub
  have hen2 : ∀ e ∈ (L1 ++ x' :: L2).flatMap (·.es), EnU U e := fun e hm => hen e (hsub.subset (by rw [← hF2]; exact hm))
  have ok1 : NdOk ⟨true, E⟩ := leaf_ok heE hsE (by rw [hcp]; omega)
  have hok1 : ∀ p, p < N → (s1.cc p).Ok := upd_ok hok ok1
  have hf1 : FrOk s1 (s1.root :: (L1 ++ x' :: L2).map (·.pg)) fr := by
    rw [hpg]
    exact hf.put (hf.notin (by simp; exact .inr ⟨x, hxm, rfl⟩))
  have hc1 : ∀ y ∈ L1 ++ x' :: L2, s1.cc y.pg = .node ⟨true, y.es⟩ := by
    refine all (fun y hy => ?_) upd_at
    show upd s.cc x.pg _ y.pg = _
    rw [upd_ne (hxne y hy)]; exact t.c y (hlsm y hy)
  have hh1 : ∀ y, (L1 ++ x' :: L2).head? = some y → y.low = [] := fun y hy => by
    cases hL : L1 with
    | nil => rw [hL] at hy; cases hy; exact t.h x (by rw [sp.e, hL]; rfl)
    | cons p P => rw [hL] at hy; cases hy; exact t.h _ (by rw [sp.e, hL]; rfl)
  have ho1 : Ord (L1 ++ x' :: L2) := by
    have h1 := t.o.s1; have h3 := t.o.s3
    rw [sp.e, List.pairwise_append, List.pairwise_cons] at h1 h3
    have := ord_replace (L1 := L1) (x := x) (L2 := L2) (Ns := [x']) (by rw [← sp.e]; exact t.o) ⟨List.pairwise_singleton _ _, fun y hy e he => by simp only [List.mem_singleton] at hy; subst hy; exact t.o.s2 x hxm e (hsub0.subset he), List.pairwise_singleton _ _⟩ (fun y hy => by simp only [List.mem_singleton] at hy; subst hy; exact .inl rfl) (fun y hy c hcQ => by
      simp only [List.mem_singleton] at hy; subst hy
      exact ⟨h1.2.1.1 c hcQ, fun e he => h3.2.1.1 c hcQ e (hsub0.subset he)⟩)
    simpa using this
  have hlw1 : ∀ y ∈ L1 ++ x' :: L2, y.low.length ≤ U.kl := all (fun y hy => t.w y (hlsm y hy)) (t.w x hxm)
  have hb1 : (L1 ++ x' :: L2).length * (U.kl + 3) ≤ 253 := by rw [hlen]; exact hb
  have hrd := readS_eq hrN t.r
  have hrx : readS N s x.pg = some ⟨true, x.es⟩ := readS_eq hxN (t.c x hxm)
  have hgi : (ls.map Lf.en)[(findP ⟨false, ls.map Lf.en⟩ e.k).1]? = some x.en := by
    rw [sp.i, sp.e, List.map_append, List.getElem?_append_right (by simp)]; simp
  have hgi1 : ((L1 ++ x' :: L2).map Lf.en)[L1.length]? = some x'.en := by
    rw [List.map_append, List.getElem?_append_right (by simp)]; simp
  have hat2 : atS mendL N (delG e.k) e.k 2 s x.en.pg x.en.k = some ([x'.en], s1) := by
    rw [show x.en.pg = x.pg from rfl, show x.en.k = x.low from rfl, at_leaf hrx, hdel]
    exact leaf_one heE hsE (by rw [hcp]; omega) hxN
  have hrebuild : (ls.map Lf.en).take (findP ⟨false, ls.map Lf.en⟩ e.k).1 ++ [x'.en] ++ (ls.map Lf.en).drop ((findP ⟨false, ls.map Lf.en⟩ e.k).1 + 1) = (L1 ++ x' :: L2).map Lf.en := by
    have hEn0 : (ls.map Lf.en) = L1.map Lf.en ++ x.en :: L2.map Lf.en := by rw [sp.e]; simp
    rw [sp.i, hEn0, List.take_left' (by simp), List.drop_append, List.drop_eq_nil_of_le (by simp)]
    simp
  -- once the mending is told
  have fin : ∀ {n' : Nd} {s2 : St}, mendL N s1 ⟨false, (L1 ++ x' :: L2).map Lf.en⟩ L1.length = some (n', s2) → s2.root = s.root → (∃ s' fr' used', ((writeS N s2 s2.root [] n').bind fun q => (growS N q.1 q.2).bind fun s3 => (dropS N 3 s3).bind fun s4 => finS N s4) = some s' ∧ TInv U N s' ((L1 ++ x' :: L2).flatMap (·.es)) fr' used' ∧ s'.fresh = s.fresh ∧ s'.root ≠ 0) →
      ∃ A B s' fr' used', ls.flatMap (·.es) = A ++ e :: B ∧ ((atS mendL N (delG e.k) e.k 3 s s.root []).bind fun q => (growS N q.1 q.2).bind fun s3 => (dropS N 3 s3).bind fun s4 => finS N s4) = some s' ∧ TInv U N s' (A ++ B) fr' used' ∧ s'.fresh = s.fresh ∧ s'.root ≠ 0 := by
    intro n' s2 hm hr2 ⟨s', fr', used', g1, g2, g3, g4⟩
    have hat3 : atS mendL N (delG e.k) e.k 3 s s.root [] = writeS N s2 s2.root [] n' := by
      rw [hr2]
      refine at_two hrd hgi hat2 ?_
      rw [hrebuild, sp.i]
      exact hm
    rw [hat3]
    rw [hF2] at g2
    exact ⟨_, _, s', fr', used', hF1, g1, g2, g3, g4⟩
  have hln2 : 2 ≤ (L1 ++ x' :: L2).length := by rw [hlen]; exact t.n
  by_cases h2 : 2 ≤ E.length
  · have hm : mendL N s1 ⟨false, (L1 ++ x' :: L2).map Lf.en⟩ L1.length = some (⟨false, (L1 ++ x' :: L2).map Lf.en⟩, s1) :=
      mendL_easy.b (c := x'.en) (ch := ⟨true, E⟩) (by show 2 ≤ ((L1 ++ x' :: L2).map Lf.en).length; rw [List.length_map]; exact hln2) hgi1 (readS_eq hxN upd_at) (leaf_rich heE (by rw [hlo]; exact h2))
    refine fin hm rfl ?_
    obtain ⟨s', g1, g2, g3, g4, g5⟩ := two_rest (U := U) (s1 := s1) (ls := L1 ++ x' :: L2) (kvs := []) hok1 hsr2 hen2 hf1 hc1 hln2 (all (fun y hy => t.l y (hlsm y hy)) (by rw [hlo, hcp]; show 2 ≤ E.length ∧ E.length ≤ 4; omega)) hh1 ho1 hlw1 hb1 (by show s.w + 1 ≤ 20; omega) hN hN2
    exact ⟨s', _, _, g1, g2, g3, g5⟩
  · have hE1 : E.length = 1 := by omega
    have hpoor : (⟨true, E⟩ : Nd).poor = true := by
      unfold Nd.poor
      rw [bytes_uni heE, hE1]
      simp; omega
    have hrx1 : readS N s1 x'.pg = some ⟨true, x'.es⟩ := readS_eq hxN upd_at
    have hrd1 : ∀ y ∈ L1 ++ x' :: L2, readS N s1 y.pg = some ⟨true, y.es⟩ := fun y hy => by
      refine readS_eq ?_ (hc1 y hy)
      have := (hf1.m y.pg (by
        refine List.mem_append_left _ (List.mem_cons_of_mem _ ?_)
        exact List.mem_map_of_mem hy)).2
      have e : s1.fresh = s.fresh := rfl
      omega
    have hcase : L2 = [] ∨ ∃ y Q, L2 = y :: Q := by
      cases L2 with
      | nil => exact .inl rfl
      | cons y Q => exact .inr ⟨y, Q, rfl⟩
    rcases hcase with rfl | ⟨y, Q, rfl⟩
    case inr =>
      have hly := t.l y (hlsm y (.inr (by simp)))
      rw [hlo, hcp] at hly
      obtain ⟨n', s2, m1, m2, m3⟩ := mend_pair hlo hcp (P := L1) (a := x') (b := y) (Q := Q) hok1 hsr2 hen2 hf1 hc1 (fun z hz => t.l z (hlsm z (by rcases hz with hz | hz <;> simp [hz]))) (by show 3 ≤ E.length + y.es.length; omega) (by show E.length + y.es.length ≤ 5; omega) hh1 ho1 hlw1 hb1 (by show s.w + 1 ≤ 10; omega) hN hN2
      refine fin ?_ m2 m3
      rw [mendL_pair hgi1 hrx1 hpoor (by simp; omega) (hrd1 x' (by simp)) (hrd1 y (by simp))]
      exact m1
    case inl =>
      have hL1 : L1 ≠ [] := fun e => by rw [e] at hln2; simp at hln2
      obtain ⟨P, a, hPa⟩ : ∃ P a, L1 = P ++ [a] := ⟨L1.dropLast, L1.getLast hL1, (List.dropLast_concat_getLast hL1).symm⟩
      have hsh : L1 ++ [x'] = P ++ a :: x' :: [] := by rw [hPa]; simp
      have haL : a ∈ L1 := by rw [hPa]; simp
      have hla := t.l a (hlsm a (.inl haL))
      rw [hlo, hcp] at hla
      have hx'm : x' ∈ L1 ++ [x'] := by simp
      have ham : a ∈ L1 ++ [x'] := by simp [haL]
      have hra := hrd1 a ham
      have hrx' := hrd1 x' hx'm
      have hPl : ∀ z ∈ P, z ∈ L1 := fun z hz => by rw [hPa]; simp [hz]
      rw [hsh] at hsr2 hen2 hf1 hc1 hh1 ho1 hlw1 hb1 hgi1 fin
      obtain ⟨n', s2, m1, m2, m3⟩ := mend_pair hlo hcp (P := P) (a := a) (b := x') (Q := []) hok1 hsr2 hen2 hf1 hc1 (fun z hz => t.l z (hlsm z (by
        rcases hz with hz | hz
        · exact .inl (hPl z hz)
        · simp at hz))) (by show 3 ≤ a.es.length + E.length; omega) (by show a.es.length + E.length ≤ 5; omega) hh1 ho1 hlw1 hb1 (by show s.w + 1 ≤ 10; omega) hN hN2
      refine fin ?_ m2 m3
      rw [mendL_pair hgi1 hrx1 hpoor (by rw [hPa]; simp) hra hrx']
      exact m1
/-- A key that is there is deleted. -/
theorem del_ok {U : Uz} (hlo : U.lo = 2) (hcp : U.cap = 4) (hz : U.kl + U.vl + 2 < 56) {N : Nat} {s : St} {kvs : List En} {fr used : List Nat} {e : En} (ti : TInv U N s kvs fr used) (he : e ∈ kvs) (hw : s.w = 0) (hN : s.fresh < N) (hN2 : N ≤ 60000) (hb : kvs.length / 2 * (U.kl + 3) ≤ 253) :
    ∃ A B s' fr' used', kvs = A ++ e :: B ∧ doS mendL N (delG e.k) e.k s = some s' ∧ TInv U N s' (A ++ B) fr' used' ∧ s'.fresh = s.fresh ∧ s'.root ≠ 0 := by
  unfold doS
  rcases ti.sh with ⟨a, b, c⟩ | ⟨a, b, c, d⟩ | ⟨ls, t, hus, hkv⟩
  · rw [b] at he; simp at he
  · have hst : startS N s = some s := by unfold startS; rw [if_neg a]
    rw [hst]
    simp only [Option.bind_some]
    have hr := ti.f.m s.root (by rw [d]; simp)
    obtain ⟨A, B, hAB, hdel⟩ := leaf_cut ti.srt he
    have hat : atS mendL N (delG e.k) e.k 3 s s.root [] = writeS N s s.root [] ⟨true, A ++ B⟩ := by
      rw [at_leaf (readS_eq (by omega) b), hdel]
    rw [hat]
    have hsub : (A ++ B).Sublist kvs := by rw [hAB]; exact List.Sublist.append (List.Sublist.refl _) (List.sublist_cons_self _ _)
    obtain ⟨s', g1, g2, g3, g4⟩ := root_leaf_rest (U := U) ti.ok (ti.srt.sublist hsub) (fun e hm => ti.en e (hsub.subset hm)) (Nat.le_trans hsub.length_le c) (by rw [← d]; exact ti.f) a (by omega) (by omega) hN2
    exact ⟨A, B, s', _, _, hAB, g1, g2, g3, g4⟩
  · subst hus; subst hkv
    have hr : s.root ≠ 0 := by have := (ti.f.m s.root (by simp)).1; omega
    have hst : startS N s = some s := by unfold startS; rw [if_neg hr]
    rw [hst]
    simp only [Option.bind_some]
    have h1 := flat_lenL (m := 2) (f := fun y : Lf => y.es) (l := ls) (fun y hy => by have := (t.l y hy).1; rw [hlo] at this; exact this)
    have h2 : ls.length ≤ (ls.flatMap (·.es)).length / 2 := (Nat.le_div_iff_mul_le (by omega)).2 h1
    exact del_two hlo hcp hz ti.ok ti.srt ti.en ti.f t he (by omega) hN hN2 (Nat.le_trans (Nat.mul_le_mul_right _ h2) hb)
end Go.Proofs.YtfaeklinhchidaaGreat

/-
  All pairs below a page are yielded.
-/
set_option linter.all false
set_option maxRecDepth 100000
namespace Go.Proofs.YtfaeklinhchidaaGreat
open Go Hold
variable {E : World0} {w : World} {H R X : HP} {K : Value → World → Prop}
instance oneC_146 : OneC prog 146 := ⟨fun w => by kernel_rfl, by kernel_rfl⟩
instance zeroC_146 : ZeroC prog 146 .nilFunc := ⟨by kernel_rfl⟩
end Go.Proofs.YtfaeklinhchidaaGreat

/-
  Scan.
-/
set_option linter.all false
set_option maxRecDepth 100000
namespace Go.Proofs.YtfaeklinhchidaaGreat
open Go Hold
variable {E : World0} {w : World} {H R X : HP} {K : Value → World → Prop}
end Go.Proofs.YtfaeklinhchidaaGreat
