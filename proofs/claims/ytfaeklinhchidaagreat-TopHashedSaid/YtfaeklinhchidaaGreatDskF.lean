/-
  All below a page is gone through.
-/
import Derived.Test.YtfaeklinhchidaaGreatLookP
import Derived.Test.YtfaeklinhchidaaGreatTreU
import Derived.Test.YtfaeklinhchidaaGreatWalT
set_option linter.all false
set_option maxRecDepth 100000
namespace Go.Proofs.YtfaeklinhchidaaGreat
open Go Hold
variable {E : World0} {w : World} {H R X : HP} {K : Value → World → Prop}
/-- A tree, looked at through a change that writes nothing. -/
def Cv (cb tb : Nat) (A : Ad) (N : Nat) (s : St) (k0 : Nat) (le : N ≤ 1000) : Cx := ⟨cb, tb, none, A, N, s.cc, (s.root, s.free, s.fresh), k0, le⟩
def sv (s : St) : St := ⟨0, 0, 0, 0, s.cc⟩
def vcells (tb : Nat) : List Value := [.int .i64 0, .int .i64 0, .int .i64 0, .pointer (some ⟨tb, 0, none⟩), .map none]
theorem to_view {cb tb : Nat} {A : Ad} {N : Nat} {s : St} {k0 c : Nat} (le : N ≤ 1000) (hok : ∀ p, p < N → (s.cc p).Ok) (h : sat E w (pts cb (.cells (vcells tb).toArray 124 (0, 0)) * (trT tb A N s 0 k0 c * R))) : sat E w (chg (Cv cb tb A N s k0 le) c (sv s) * R) := by
  refine sat_chg.2 ?_
  unfold trT at h
  have h2 : sat E w (chM none N s.cc s.cc 0 * (pts cb (.cells (vcells tb).toArray 124 (0, 0)) * (pts tb (.cells [Value.int .i64 s.root, .int .i64 s.free, .int .i64 s.fresh, .pointer (some ⟨A.q, 0, none⟩)].toArray 73 (0, 0)) * (pX A N s.cc 0 k0 c * R)))) :=
    sat_chM0.2 ⟨⟨by simp, fun x hx => by simp at hx, by simp, fun p hp => rfl, hok⟩, h.perm (by ac_rfl)⟩
  exact h2.perm (show _ = pts cb (.cells (vcells tb).toArray 124 (0, 0)) * (pts tb (.cells [Value.int .i64 s.root, .int .i64 s.free, .int .i64 s.fresh, .pointer (some ⟨A.q, 0, none⟩)].toArray 73 (0, 0)) * (chM none N s.cc s.cc 0 * (pX A N s.cc 0 k0 c * R))) by ac_rfl)
theorem of_view {cb tb : Nat} {A : Ad} {N : Nat} {s : St} {k0 c : Nat} {le : N ≤ 1000} (h : sat E w (chg (Cv cb tb A N s k0 le) c (sv s) * R)) : sat E w (trT tb A N s 0 k0 c * R) := by
  have h := sat_chg.1 h
  have h : sat E w (pts cb (.cells (vcells tb).toArray 124 (0, 0)) * (pts tb (.cells [Value.int .i64 s.root, .int .i64 s.free, .int .i64 s.fresh, .pointer (some ⟨A.q, 0, none⟩)].toArray 73 (0, 0)) * (chM none N s.cc s.cc 0 * (pX A N s.cc 0 k0 c * R)))) := h
  have h := h.drop.perm (show _ = chM none N s.cc s.cc 0 * (pts tb (.cells [Value.int .i64 s.root, .int .i64 s.free, .int .i64 s.fresh, .pointer (some ⟨A.q, 0, none⟩)].toArray 73 (0, 0)) * (pX A N s.cc 0 k0 c * R)) by ac_rfl)
  exact (sat_chM0.1 h).2.perm (by unfold trT; ac_rfl)
def nv3 (n : Nat) : Value := .int .i64 n
/-- A report that is being made. -/
def rpI (rb : Nat) (hgt : Nat) (ps : List Nat) : HP := ex fun q : Value × Nat => pts rb (.cells [Value.int .i64 hgt, q.1, .slice none 0 0, .slice none 0 0, .int .i64 q.2].toArray 31 (0, 0)) * (pur (q.2 ≤ 3000000 ∧ q.1.oneCell' = true) * osl 3 1 q.1 ps.length (ps.map nv3))
theorem sat_rpI {rb hgt : Nat} {ps : List Nat} : sat E w (rpI rb hgt ps * R) ↔ ∃ a c l, l ≤ 3000000 ∧ sat E w (pts rb (.cells [Value.int .i64 hgt, .slice a ps.length c, .slice none 0 0, .slice none 0 0, .int .i64 (l : Nat)].toArray 31 (0, 0)) * (osl 3 1 (.slice a ps.length c) ps.length (ps.map nv3) * R)) := by
  unfold rpI
  rw [sat_ex_star]
  constructor
  · rintro ⟨⟨v, l⟩, h⟩
    have h := h.perm (show _ = pur (l ≤ 3000000 ∧ v.oneCell' = true) * (pts rb (.cells [Value.int .i64 hgt, v, .slice none 0 0, .slice none 0 0, .int .i64 (l : Nat)].toArray 31 (0, 0)) * (osl 3 1 v ps.length (ps.map nv3) * R)) by simp only; ac_rfl)
    rw [sat_pur_star] at h
    obtain ⟨a, c, rfl, _, _, _⟩ := osl_shape (h.2.perm (star_left_comm _ _ _))
    exact ⟨a, c, l, h.1.1, h.2⟩
  · rintro ⟨a, c, l, h1, h2⟩
    refine ⟨(.slice a ps.length c, l), ?_⟩
    have : sat E w (pur (l ≤ 3000000 ∧ (Value.slice a ps.length c).oneCell' = true) * (pts rb (.cells [Value.int .i64 hgt, .slice a ps.length c, .slice none 0 0, .slice none 0 0, .int .i64 (l : Nat)].toArray 31 (0, 0)) * (osl 3 1 (.slice a ps.length c) ps.length (ps.map nv3) * R))) := by
      rw [sat_pur_star]; exact ⟨⟨h1, rfl⟩, h2⟩
    exact this.perm (by simp only; ac_rfl)
/-- The last key that came. -/
def lsI (lb : Nat) : Option Bs → HP
  | none => boxS lb (.slice none 0 0)
  | some k => ex fun q : Option Addr × Nat => pur (k ≠ []) * (boxS lb (.slice q.1 k.length q.2) * pers (immS (.slice q.1 k.length q.2) k.length (k.map bv)))
theorem sat_lsI {lb : Nat} {k : Bs} : sat E w (lsI lb (some k) * R) ↔ ∃ a c, k ≠ [] ∧ sat E w (boxS lb (.slice a k.length c) * (pers (immS (.slice a k.length c) k.length (k.map bv)) * R)) := by
  unfold lsI
  simp only
  rw [sat_ex_star]
  constructor
  · rintro ⟨⟨a, c⟩, h⟩
    simp only [star_assoc] at h
    rw [sat_pur_star] at h
    exact ⟨a, c, h.1, h.2⟩
  · rintro ⟨a, c, h1, h2⟩
    refine ⟨(a, c), ?_⟩
    simp only [star_assoc]
    rw [sat_pur_star]
    exact ⟨h1, h2⟩
def seenM (ps : List Nat) : List (Int × Value) := pinsM (ps.map (fun p : Nat => (p : Int)))
theorem seen_look {ps : List Nat} {p : Nat} : lookM (seenM ps) p = if p ∈ ps then some (.bool true) else none := by
  unfold seenM
  rw [pinsM_look]
  have : (p : Int) ∈ ps.map (fun p : Nat => (p : Int)) ↔ p ∈ ps := by
    rw [List.mem_map]
    constructor
    · rintro ⟨q, hq, e⟩
      have : q = p := by omega
      rw [← this]; exact hq
    · intro h; exact ⟨p, h, rfl⟩
  simp only [this]
theorem seen_put {p : Nat} : ∀ {ps : List Nat}, p ∉ ps → putM (seenM ps) p (.bool true) = seenM (ps ++ [p])
  | [], _ => rfl
  | q :: ps, h => by
    have h1 : ¬ (p : Int) = (q : Int) := fun e => h (by rw [show p = q by omega]; simp)
    have ih := seen_put (p := p) (ps := ps) (fun hm => h (List.mem_cons_of_mem _ hm))
    unfold seenM pinsM at ih ⊢
    simp only [List.map_cons, putM, List.cons_append]
    rw [if_neg h1, ih]
/-- What going through asks. -/
def lkI (tb : Nat) (A : Ad) (N : Nat) (s : St) (k0 c rb lb sm hgt : Nat) (acc : Acc) : HP := trT tb A N s 0 k0 c * (rpI rb hgt acc.1 * (lsI lb acc.2 * omap sm (seenM acc.1)))
theorem trT_le {tb : Nat} {A : Ad} {N : Nat} {s : St} {d k0 c c' : Nat} (h : sat E w (trT tb A N s d k0 c * R)) (hc : c' ≤ c) : sat E w (trT tb A N s d k0 c' * R) := by
  have h : sat E w (pX A N s.cc d k0 c * (pts tb (.cells [Value.int .i64 s.root, .int .i64 s.free, .int .i64 s.fresh, .pointer (some ⟨A.q, 0, none⟩)].toArray 73 (0, 0)) * R)) := h.perm (by unfold trT; ac_rfl)
  exact (pX_le h (Nat.le_refl _) (Nat.le_refl _) hc).perm (by unfold trT; ac_rfl)
theorem lsI_store {lb : Nat} {last : Option Bs} {a : Option Addr} {c : Nat} {k : Bs} (hk : k ≠ []) (h : sat E w (lsI lb last * (pers (immS (.slice a k.length c) k.length (k.map bv)) * R))) (kk : ∀ w', sat E w' (lsI lb (some k) * R) → K undef w') :
    efu prog (Instr.storeAt 22 (.pointer (some ⟨lb, 0, none⟩)) (.slice a k.length c)) w K := by
  cases last with
  | none =>
    have h : sat E w (pts lb (.cells [Value.slice none 0 0].toArray 22 (0, 0)) * _) := h
    exact store_at (b := lb) h rfl (by simp) fun w h => kk w (sat_lsI.2 ⟨a, c, hk, h⟩)
  | some k0 =>
    obtain ⟨a0, c0, _, h⟩ := sat_lsI.1 h
    have h : sat E w (pts lb (.cells [Value.slice a0 k0.length c0].toArray 22 (0, 0)) * _) := h
    refine store_at (b := lb) h rfl (by simp) fun w h => kk w (sat_lsI.2 ⟨a, c, hk, ?_⟩)
    have h := h.perm (show _ = pers (immS (.slice a0 k0.length c0) k0.length (k0.map bv)) * (pts lb (.cells [Value.slice a k.length c].toArray 22 (0, 0)) * (pers (immS (.slice a k.length c) k.length (k.map bv)) * R)) by ac_rfl)
    exact h.drop
/-- The last key stands ahead of this one. -/
theorem last_test {lb : Nat} {last : Option Bs} {x : Ev} {e0 : Nat} (ho : ahead last x.e.k = true) (hx : EvR R x) (h : sat E w (pts e0 (.cells (ecells x).toArray 67 (0, 0)) * (lsI lb last * R)))
    {A B : World → Prop} (k : ∀ w', sat E w' (pts e0 (.cells (ecells x).toArray 67 (0, 0)) * (lsI lb last * R)) → B w') :
    bindS (vN (Instr.loadAt 22 (.pointer (some ⟨lb, 0, none⟩)))) fun m_37 => ldv prog (Instr.loadAt 22 (.pointer (some ⟨lb, 0, none⟩))) w fun t_36 w =>
            pvv prog (oEq .neq 22 (.tmp 94) (.const (.slice none 0 0)) t_36 (.slice none 0 0)) w fun t_38 w =>
            gate (some (t_38, true)) (fun K => K (.pointer (some ⟨lb, 0, none⟩)) w) w fun t_39 w =>
            gate (some (t_38, true)) (fun K => pv prog (oNil t_39) w K) w fun t_40 w =>
            gate (some (t_38, true)) (fun K => pvv prog (Instr.fieldAt 67 (.pointer (some ⟨e0, 0, none⟩)) 0) w K) w fun t_41 w =>
            bindS (vN (Instr.loadAt 22 t_40)) fun m_43 => gate (some (t_38, true)) (fun K => ldv prog (Instr.loadAt 22 t_40) w K) w fun t_42 w =>
            bindS (vN (Instr.loadAt 22 t_41)) fun m_45 => gate (some (t_38, true)) (fun K => ldv prog (Instr.loadAt 22 t_41) w K) w fun t_44 w =>
            gate (some (t_38, true)) (fun K => Calls prog 37 #[t_42, t_44] w (Ret fun s_52 w => stay prog none m_37 t_36 w <| K s_52 w)) w fun t_46 w =>
            gate (some (t_38, true)) (fun K => pvv prog (binOp .geq 3 t_46 (.int .i64 0)) w K) w fun t_47 w =>
            pv prog (oPick t_38 t_47 (.bool false)) w fun t_48 w =>
            cd t_48 (A w) (B w) := by
  simp only [↓opsA, opsB, if_true, if_false, ↓reduceIte]
  cases last with
  | none =>
    have h2 : sat E w (boxS lb (.slice none 0 0) * (pts e0 (.cells (ecells x).toArray 67 (0, 0)) * R)) := h.perm (star_left_comm _ _ _)
    refine ld_in (b := lb) (v := .slice none 0 0) h2 rfl ?_
    simp only [↓opsA, opsB, if_true, if_false, ↓reduceIte]
    exact k w h
  | some kb =>
    obtain ⟨a, c, hne, h2⟩ := sat_lsI.1 (h.perm (star_left_comm _ _ _))
    have hrd : Rds (boxS lb (.slice a kb.length c) * (pers (immS (.slice a kb.length c) kb.length (kb.map bv)) * (pts e0 (.cells (ecells x).toArray 67 (0, 0)) * R))) (.slice a kb.length c) kb.length (kb.map bv) := Rds.pers.left.right
    obtain ⟨b, o, hab, _⟩ := win_cell (hrd.win h2) (j := 0) (by rw [List.length_map]; exact List.length_pos_iff.2 hne)
    subst hab
    refine ld_in (b := lb) (v := .slice (some ⟨b, o, none⟩) kb.length c) h2 rfl ?_
    simp only [↓opsA, opsB, if_true, if_false, ↓reduceIte]
    refine ld_in (b := lb) (v := .slice (some ⟨b, o, none⟩) kb.length c) h2 rfl ?_
    refine ld_in (b := e0) (xs := ecells x) (v := x.kv) h2 rfl ?_
    refine Compare_spec h2 hrd hx.k.right.right.right ?_
    refine st_in (b := lb) (xs := [Value.slice (some ⟨b, o, none⟩) kb.length c]) h2 rfl ?_
    have hlt : Lib.compareBytes kb x.e.k < 0 := by
      have := cmp_lt kb x.e.k
      rw [show lexB kb x.e.k = true from ho] at this
      simpa using this
    have hge : ¬ (0 : Int) ≤ Lib.compareBytes kb x.e.k := by omega
    simp only [hge, ↓opsA, opsB, if_true, if_false, ↓reduceIte]
    exact k w h
end Go.Proofs.YtfaeklinhchidaaGreat

/-
  All below a page is gone through: the walk.
-/
set_option linter.all false
set_option maxRecDepth 100000
namespace Go.Proofs.YtfaeklinhchidaaGreat
open Go Hold
variable {E : World0} {w : World} {H R X : HP} {K : Value → World → Prop}
theorem below_spec {tb : Nat} {A : Ad} {N : Nat} (le : N ≤ 1000) {s : St} {k0 c B rb lb sm : Nat} (hB : B ≤ 1000) (hfs : s.fresh ≤ 100000) (hok : ∀ p, p < N → (s.cc p).Ok) : ∀ (f : Nat) {E : World0} {w : World} {R : HP} {K : Value → World → Prop} {p : Nat} {acc : Acc} {q : Nat × Acc},
    f ≤ 1000 → lookS N s.root s.fresh s.cc f p acc = some q → q.2.1.length ≤ B → sat E w (lkI tb A N s k0 (c + (B - acc.1.length)) rb lb sm 0 acc * R) →
    (∀ w', q.1 ≤ f → sat E w' (lkI tb A N s k0 (c + (B - q.2.1.length)) rb lb sm 0 q.2 * R) → K (.int .i64 q.1) w') →
    Calls prog 25 #[.pointer (some ⟨tb, 0, none⟩), .int .i64 p, .pointer (some ⟨rb, 0, none⟩), .pointer (some ⟨lb, 0, none⟩), .map (some sm)] w (Ret K) := by
  intro f
  induction f with
  | zero => intro E w R K p acc q _ hq; cases hq
  | succ f ih =>
    intro E w R K p acc q hf1000 hq hqB h k
    have hlen := lookS_len _ _ _ _ hq
    unfold lookS at hq
    split at hq
    case isFalse => cases hq
    rename_i hp
    obtain ⟨hp1, hp2, hpN, hps⟩ := hp
    split at hq
    case h_2 => cases hq
    rename_i n hcc
    split at hq
    · cases hq
    rename_i hnp
    have okn : NdOk n := by have := hok p hpN; rw [hcc] at this; exact this
    refine c25 ?_
    unfold B25
    refine jn_cut (fun σ w => σ = [] ∧ sat E w (lkI tb A N s k0 (c + (B - acc.1.length)) rb lb sm 0 acc * R)) ?_ ?_
    · intro kk hk
      have h1 : ¬ (p : Int) < 1 := by omega
      have h2 : ¬ (s.fresh : Int) ≤ (p : Int) := by omega
      simp only [h1, ↓opsA, opsB, if_true, if_false, ↓reduceIte]
      have h3 : sat E w (pts tb (.cells [Value.int .i64 s.root, .int .i64 s.free, .int .i64 s.fresh, .pointer (some ⟨A.q, 0, none⟩)].toArray 73 (0, 0)) * (omap sm (seenM acc.1) * (pX A N s.cc 0 k0 (c + (B - acc.1.length)) * (rpI rb 0 acc.1 * (lsI lb acc.2 * R))))) := h.perm (by unfold lkI trT; ac_rfl)
      refine ld_in (b := tb) (v := .int .i64 s.fresh) h3 rfl ?_
      simp only [h2, ↓opsA, opsB, if_true, if_false, ↓reduceIte]
      refine look1_ld (b := sm) h3 ?_
      rw [seen_look, if_neg hps]
      simp only [Option.getD_none, ↓opsA, opsB, if_true, if_false, ↓reduceIte]
      exact hk _ _ ⟨rfl, h⟩
    clear h
    rintro σ w ⟨rfl, h⟩
    rw [fin_nil]
    have h3 : sat E w (omap sm (seenM acc.1) * (rpI rb 0 acc.1 * (trT tb A N s 0 k0 (c + (B - acc.1.length)) * (lsI lb acc.2 * R)))) := h.perm (by unfold lkI; ac_rfl)
    clear h
    refine update_sl (b := sm) h3 fun w h => ?_
    rw [seen_put hps] at h
    have h := h.perm (show _ = rpI rb 0 acc.1 * (omap sm (seenM (acc.1 ++ [p])) * (trT tb A N s 0 k0 (c + (B - acc.1.length)) * (lsI lb acc.2 * R))) by ac_rfl)
    obtain ⟨ra, rc, l, hl, h⟩ := sat_rpI.1 h
    simp only [↓opsA, opsB, if_true, if_false, ↓reduceIte]
    refine ld_in (b := rb) (v := .slice ra acc.1.length rc) h rfl ?_
    refine buildSlice_sl (e := 3) (cs := [Value.int .i64 p].toArray) h (fun w => by kernel_rfl) fun b3 w h => ?_
    have h := h.owns (.slice ra acc.1.length rc)
    refine append_sl h [nv3 p] rfl (.inr ⟨b3, 0, _, 3, (0, 0), rfl, h.drop.pts_get, fun j u hj => by simpa [nv3] using hj⟩) (by simp [nv3, Value.oneCell']) (by omega) (by omega) fun pv w h => ?_
    obtain ⟨pa, pc, rfl, _, _, _⟩ := osl_shape h
    try simp only [↓opsA, opsB, if_true, if_false, ↓reduceIte]
    have h := h.perm (show _ = pts rb (.cells [Value.int .i64 0, .slice ra acc.1.length rc, .slice none 0 0, .slice none 0 0, .int .i64 (l : Nat)].toArray 31 (0, 0)) * (osl 3 1 (.slice pa (acc.1.length + 1) pc) (acc.1.length + 1) (acc.1.map nv3 ++ [nv3 p]) * (pts b3 (.cells [Value.int .i64 p].toArray 3 (0, 0)) * (omap sm (seenM (acc.1 ++ [p])) * (trT tb A N s 0 k0 (c + (B - acc.1.length)) * (lsI lb acc.2 * R))))) by ac_rfl)
    refine store_at (b := rb) h rfl (by simp) fun w h => ?_
    have h : sat E w (lkI tb A N s k0 (c + (B - (acc.1.length + 1)) + 1) rb lb sm 0 (acc.1 ++ [p], acc.2) * R) := by
      have h4 : sat E w (rpI rb 0 (acc.1 ++ [p]) * (pts b3 (.cells [Value.int .i64 p].toArray 3 (0, 0)) * (omap sm (seenM (acc.1 ++ [p])) * (trT tb A N s 0 k0 (c + (B - acc.1.length)) * (lsI lb acc.2 * R))))) :=
        sat_rpI.2 ⟨pa, pc, l, hl, by rw [List.map_append, List.length_append]; exact h⟩
      have e1 : c + (B - acc.1.length) = c + (B - (acc.1.length + 1)) + 1 := by omega
      rw [e1] at h4
      have h4 := h4.perm (show _ = pts b3 (.cells [Value.int .i64 p].toArray 3 (0, 0)) * (lkI tb A N s k0 (c + (B - (acc.1.length + 1)) + 1) rb lb sm 0 (acc.1 ++ [p], acc.2) * R) by unfold lkI; ac_rfl)
      exact h4.drop
    generalize hc2 : c + (B - (acc.1.length + 1)) = c2 at h
    refine pvv_of (v := .agg (vcells tb).toArray) (fun w => by kernel_rfl) ?_
    refine box_sl h fun cb w h => ?_
    have h : sat E w (pts cb (.cells (vcells tb).toArray 124 (0, 0)) * (trT tb A N s 0 k0 (c2 + 1) * (rpI rb 0 (acc.1 ++ [p]) * (lsI lb acc.2 * (omap sm (seenM (acc.1 ++ [p])) * R))))) := h.perm (by unfold lkI; show pts cb (.cells (vcells tb).toArray 124 (0, 0)) * _ = _; ac_rfl)
    have h := to_view le hok h
    have hrd : readS N (sv s) p = some n := by unfold readS sv; rw [if_pos hpN]; simp only [hcc]
    refine read_spec (C := Cv cb tb A N s k0 le) hrd h fun lv xs w hxs _ h => ?_
    obtain ⟨hfew, hxl⟩ := ok_few okn hxs
    have h := h.perm (show _ = chg (Cv cb tb A N s k0 le) c2 (sv s) * (osl 67 3 lv xs.length (elv xs) * (pers (evP xs) * (rpI rb 0 (acc.1 ++ [p]) * (lsI lb acc.2 * (omap sm (seenM (acc.1 ++ [p])) * R))))) by ac_rfl)
    have h := of_view h
    obtain ⟨a, c1, rfl, _, _, _⟩ := osl_shape h.drop
    refine alloc_sl h fun n0 w h => ?_
    have h : sat E w (pts n0 (.cells [Value.bool false, .slice none 0 0].toArray 63 (0, 0)) * _) := h
    refine store_all (b := n0) h (vs := [Value.bool n.leaf, .slice a xs.length c1]) rfl rfl (by simp [Value.oneCell']) fun w h => ?_
    let Q : HP := bxN n0 n.leaf (.slice a xs.length c1) * (osl 67 3 (.slice a xs.length c1) xs.length (elv xs) * (pers (evP xs) * R))
    have hQ : Q = bxN n0 n.leaf (.slice a xs.length c1) * (osl 67 3 (.slice a xs.length c1) xs.length (elv xs) * (pers (evP xs) * R)) := rfl
    clear_value Q
    have h : sat E w (lkI tb A N s k0 c2 rb lb sm 0 (acc.1 ++ [p], acc.2) * Q) := by
      rw [hQ]
      exact h.perm (by unfold lkI bxN; ac_rfl)
    have hqn : ∀ {w : World} {Y : HP}, sat E w (Y * Q) → sat E w (bxN n0 n.leaf (.slice a xs.length c1) * (osl 67 3 (.slice a xs.length c1) xs.length (elv xs) * (pers (evP xs) * (Y * R)))) := fun h => by rw [hQ] at h; exact h.perm (by ac_rfl)
    have hqr : Rds Q (.slice a xs.length c1) xs.length (elv xs) := by rw [hQ]; exact Rds.osl.left.right
    have hqe : ∀ x ∈ xs, EvR Q x := fun x hx => by rw [hQ]; exact ((evP_R x hx).left.right).right
    have hnn : n = ⟨n.leaf, esv xs⟩ := by rw [hxs]
    have htb : ∀ {w : World} {Y : HP} {c' : Nat} {acc' : Acc}, sat E w (lkI tb A N s k0 c' rb lb sm 0 acc' * Y) → sat E w (pts tb (.cells [Value.int .i64 s.root, .int .i64 s.free, .int .i64 s.fresh, .pointer (some ⟨A.q, 0, none⟩)].toArray 73 (0, 0)) * (pX A N s.cc 0 k0 c' * (rpI rb 0 acc'.1 * (lsI lb acc'.2 * (omap sm (seenM acc'.1) * Y))))) := fun h => h.perm (by unfold lkI trT; ac_rfl)
    refine jn_cut (fun σ w => σ = [] ∧ sat E w (lkI tb A N s k0 c2 rb lb sm 0 (acc.1 ++ [p], acc.2) * Q)) ?_ ?_
    · intro kk hk
      try simp only [↓opsA, opsB, if_true, if_false, ↓reduceIte]
      refine ld_in (b := tb) (v := .int .i64 s.root) (htb h) rfl ?_
      try simp only [↓opsA, opsB, if_true, if_false, ↓reduceIte]
      by_cases hroot : p = s.root
      · have h1 : (p : Int) = (s.root : Int) := by omega
        simp only [h1, decide_true, ↓opsA, opsB, if_true, if_false, ↓reduceIte]
        exact hk _ _ ⟨rfl, h⟩
      · have h1 : ¬ (p : Int) = (s.root : Int) := by omega
        have hpoor : n.poor = false := by
          cases e : n.poor
          · rfl
          · exact absurd ⟨hroot, e⟩ hnp
        simp only [h1, ↓opsA, opsB, if_true, if_false, ↓reduceIte]
        refine jn_cut (fun σ w => σ = [] ∧ sat E w (lkI tb A N s k0 c2 rb lb sm 0 (acc.1 ++ [p], acc.2) * Q)) ?_ ?_
        · intro kk2 hk2
          try simp only [↓opsA, opsB, if_true, if_false, ↓reduceIte]
          refine ld_agg (b := n0) (xs := [Value.bool n.leaf, .slice a xs.length c1]) (hqn h) rfl ?_
          refine poor_spec h hqr.right hfew fun w h => ?_
          rw [← hnn, hpoor]
          simp only [↓opsA, opsB, if_true, if_false, ↓reduceIte]
          exact hk2 _ _ ⟨rfl, h⟩
        · clear h
          rintro σ w ⟨rfl, h⟩
          rw [fin_nil]
          refine ld_agg (b := n0) (xs := [Value.bool n.leaf, .slice a xs.length c1]) (hqn h) rfl ?_
          refine bytes_spec h hqr.right hfew fun w h => ?_
          have hbl := bytes_le hfew n.leaf
          generalize (⟨n.leaf, esv xs⟩ : Nd).bytes = bn at *
          obtain ⟨ra, rc, l, hl, h⟩ := sat_rpI.1 (h.perm (show _ = rpI rb 0 (acc.1 ++ [p]) * (trT tb A N s 0 k0 c2 * (lsI lb acc.2 * (omap sm (seenM (acc.1 ++ [p])) * Q))) by unfold lkI; ac_rfl))
          have hback : ∀ {w : World} {l : Nat}, l ≤ 3000000 → sat E w (pts rb (.cells [Value.int .i64 (0 : Nat), .slice ra (acc.1 ++ [p]).length rc, .slice none 0 0, .slice none 0 0, .int .i64 (l : Nat)].toArray 31 (0, 0)) * (osl 3 1 (.slice ra (acc.1 ++ [p]).length rc) (acc.1 ++ [p]).length ((acc.1 ++ [p]).map nv3) * (trT tb A N s 0 k0 c2 * (lsI lb acc.2 * (omap sm (seenM (acc.1 ++ [p])) * Q))))) → sat E w (lkI tb A N s k0 c2 rb lb sm 0 (acc.1 ++ [p], acc.2) * Q) := fun hl h =>
            (sat_rpI.2 ⟨ra, rc, _, hl, h⟩).perm (by unfold lkI; ac_rfl)
          try simp only [↓opsA, opsB, if_true, if_false, ↓reduceIte]
          refine ld_in (b := rb) (v := .int .i64 (l : Nat)) h rfl ?_
          try simp only [↓opsA, opsB, if_true, if_false, ↓reduceIte]
          have hset : ∀ {w : World}, sat E w (pts rb (.cells [Value.int .i64 (0 : Nat), .slice ra (acc.1 ++ [p]).length rc, .slice none 0 0, .slice none 0 0, .int .i64 (l : Nat)].toArray 31 (0, 0)) * (osl 3 1 (.slice ra (acc.1 ++ [p]).length rc) (acc.1 ++ [p]).length ((acc.1 ++ [p]).map nv3) * (trT tb A N s 0 k0 c2 * (lsI lb acc.2 * (omap sm (seenM (acc.1 ++ [p])) * Q))))) → efu prog (Instr.storeAt 3 (.pointer (some ⟨rb, 0 + 4, none⟩)) (.int .i64 bn)) w fun u w => kk [] w := fun {w} h => by
            refine store_at (b := rb) h rfl (by simp) fun w h => ?_
            exact hk _ _ ⟨rfl, hback hbl h⟩
          by_cases h0 : l = 0
          · have h0' : (l : Int) = 0 := by omega
            simp only [h0', decide_true, ↓opsA, opsB, if_true, if_false, ↓reduceIte]
            exact hset h
          · have h0' : ¬ (l : Int) = 0 := by omega
            simp only [h0', ↓opsA, opsB, if_true, if_false, ↓reduceIte]
            refine ld_in (b := rb) (v := .int .i64 (l : Nat)) h rfl ?_
            simp only [↓opsA, opsB, if_true, if_false, ↓reduceIte]
            refine cd_dec (fun _ => hset h) (fun _ => hk _ _ ⟨rfl, hback hl h⟩)
    clear h
    rintro σ w ⟨rfl, h⟩
    rw [fin_nil, o_field]
    refine ld_in (b := n0) (xs := [Value.bool n.leaf, .slice a xs.length c1]) (v := .slice a xs.length c1) (hqn h) rfl ?_
    rw [o_len]
    have hal : (acc.1 ++ [p]).length = acc.1.length + 1 := by simp
    -- one element
    cases hlf : n.leaf
    · rw [hlf] at hq hQ hqn
      simp only [Bool.false_eq_true, if_false] at hq
      obtain ⟨q1, hq1, hq2⟩ := Option.bind_eq_some_iff.1 hq
      cases hq2
      have hqB : q1.2.1.length ≤ B := hqB
      have hq1 : lookKids (lookS N s.root s.fresh s.cc f) (esv xs) true 0 (acc.1 ++ [p], acc.2) = some q1 := by rw [hxs]; exact hq1
      refine lp_nat (fun r σ w => ∃ (i high : Nat) (ac : Acc), σ = [.int .i64 high, .int .i64 i] ∧ r = xs.length - i ∧ i ≤ xs.length ∧ high ≤ f ∧ lookKids (lookS N s.root s.fresh s.cc f) ((esv xs).drop i) (decide (i = 0)) high ac = some q1 ∧ ac.1.length ≤ q1.2.1.length ∧
        sat E w (lkI tb A N s k0 (c + (B - ac.1.length)) rb lb sm 0 ac * Q)) xs.length ⟨0, 0, _, rfl, rfl, by omega, by omega, hq1, ?_, by rw [hal, hc2]; exact h⟩ ?_
      · rw [hal]; exact hlen
      clear h
      rintro r σ w again ⟨i, high, ac, rfl, rfl, hi, hhigh, hkd, hacl, h⟩ hag
      try simp only [↓opsA, opsB, if_true, if_false, ↓reduceIte]
      refine cd_dec (fun hlt => ?_) (fun hge => ?_)
      · have hlt : i < xs.length := by omega
        have hd : (esv xs).drop i = xs[i].e :: (esv xs).drop (i + 1) := by
          rw [List.drop_eq_getElem_cons (by rw [esv_len]; exact hlt), esv_at xs hlt]
        rw [hd, lookKids] at hkd
        obtain ⟨q3, hq3, hkd⟩ := Option.bind_eq_some_iff.1 hkd
        split at hkd
        · cases hkd
        rename_i hsame
        have hq3l := lookS_len _ _ _ _ hq3
        have hq3m := lookKids_len (fun p acc q h => Nat.le_of_lt (lookS_len f p acc q h)) _ _ _ _ _ hkd
        refine jn_cut (fun σ w => σ = [.int .i64 q3.1] ∧ q3.1 ≤ f ∧ sat E w (lkI tb A N s k0 (c + (B - q3.2.1.length)) rb lb sm 0 q3.2 * Q)) ?_ ?_
        · intro kk hk
          clear hag
          obtain ⟨b, o, hab, hld⟩ := ld_ev h hqr.right hlt
          rw [hab, o_index (by omega) (by omega)]
          simp only [Int.toNat_natCast]
          refine hld ?_
          refine alloc_sl h fun e0 w h => ?_
          have h : sat E w (pts e0 (.cells [Value.slice none 0 0, .slice none 0 0, .int .i64 0].toArray 67 (0, 0)) * _) := h
          refine store_all (b := e0) h rfl rfl (ecells_one xs[i]) fun w h => ?_
          try simp only [↓opsA, opsB, if_true, if_false, ↓reduceIte]
          refine ld_in (b := n0) (xs := [Value.bool false, .slice a xs.length c1]) (v := .bool false) (hqn (h.perm (show _ = (pts e0 (.cells (ecells xs[i]).toArray 67 (0, 0)) * lkI tb A N s k0 (c + (B - ac.1.length)) rb lb sm 0 ac) * Q by ac_rfl))) rfl ?_
          simp only [↓opsA, opsB, if_true, if_false, ↓reduceIte]
          refine ld_in (b := e0) (xs := ecells xs[i]) (v := .int .i64 xs[i].e.pg) h rfl ?_
          have h := h.drop
          refine ih (by omega) hq3 (by omega) h fun w hq1000 h => ?_
          refine jn_cut (fun σ w => σ = [] ∧ sat E w (lkI tb A N s k0 (c + (B - q3.2.1.length)) rb lb sm 0 q3.2 * Q)) ?_ ?_
          · intro kk2 hk2
            try simp only [↓opsA, opsB, if_true, if_false, ↓reduceIte]
            by_cases h0 : i = 0
            · have h0' : ¬ (0 : Int) < (i : Int) := by omega
              simp only [h0', ↓opsA, opsB, if_true, if_false, ↓reduceIte]
              exact hk2 _ _ ⟨rfl, h⟩
            · have h0' : (0 : Int) < (i : Int) := by omega
              have hs : q3.1 = high := by
                refine Classical.byContradiction fun hne => hsame ⟨by simp [h0], hne⟩
              have hs' : (q3.1 : Int) = (high : Int) := by omega
              simp only [h0', hs', decide_true, ↓opsA, opsB, if_true, if_false, ↓reduceIte]
              exact hk2 _ _ ⟨rfl, h⟩
          · clear h
            rintro σ w ⟨rfl, h⟩
            rw [fin_nil]
            exact hk _ _ ⟨rfl, hq1000, h⟩
        · clear h
          rintro σ w ⟨rfl, hq1000, h⟩
          rw [pop_cons, fin_nil]
          try simp only [↓opsA, opsB, if_true, if_false, ↓reduceIte]
          rw [i64_of (n := (i : Int) + 1) (by omega) (by omega)]
          refine hag (xs.length - (i + 1)) _ _ (by omega) ⟨i + 1, q3.1, q3.2, rfl, rfl, by omega, hq1000, ?_, hq3m, h⟩
          have : decide (i + 1 = 0) = false := by simp
          rw [this]; exact hkd
      · have : i = xs.length := by omega
        subst this
        rw [List.drop_eq_nil_of_le (by rw [esv_len]; omega)] at hkd
        cases hkd
        try simp only [↓opsA, opsB, if_true, if_false, ↓reduceIte]
        rw [i64_of (n := (high : Int) + 1) (by omega) (by omega)]
        refine k w ?_ ?_
        · show high + 1 ≤ f + 1; omega
        · rw [hQ] at h
          exact (h.perm (show _ = bxN n0 false (.slice a xs.length c1) * (osl 67 3 (.slice a xs.length c1) xs.length (elv xs) * (pers (evP xs) * (lkI tb A N s k0 (c + (B - ac.1.length)) rb lb sm 0 ac * R))) by ac_rfl)).drop.drop.drop
    · rw [hlf] at hq hQ hqn
      simp only [if_true] at hq
      obtain ⟨lastF, hq1, hq2⟩ := Option.bind_eq_some_iff.1 hq
      cases hq2
      have hq1 : lookLeaf (esv xs) acc.2 = some lastF := by rw [hxs]; exact hq1
      refine lp_nat (fun r σ w => ∃ (i : Nat) (la : Option Bs), σ = [.int .i64 0, .int .i64 i] ∧ r = xs.length - i ∧ i ≤ xs.length ∧ lookLeaf ((esv xs).drop i) la = some lastF ∧
        sat E w (lkI tb A N s k0 c2 rb lb sm 0 (acc.1 ++ [p], la) * Q)) xs.length ⟨0, acc.2, rfl, rfl, by omega, hq1, h⟩ ?_
      clear h
      rintro r σ w again ⟨i, la, rfl, rfl, hi, hkd, h⟩ hag
      rw [pop_cons, pop_cons, fin_nil, o_lss]
      refine cd_dec (fun hlt => ?_) (fun hge => ?_)
      · have hlt : i < xs.length := by omega
        have hd : (esv xs).drop i = xs[i].e :: (esv xs).drop (i + 1) := by
          rw [List.drop_eq_getElem_cons (by rw [esv_len]; exact hlt), esv_at xs hlt]
        rw [hd, lookLeaf_cons] at hkd
        have hcond : xs[i].e.k ≠ [] ∧ ahead la xs[i].e.k = true := Classical.byContradiction fun hc => by rw [if_neg hc] at hkd; cases hkd
        rw [if_pos hcond] at hkd
        obtain ⟨hne, hord⟩ := hcond
        refine jn_cut (fun σ w => σ = [.int .i64 0] ∧ sat E w (lkI tb A N s k0 c2 rb lb sm 0 (acc.1 ++ [p], some xs[i].e.k) * Q)) ?_ ?_
        · intro kk hk
          clear hag
          obtain ⟨b, o, hab, hld⟩ := ld_ev h hqr.right hlt
          rw [hab, o_index (by omega) (by omega)]
          simp only [Int.toNat_natCast]
          refine hld ?_
          refine alloc_sl h fun e0 w h => ?_
          have h : sat E w (pts e0 (.cells [Value.slice none 0 0, .slice none 0 0, .int .i64 0].toArray 67 (0, 0)) * _) := h
          refine store_all (b := e0) h rfl rfl (ecells_one xs[i]) fun w h => ?_
          rw [o_field]
          refine ld_in (b := n0) (xs := [Value.bool true, .slice a xs.length c1]) (v := .bool true) (hqn (h.perm (show _ = (pts e0 (.cells (ecells xs[i]).toArray 67 (0, 0)) * lkI tb A N s k0 c2 rb lb sm 0 (acc.1 ++ [p], la)) * Q by ac_rfl))) rfl ?_
          rw [cd_true]
          have h : sat E w (pts e0 (.cells (ecells xs[i]).toArray 67 (0, 0)) * (lsI lb la * (trT tb A N s 0 k0 c2 * (rpI rb 0 (acc.1 ++ [p]) * (omap sm (seenM (acc.1 ++ [p])) * Q))))) := h.perm (by unfold lkI; ac_rfl)
          refine jn_cut (fun σ w => σ = [] ∧ sat E w (pts e0 (.cells (ecells xs[i]).toArray 67 (0, 0)) * (lsI lb la * (trT tb A N s 0 k0 c2 * (rpI rb 0 (acc.1 ++ [p]) * (omap sm (seenM (acc.1 ++ [p])) * Q)))))) ?_ ?_
          · intro kk2 hk2
            refine dr_sl h fun w h _ => ?_
            refine last_test hord (((hqe _ (List.getElem_mem _)).right).right.right) h fun w h => ?_
            exact hk2 _ _ ⟨rfl, h⟩
          · clear h
            rintro σ w ⟨rfl, h⟩
            rw [fin_nil]
            try simp only [↓opsA, opsB, if_true, if_false, ↓reduceIte]
            refine ld_in (b := e0) (xs := ecells xs[i]) (v := xs[i].kv) h rfl ?_
            have h := h.drop
            rw [hQ] at h
            have h := h.perm (show _ = pers (evP xs) * (lsI lb la * (trT tb A N s 0 k0 c2 * (rpI rb 0 (acc.1 ++ [p]) * (omap sm (seenM (acc.1 ++ [p])) * (bxN n0 true (.slice a xs.length c1) * (osl 67 3 (.slice a xs.length c1) xs.length (elv xs) * R)))))) by ac_rfl)
            have h := h.pers_new (ψ := immS (.slice xs[i].ka xs[i].e.k.length xs[i].kc) xs[i].e.k.length (xs[i].e.k.map bv)) fun I hI => (hI xs[i] (List.getElem_mem _)).1
            have h := h.perm (show _ = lsI lb la * (pers (immS (.slice xs[i].ka xs[i].e.k.length xs[i].kc) xs[i].e.k.length (xs[i].e.k.map bv)) * (trT tb A N s 0 k0 c2 * (rpI rb 0 (acc.1 ++ [p]) * (omap sm (seenM (acc.1 ++ [p])) * Q)))) by rw [hQ]; ac_rfl)
            refine lsI_store hne h fun w h => ?_
            exact hk _ _ ⟨rfl, h.perm (by unfold lkI; ac_rfl)⟩
        · clear h
          rintro σ w ⟨rfl, h⟩
          rw [pop_cons, fin_nil]
          try simp only [↓opsA, opsB, if_true, if_false, ↓reduceIte]
          rw [i64_of (n := (i : Int) + 1) (by omega) (by omega)]
          exact hag (xs.length - (i + 1)) _ _ (by omega) ⟨i + 1, some xs[i].e.k, rfl, rfl, by omega, hkd, h⟩
      · have : i = xs.length := by omega
        subst this
        rw [List.drop_eq_nil_of_le (by rw [esv_len]; omega)] at hkd
        cases hkd
        try simp only [↓opsA, opsB, if_true, if_false, ↓reduceIte]
        refine k w (by omega) ?_
        show sat E w (lkI tb A N s k0 (c + (B - (acc.1 ++ [p]).length)) rb lb sm 0 (acc.1 ++ [p], lastF) * R)
        rw [hal, hc2]
        rw [hQ] at h
        exact (h.perm (show _ = bxN n0 true (.slice a xs.length c1) * (osl 67 3 (.slice a xs.length c1) xs.length (elv xs) * (pers (evP xs) * (lkI tb A N s k0 c2 rb lb sm 0 (acc.1 ++ [p], lastF) * R))) by ac_rfl)).drop.drop.drop
end Go.Proofs.YtfaeklinhchidaaGreat

/-
  A key's value.
-/
set_option linter.all false
set_option maxRecDepth 100000
namespace Go.Proofs.YtfaeklinhchidaaGreat
open Go Hold
variable {E : World0} {w : World} {H R X : HP} {K : Value → World → Prop}
theorem CloneB_spec {v : Value} {l : Bs} (h : sat E w H) (hv : Rds H v l.length (l.map bv)) (hn : l.length ≤ 10000) (k : ∀ v' w', sat E w' (osl 5 1 v' l.length (l.map bv) * H) → K v' w') :
    Calls prog 35 #[v] w (Ret K) := by
  obtain ⟨a, c, rfl, hc, hv, hnil⟩ := hv.shape h
  refine c35 ?_
  unfold B35
  rcases a with _ | a
  · have hx0 := hnil rfl
    have hl0 : l = [] := by simpa using hx0
    subst hl0
    have hq : (pvv prog (oEq .eql 22 (.tmp 3) (.const (.slice none 0 0)) (.slice none 0 c) (.slice none 0 0)) w fun t_0 w => cd t_0 (K (.slice none 0 0) w) (efv prog (Instr.buildSlice 22 0 #[]) w fun t_1 w => ef prog (oBi .append #[22, 22] 22 #[false, false] #[t_1, .slice none 0 c]) w fun t_2 w => K t_2 w)) := by
      rw [o_eqSl, Option.isNone_none, cd_true]
      exact k _ w (osl_nil h 5 1)
    exact hq
  · rw [o_eqSl, Option.isNone_some, cd_false]
    refine buildSlice_sl (e := 5) (n := 0) (cs := #[]) h (fun w => by kernel_rfl) fun b w h => ?_
    have h : sat E w (osl 5 1 (.slice (some ⟨b, 0, none⟩) 0 0) 0 [] * H) := osl_of (xs := []) h rfl (by omega)
    refine append_sl h (l.map bv) (by simp) (hv.win h.drop) (bv_one l) (by omega) (by omega) fun v' w h => ?_
    rw [Nat.zero_add, List.nil_append] at h
    exact k v' w h
theorem leafT_spec {tb : Nat} {A : Ad} {N : Nat} (le : N ≤ 1000) {s : St} {k0 c f : Nat} {key : Bs} {kv : Value} {n : Nd} {i : Nat} {t : Bool} (hs : leafS N s key f s.root = some (n, i, t)) (hok : ∀ p, p < N → (s.cc p).Ok) (hkr : Rds R kv key.length (key.map bv))
    (h : sat E w (trT tb A N s 0 k0 (c + f) * R)) (k : ∀ lv xs w', esv xs = n.l → NdOk n → n.leaf = true → (i, t) = findP n key → sat E w' (osl 67 3 lv xs.length (elv xs) * (pers (evP xs) * (trT tb A N s 0 k0 c * R))) → K (.tuple #[nv n.leaf lv, .int .i64 i, .bool t]) w') :
    Calls prog 30 #[.pointer (some ⟨tb, 0, none⟩), kv] w (Ret K) := by
  obtain ⟨ka, kc, rfl, _, hkr, _⟩ := hkr.shape h.drop
  refine c30 ?_
  unfold B30
  refine alloc_sl h fun n0 w h => ?_
  have h : sat E w (pts n0 (.cells [Value.bool false, .slice none 0 0].toArray 63 (0, 0)) * (trT tb A N s 0 k0 (c + f) * R)) := h
  refine pvv_of (v := .agg (vcells tb).toArray) (fun w => by kernel_rfl) ?_
  refine box_sl h fun cb w h => ?_
  have h : sat E w (pts cb (.cells (vcells tb).toArray 124 (0, 0)) * (trT tb A N s 0 k0 (c + f) * (pts n0 (.cells [Value.bool false, .slice none 0 0].toArray 63 (0, 0)) * R))) := by
    have h : sat E w (pts cb (.cells (vcells tb).toArray 124 (0, 0)) * (pts n0 (.cells [Value.bool false, .slice none 0 0].toArray 63 (0, 0)) * (trT tb A N s 0 k0 (c + f) * R))) := h
    exact h.perm (by ac_rfl)
  rw [o_nil, o_field, o_field]
  refine ld_in (b := tb) (v := .int .i64 s.root) (xs := [Value.int .i64 s.root, .int .i64 s.free, .int .i64 s.fresh, .pointer (some ⟨A.q, 0, none⟩)]) (h.perm (show _ = pts tb (.cells [Value.int .i64 s.root, .int .i64 s.free, .int .i64 s.fresh, .pointer (some ⟨A.q, 0, none⟩)].toArray 73 (0, 0)) * (pX A N s.cc 0 k0 (c + f) * (pts cb (.cells (vcells tb).toArray 124 (0, 0)) * (pts n0 (.cells [Value.bool false, .slice none 0 0].toArray 63 (0, 0)) * R))) by unfold trT; ac_rfl)) rfl ?_
  have h := to_view le hok h
  have hrd : ∀ p, readS N (sv s) p = readS N s p := fun p => rfl
  refine lp_nat (fun q σ w => ∃ (p : Nat) (lf : Bool) (lv : Value), σ = [.int .i64 p] ∧ leafS N s key q p = some (n, i, t) ∧ lv.oneCell' = true ∧ sat E w (pts n0 (.cells [Value.bool lf, lv].toArray 63 (0, 0)) * (chg (Cv cb tb A N s k0 le) (c + q) (sv s) * R))) f ⟨s.root, false, .slice none 0 0, rfl, hs, rfl, h.perm (star_left_comm _ _ _)⟩ ?_
  clear h
  rintro q σ w again ⟨p, lf, lv0, rfl, hlf, hlv0, h⟩ hag
  rw [pop_cons, fin_nil, o_neInt]
  cases q with
  | zero => cases hlf
  | succ q =>
    unfold leafS at hlf
    by_cases hp0 : p = 0
    · rw [if_pos hp0] at hlf; cases hlf
    rw [if_neg hp0] at hlf
    obtain ⟨nn, hnn, hlf⟩ := Option.bind_eq_some_iff.1 hlf
    have hp0' : ¬ (p : Int) = 0 := by omega
    simp only [hp0', decide_false, Bool.not_false, cd_true]
    have h : sat E w (chg (Cv cb tb A N s k0 le) (c + q + 1) (sv s) * (pts n0 (.cells [Value.bool lf, lv0].toArray 63 (0, 0)) * R)) := h.perm (star_left_comm _ _ _)
    refine read_spec (C := Cv cb tb A N s k0 le) ((hrd p).trans hnn) h fun lv xs w hxs ok h => ?_
    obtain ⟨hfew, hxl⟩ := ok_few ok hxs
    obtain ⟨a, c1, rfl, _, _, _⟩ := osl_shape h
    have h := h.own n0
    refine store_all (b := n0) h (vs := [Value.bool nn.leaf, .slice a xs.length c1]) rfl rfl (by simp [Value.oneCell']) fun w h => ?_
    refine ld_agg (b := n0) h rfl ?_
    have hnn2 : nn = ⟨nn.leaf, esv xs⟩ := by rw [hxs]
    refine find_spec h (Rds.osl.left.right) (fun x hx => ((evP_R x hx).left.right).right) hkr.right.right.right.right (by rw [hxs]; exact ok.s) (by omega) fun w h => ?_
    rw [← hnn2]
    simp only [↓opsA, opsB, if_true, if_false, ↓reduceIte]
    refine ld_in (b := n0) (v := .bool nn.leaf) h rfl ?_
    have h := h.perm (show _ = pts n0 (.cells [Value.bool nn.leaf, .slice a xs.length c1].toArray 63 (0, 0)) * (osl 67 3 (.slice a xs.length c1) xs.length (elv xs) * (pers (evP xs) * (chg (Cv cb tb A N s k0 le) (c + q) (sv s) * R))) by ac_rfl)
    cases hl2 : nn.leaf
    · rw [hl2] at hlf h
      simp only [Bool.false_eq_true, if_false] at hlf
      obtain ⟨e, he, hlf2⟩ := Option.bind_eq_some_iff.1 hlf
      rw [cd_false]
      generalize (findP nn key).1 = j at *
      have hj : j < xs.length := by
        have := (List.getElem?_eq_some_iff.1 he).1
        rw [← hxs, esv_len] at this; exact this
      have hxe : xs[j].e = e := by
        rw [← hxs] at he
        rw [← esv_at xs hj]; exact (List.getElem?_eq_some_iff.1 he).2
      refine ld_in (b := n0) (v := .slice a xs.length c1) h rfl ?_
      have hrr : Rds (pts n0 (.cells [Value.bool false, .slice a xs.length c1].toArray 63 (0, 0)) * (osl 67 3 (.slice a xs.length c1) xs.length (elv xs) * (pers (evP xs) * (chg (Cv cb tb A N s k0 le) (c + q) (sv s) * R)))) (.slice a xs.length c1) xs.length (elv xs) := Rds.osl.left.right
      obtain ⟨b, o, rfl, _⟩ := ld_ev h hrr hj
      rw [o_index (by omega) (by omega)]
      simp only [↓opsA, opsB, if_true, if_false, ↓reduceIte, Int.toNat_natCast]
      have hpg : (elv xs)[j * 3 + 2]? = some (.int .i64 e.pg) := by
        have := take_cell (o := j * 3) (j := 2) (elv_at hj) rfl
        rw [this]; show some (Value.int .i64 (xs[j].e.pg)) = _; rw [hxe]
      refine ld_rd h hrr (j * 3 + 2) (by omega) hpg ?_
      refine hag q _ _ (by omega) ⟨e.pg, false, .slice (some ⟨b, o, none⟩) xs.length c1, rfl, hlf2, rfl, ?_⟩
      exact (h.perm (show _ = osl 67 3 (.slice (some ⟨b, o, none⟩) xs.length c1) xs.length (elv xs) * (pers (evP xs) * (pts n0 (.cells [Value.bool false, .slice (some ⟨b, o, none⟩) xs.length c1].toArray 63 (0, 0)) * (chg (Cv cb tb A N s k0 le) (c + q) (sv s) * R))) by ac_rfl)).drop.drop
    · rw [hl2] at hlf h
      simp only [if_true] at hlf
      obtain ⟨rfl, hft⟩ : nn = n ∧ findP nn key = (i, t) := by
        have := Option.some.inj hlf
        exact ⟨congrArg Prod.fst this, congrArg Prod.snd this⟩
      rw [hft]
      rw [cd_true]
      refine ld_agg (b := n0) h rfl ?_
      refine res_all (b := n0) h (vs := [Value.bool true, .slice a xs.length c1]) rfl rfl (by simp [Value.oneCell']) fun w h => ?_
      have := k (.slice a xs.length c1) xs w hxs ok hl2 hft.symm
      rw [hl2] at this
      refine this ?_
      have h := h.drop.perm (show _ = chg (Cv cb tb A N s k0 le) (c + q) (sv s) * (osl 67 3 (.slice a xs.length c1) xs.length (elv xs) * (pers (evP xs) * R)) by ac_rfl)
      exact (trT_le (c' := c) (of_view h) (by omega)).perm (by ac_rfl)
theorem Get_spec {tb : Nat} {A : Ad} {N : Nat} (le : N ≤ 1000) {s : St} {k0 c f : Nat} {key : Bs} {ka : Option Addr} {kc : Nat} {n : Nd} {i : Nat} {e : En} (hs : leafS N s key f s.root = some (n, i, true)) (he : n.l[i]? = some e) (hok : ∀ p, p < N → (s.cc p).Ok) (hkr : Rds R (.slice ka key.length kc) key.length (key.map bv)) (hk1 : 1 ≤ key.length) (hk2 : key.length ≤ 64)
    (h : sat E w (trT tb A N s 0 k0 (c + f) * R)) (k : ∀ v w', sat E w' (osl 5 1 v e.v.length (e.v.map bv) * (trT tb A N s 0 k0 c * R)) → K (.tuple #[v, .int .i64 0]) w') :
    Calls prog 11 #[.pointer (some ⟨tb, 0, none⟩), .slice ka key.length kc] w (Ret K) := by
  refine c11 ?_
  unfold B11
  simp only [↓opsA, opsB, if_true, if_false, ↓reduceIte]
  refine isKey_spec hk1 hk2 ?_
  simp only [↓opsA, opsB, if_true, if_false, ↓reduceIte]
  refine leafT_spec le hs hok hkr h fun lv xs w hxs ok hlf _ h => ?_
  obtain ⟨hfew, hxl⟩ := ok_few ok hxs
  obtain ⟨a, c1, rfl, _, _, _⟩ := osl_shape h
  unfold nv
  simp only [↓opsA, opsB, if_true, if_false, ↓reduceIte]
  refine alloc_sl h fun n0 w h => ?_
  have h : sat E w (pts n0 (.cells [Value.bool false, .slice none 0 0].toArray 63 (0, 0)) * _) := h
  refine store_all (b := n0) h (vs := [Value.bool n.leaf, .slice a xs.length c1]) rfl rfl (by simp [Value.oneCell']) fun w h => ?_
  try simp only [↓opsA, opsB, if_true, if_false, ↓reduceIte]
  refine ld_in (b := n0) (v := .slice a xs.length c1) h rfl ?_
  have hi : i < xs.length := by
    have := (List.getElem?_eq_some_iff.1 he).1
    rw [← hxs, esv_len] at this; exact this
  have hxe : xs[i].e = e := by
    rw [← hxs] at he
    rw [← esv_at xs hi]; exact (List.getElem?_eq_some_iff.1 he).2
  have hrr : Rds (pts n0 (.cells [Value.bool n.leaf, .slice a xs.length c1].toArray 63 (0, 0)) * (osl 67 3 (.slice a xs.length c1) xs.length (elv xs) * (pers (evP xs) * (trT tb A N s 0 k0 c * R)))) (.slice a xs.length c1) xs.length (elv xs) := Rds.osl.left.right
  obtain ⟨b, o, rfl, _⟩ := ld_ev h hrr hi
  rw [o_index (by omega) (by omega)]
  simp only [↓opsA, opsB, if_true, if_false, ↓reduceIte, Int.toNat_natCast]
  have hvv : (elv xs)[i * 3 + 1]? = some xs[i].vv := take_cell (o := i * 3) (j := 1) (elv_at hi) rfl
  refine ld_rd h hrr (i * 3 + 1) (by omega) hvv ?_
  have hm := hfew.2 xs[i] (List.getElem_mem _)
  refine CloneB_spec h ((((evP_R (xs := xs) xs[i] (List.getElem_mem _)).left.right).right).v) (by omega) fun v' w h => ?_
  rw [hxe] at h
  refine k v' w ?_
  exact (h.perm (show _ = pts n0 (.cells [Value.bool n.leaf, .slice (some ⟨b, o, none⟩) xs.length c1].toArray 63 (0, 0)) * (osl 67 3 (.slice (some ⟨b, o, none⟩) xs.length c1) xs.length (elv xs) * (pers (evP xs) * (osl 5 1 v' e.v.length (e.v.map bv) * (trT tb A N s 0 k0 c * R)))) by ac_rfl)).drop.drop.drop
end Go.Proofs.YtfaeklinhchidaaGreat

/-
  All pairs below a page are yielded.
-/
set_option linter.all false
set_option maxRecDepth 100000
namespace Go.Proofs.YtfaeklinhchidaaGreat
open Go Hold
variable {E : World0} {w : World} {H R X : HP} {K : Value → World → Prop}
instance oneC_146 : OneC prog 146 := ⟨fun w => by kernel_rfl, by kernel_rfl⟩
instance zeroC_146 : ZeroC prog 146 .nilFunc := ⟨by kernel_rfl⟩
def belowF (c5 fb bb : Nat) : Value := .func (.func 68) #[] #[.pointer (some ⟨c5, 0, none⟩), .pointer (some ⟨fb, 0, none⟩), .pointer (some ⟨bb, 0, none⟩)]
def bxsI (cb c5 fb bb : Nat) : HP := pts c5 (.cells [Value.pointer (some ⟨cb, 0, none⟩)].toArray 122 (0, 0)) * (pts fb (.cells [Value.slice none 0 0].toArray 22 (0, 0)) * pts bb (.cells [belowF c5 fb bb].toArray 146 (0, 0)))
theorem pairs1_spec {E : World0} {tb cb c5 fb bb : Nat} {A : Ad} {N : Nat} (le : N ≤ 1000) {s : St} {k0 : Nat} {Yst : List En → HP} {yv : Value}
    (hy : ∀ {w : World} {K : Value → World → Prop} {acc : List En} {x : Ev} {Z : HP}, acc.length < 100 → x.e.k.length ≤ 1000 → x.e.v.length ≤ 1000 → sat E w (pers (evP [x]) * (Z * Yst acc)) → (∀ w', sat E w' (Z * Yst (acc ++ [x.e])) → K (.bool true) w') → ef prog (oCall yv #[x.kv, x.vv]) w K) :
    ∀ (f : Nat) {w : World} {R : HP} {K : Value → World → Prop} {c p : Nat} {acc : List En} {q : List En × Nat}, pairsS N s f p = some q → acc.length + q.1.length ≤ 100 →
    sat E w (chg (Cv cb tb A N s k0 le) (c + q.2) (sv s) * (bxsI cb c5 fb bb * (R * Yst acc))) → (∀ w', sat E w' (chg (Cv cb tb A N s k0 le) c (sv s) * (bxsI cb c5 fb bb * (R * Yst (acc ++ q.1)))) → K (.bool true) w') →
    Calls prog 68 #[.int .i64 p, yv, .pointer (some ⟨c5, 0, none⟩), .pointer (some ⟨fb, 0, none⟩), .pointer (some ⟨bb, 0, none⟩)] w (Ret K) := by
  intro f
  induction f with
  | zero => intro w R K c p acc q hq; cases hq
  | succ f ih =>
    intro w R K c p acc q hq hql h k
    unfold pairsS at hq
    obtain ⟨n, hn, hq⟩ := Option.bind_eq_some_iff.1 hq
    split at hq
    case isFalse => cases hq
    rename_i hf0
    have hcnt : 1 ≤ q.2 := by
      split at hq
      · cases hq; exact Nat.le_refl _
      · obtain ⟨q1, _, hq2⟩ := Option.bind_eq_some_iff.1 hq
        cases hq2; show 1 ≤ q1.2 + 1; omega
    have hrd : readS N (sv s) p = some n := hn
    refine c68 ?_
    unfold B68
    have hbx : ∀ {w : World} {Y1 Y2 : HP}, sat E w (Y1 * (bxsI cb c5 fb bb * Y2)) → sat E w (pts c5 (.cells [Value.pointer (some ⟨cb, 0, none⟩)].toArray 122 (0, 0)) * (pts fb (.cells [Value.slice none 0 0].toArray 22 (0, 0)) * (pts bb (.cells [belowF c5 fb bb].toArray 146 (0, 0)) * (Y1 * Y2)))) := fun h => h.perm (by unfold bxsI; ac_rfl)
    refine ld_in (b := c5) (v := .pointer (some ⟨cb, 0, none⟩)) (hbx h) rfl ?_
    have h : sat E w (chg (Cv cb tb A N s k0 le) (c + (q.2 - 1) + 1) (sv s) * (bxsI cb c5 fb bb * (R * Yst acc))) := by
      rw [show c + (q.2 - 1) + 1 = c + q.2 by omega]; exact h
    refine read_spec (C := Cv cb tb A N s k0 le) hrd h fun lv xs w hxs ok h => ?_
    obtain ⟨hfew, hxl⟩ := ok_few ok hxs
    obtain ⟨a, c1, rfl, hc1, _, _⟩ := osl_shape h
    refine alloc_sl h fun n0 w h => ?_
    have h : sat E w (pts n0 (.cells [Value.bool false, .slice none 0 0].toArray 63 (0, 0)) * _) := h
    refine store_all (b := n0) h (vs := [Value.bool n.leaf, .slice a xs.length c1]) rfl rfl (by simp [Value.oneCell']) fun w h => ?_
    have hnn2 : n = ⟨n.leaf, esv xs⟩ := by rw [hxs]
    let Q : HP := bxN n0 n.leaf (.slice a xs.length c1) * (osl 67 3 (.slice a xs.length c1) xs.length (elv xs) * (pers (evP xs) * R))
    have hQ : Q = bxN n0 n.leaf (.slice a xs.length c1) * (osl 67 3 (.slice a xs.length c1) xs.length (elv xs) * (pers (evP xs) * R)) := rfl
    clear_value Q
    have h : sat E w (chg (Cv cb tb A N s k0 le) (c + (q.2 - 1)) (sv s) * (bxsI cb c5 fb bb * (Q * Yst acc))) := by
      rw [hQ]; exact h.perm (by unfold bxN; ac_rfl)
    have hqn : ∀ {w : World} {Y : HP}, sat E w (Y * Q) → sat E w (bxN n0 n.leaf (.slice a xs.length c1) * (osl 67 3 (.slice a xs.length c1) xs.length (elv xs) * (pers (evP xs) * (Y * R)))) := fun h => by rw [hQ] at h; exact h.perm (by ac_rfl)
    have hqr : Rds Q (.slice a xs.length c1) xs.length (elv xs) := by rw [hQ]; exact Rds.osl.left.right
    have hq3 : ∀ {w : World} {Y1 Y2 Y3 : HP}, sat E w (Y1 * (Y2 * (Q * Y3))) → sat E w ((Y1 * (Y2 * Y3)) * Q) := fun h => h.perm (by ac_rfl)
    refine ld_agg (b := n0) (xs := [Value.bool n.leaf, .slice a xs.length c1]) (hqn (hq3 h)) rfl ?_
    refine ld_in (b := fb) (v := .slice none 0 0) (hbx h) rfl ?_
    refine find_spec (m := []) h (hqr.left.right.right) (fun x hx => by rw [hQ]; exact ((((evP_R x hx).left.right).right).left.right).right) (fun E w hs => ⟨none, 0, rfl, Nat.le_refl _, .inl rfl⟩) (by rw [hxs]; exact ok.s) (by omega) fun w h => ?_
    rw [← hnn2]
    simp only [↓opsA, opsB, if_true, if_false, ↓reduceIte]
    rw [hf0]
    refine ld_in (b := n0) (xs := [Value.bool n.leaf, .slice a xs.length c1]) (v := .slice a xs.length c1) (hqn (hq3 h)) rfl ?_
    rw [o_slice_l (by omega) (by omega), show (((0 : Nat) : Int)).toNat = 0 from rfl, cutA_no, Nat.sub_zero, Nat.sub_zero]
    try simp only [↓opsA, opsB, if_true, if_false, ↓reduceIte]
    have hld : ∀ {w : World} {Y1 Y2 Y3 : HP} {i : Nat} (hi : i < xs.length), sat E w (Y1 * (Y2 * (Q * Y3))) → ∃ b o, a = some ⟨b, o, none⟩ ∧ ∀ {K : Value → World → Prop}, K (.agg (ecells xs[i]).toArray) w → ldv prog (Instr.loadAt 67 (.pointer (some ⟨b, o + i * 3, none⟩))) w K := fun {w Y1 Y2 Y3 i} hi h => by
      obtain ⟨b, o, h1, h2⟩ := ld_ev h (hqr.left.right.right) hi
      exact ⟨b, o, h1, fun {K} hk => h2 hk⟩
    cases hlf : n.leaf
    · rw [hlf] at hq hqn hQ
      simp only [Bool.false_eq_true, if_false] at hq
      obtain ⟨q1, hq1, hq2⟩ := Option.bind_eq_some_iff.1 hq
      cases hq2
      simp only [Nat.add_sub_cancel] at h hql
      rw [← hxs] at hq1
      have k : ∀ w', sat E w' (chg (Cv cb tb A N s k0 le) c (sv s) * (bxsI cb c5 fb bb * (R * Yst (acc ++ q1.1)))) → K (.bool true) w' := k
      refine lp_nat (fun r σ w => ∃ (i : Nat) (es : List En) (q' : List En × Nat), σ = [.int .i64 i] ∧ r = xs.length - i ∧ i ≤ xs.length ∧ pairsKids (pairsS N s f) ((esv xs).drop i) = some q' ∧ es ++ q'.1 = q1.1 ∧
        sat E w (chg (Cv cb tb A N s k0 le) (c + q'.2) (sv s) * (bxsI cb c5 fb bb * (Q * Yst (acc ++ es))))) xs.length ⟨0, [], q1, rfl, rfl, by omega, hq1, rfl, by rw [List.append_nil]; exact h⟩ ?_
      clear h
      rintro r σ w again ⟨i, es, q', rfl, rfl, hi, hkd, hes, h⟩ hag
      rw [pop_cons, fin_nil, o_lss]
      refine cd_dec (fun hlt => ?_) (fun hge => ?_)
      · have hlt : i < xs.length := by omega
        have hd : (esv xs).drop i = xs[i].e :: (esv xs).drop (i + 1) := by
          rw [List.drop_eq_getElem_cons (by rw [esv_len]; exact hlt), esv_at xs hlt]
        rw [hd, pairsKids] at hkd
        obtain ⟨qa, hqa, hkd⟩ := Option.bind_eq_some_iff.1 hkd
        obtain ⟨qb, hqb, hkd⟩ := Option.bind_eq_some_iff.1 hkd
        cases hkd
        simp only at hes h
        obtain ⟨b, o, hab, hl1⟩ := hld hlt h
        rw [hab, o_index (by omega) (by omega)]
        simp only [Int.toNat_natCast]
        refine hl1 ?_
        refine alloc_sl h fun e0 w h => ?_
        have h : sat E w (pts e0 (.cells [Value.slice none 0 0, .slice none 0 0, .int .i64 0].toArray 67 (0, 0)) * _) := h
        refine store_all (b := e0) h rfl rfl (ecells_one xs[i]) fun w h => ?_
        have hq4 : ∀ {w : World} {Y0 Y1 Y2 Y3 : HP}, sat E w (Y0 * (Y1 * (Y2 * (Q * Y3)))) → sat E w ((Y0 * (Y1 * (Y2 * Y3))) * Q) := fun h => h.perm (by ac_rfl)
        simp only [↓opsA, opsB, if_true, if_false, ↓reduceIte]
        refine ld_in (b := n0) (xs := [Value.bool false, .slice a xs.length c1]) (v := .bool false) (hqn (hq4 h)) rfl ?_
        simp only [↓opsA, opsB, if_true, if_false, ↓reduceIte]
        refine ld_in (b := n0) (xs := [Value.bool false, .slice a xs.length c1]) (v := .bool false) (hqn (hq4 h)) rfl ?_
        simp only [↓opsA, opsB, if_true, if_false, ↓reduceIte]
        refine ld_in (b := bb) (v := belowF c5 fb bb) (hbx h.drop) rfl ?_
        refine ld_in (b := e0) (xs := ecells xs[i]) (v := .int .i64 xs[i].e.pg) h rfl ?_
        have h := h.drop
        refine oCall_body Tryz.func68 (by kernel_rfl) (by kernel_rfl) ?_
        have hlen : es.length + (qa.1.length + qb.1.length) = q1.1.length := by rw [← hes]; simp
        have h : sat E w (chg (Cv cb tb A N s k0 le) (c + qb.2 + qa.2) (sv s) * (bxsI cb c5 fb bb * (Q * Yst (acc ++ es)))) := by
          rw [show c + qb.2 + qa.2 = c + (qa.2 + qb.2) by omega]; exact h
        refine ih (c := c + qb.2) (acc := acc ++ es) hqa (by simp only [List.length_append]; omega) h fun w h => ?_
        simp only [↓opsA, opsB, if_true, if_false, ↓reduceIte]
        rw [i64_of (n := (i : Int) + 1) (by omega) (by omega)]
        refine hag (xs.length - (i + 1)) _ _ (by omega) ⟨i + 1, es ++ qa.1, qb, rfl, rfl, by omega, hqb, by rw [← hes, List.append_assoc], ?_⟩
        rw [← List.append_assoc]
        exact h
      · have : i = xs.length := by omega
        rw [List.drop_eq_nil_of_le (by rw [esv_len]; omega)] at hkd
        cases hkd
        simp only [List.append_nil] at hes
        rw [hes] at h
        refine k w ?_
        rw [hQ] at h
        exact (h.perm (show _ = bxN n0 false (.slice a xs.length c1) * (osl 67 3 (.slice a xs.length c1) xs.length (elv xs) * (pers (evP xs) * (chg (Cv cb tb A N s k0 le) c (sv s) * (bxsI cb c5 fb bb * (R * Yst (acc ++ q1.1)))))) by simp only [Nat.add_zero]; ac_rfl)).drop.drop.drop
    · rw [hlf] at hq hqn hQ
      simp only [if_true] at hq
      cases hq
      rw [← hxs] at hql k
      simp only [Nat.sub_self, Nat.add_zero] at h hql
      have k : ∀ w', sat E w' (chg (Cv cb tb A N s k0 le) c (sv s) * (bxsI cb c5 fb bb * (R * Yst (acc ++ esv xs)))) → K (.bool true) w' := k
      have hel := esv_len xs
      refine lp_nat (fun r σ w => ∃ (i : Nat), σ = [.int .i64 i] ∧ r = xs.length - i ∧ i ≤ xs.length ∧
        sat E w (chg (Cv cb tb A N s k0 le) c (sv s) * (bxsI cb c5 fb bb * (Q * Yst (acc ++ (esv xs).take i))))) xs.length ⟨0, rfl, rfl, by omega, by rw [List.take_zero, List.append_nil]; exact h⟩ ?_
      clear h
      rintro r σ w again ⟨i, rfl, rfl, hi, h⟩ hag
      rw [pop_cons, fin_nil, o_lss]
      refine cd_dec (fun hlt => ?_) (fun hge => ?_)
      · have hlt : i < xs.length := by omega
        obtain ⟨b, o, hab, hl1⟩ := hld hlt h
        rw [hab, o_index (by omega) (by omega)]
        simp only [Int.toNat_natCast]
        refine hl1 ?_
        refine alloc_sl h fun e0 w h => ?_
        have h : sat E w (pts e0 (.cells [Value.slice none 0 0, .slice none 0 0, .int .i64 0].toArray 67 (0, 0)) * _) := h
        refine store_all (b := e0) h rfl rfl (ecells_one xs[i]) fun w h => ?_
        have hq4 : ∀ {w : World} {Y0 Y1 Y2 Y3 : HP}, sat E w (Y0 * (Y1 * (Y2 * (Q * Y3)))) → sat E w ((Y0 * (Y1 * (Y2 * Y3))) * Q) := fun h => h.perm (by ac_rfl)
        simp only [↓opsA, opsB, if_true, if_false, ↓reduceIte]
        refine ld_in (b := n0) (xs := [Value.bool true, .slice a xs.length c1]) (v := .bool true) (hqn (hq4 h)) rfl ?_
        simp only [↓opsA, opsB, if_true, if_false, ↓reduceIte]
        refine ld_in (b := e0) (xs := ecells xs[i]) (v := xs[i].kv) h rfl ?_
        refine ld_in (b := e0) (xs := ecells xs[i]) (v := xs[i].vv) h rfl ?_
        have h := h.drop
        rw [hQ] at h
        have h := h.perm (show _ = pers (evP xs) * ((chg (Cv cb tb A N s k0 le) c (sv s) * (bxsI cb c5 fb bb * (bxN n0 true (.slice a xs.length c1) * (osl 67 3 (.slice a xs.length c1) xs.length (elv xs) * R)))) * Yst (acc ++ (esv xs).take i)) by ac_rfl)
        have h := h.pers_new (ψ := evP [xs[i]]) fun I hI x hx => by simp at hx; subst hx; exact hI _ (List.getElem_mem _)
        have h := h.perm (show _ = pers (evP [xs[i]]) * ((chg (Cv cb tb A N s k0 le) c (sv s) * (bxsI cb c5 fb bb * Q)) * Yst (acc ++ (esv xs).take i)) by rw [hQ]; ac_rfl)
        have hm := hfew.2 xs[i] (List.getElem_mem _)
        refine hy (by rw [List.length_append, List.length_take]; omega) hm.1 hm.2 h fun w h => ?_
        have hq5 := h.perm (show _ = (chg (Cv cb tb A N s k0 le) c (sv s) * (bxsI cb c5 fb bb * Yst (acc ++ (esv xs).take i ++ [xs[i].e]))) * Q by ac_rfl)
        simp only [↓opsA, opsB, if_true, if_false, ↓reduceIte]
        refine ld_in (b := n0) (xs := [Value.bool true, .slice a xs.length c1]) (v := .bool true) (hqn hq5) rfl ?_
        simp only [↓opsA, opsB, if_true, if_false, ↓reduceIte]
        rw [i64_of (n := (i : Int) + 1) (by omega) (by omega)]
        refine hag (xs.length - (i + 1)) _ _ (by omega) ⟨i + 1, rfl, rfl, by omega, ?_⟩
        have e1 : acc ++ (esv xs).take (i + 1) = acc ++ (esv xs).take i ++ [xs[i].e] := by
          rw [List.take_succ_eq_append_getElem (by omega), esv_at xs hlt, List.append_assoc]
        rw [e1]
        exact h.perm (by ac_rfl)
      · have : i = xs.length := by omega
        have e1 : (esv xs).take i = esv xs := List.take_of_length_le (by omega)
        rw [e1] at h
        refine k w ?_
        rw [hQ] at h
        exact (h.perm (show _ = bxN n0 true (.slice a xs.length c1) * (osl 67 3 (.slice a xs.length c1) xs.length (elv xs) * (pers (evP xs) * (chg (Cv cb tb A N s k0 le) c (sv s) * (bxsI cb c5 fb bb * (R * Yst (acc ++ esv xs)))))) by ac_rfl)).drop.drop.drop
end Go.Proofs.YtfaeklinhchidaaGreat

/-
  Scan.
-/
set_option linter.all false
set_option maxRecDepth 100000
namespace Go.Proofs.YtfaeklinhchidaaGreat
open Go Hold
variable {E : World0} {w : World} {H R X : HP} {K : Value → World → Prop}
def qcells (x : Ev) : List Value := [x.kv, x.vv]
def pcv (xs : List Ev) : List Value := xs.flatMap qcells
theorem pcv_app (xs ys : List Ev) : pcv (xs ++ ys) = pcv xs ++ pcv ys := by unfold pcv; simp
theorem pcv_len (xs : List Ev) : (pcv xs).length = xs.length * 2 := fm_length (k := 2) (fun _ => rfl) xs
def outI (ob : Nat) (acc : List En) : HP := ex fun q : Value × List Ev => pur (esv q.2 = acc) * (pts ob (.cells [q.1].toArray 43 (0, 0)) * (osl 47 2 q.1 q.2.length (pcv q.2) * pers (evP q.2)))
theorem sat_outI {ob : Nat} {acc : List En} : sat E w (outI ob acc * R) ↔ ∃ a c xs, esv xs = acc ∧ sat E w (pts ob (.cells [Value.slice a xs.length c].toArray 43 (0, 0)) * (osl 47 2 (.slice a xs.length c) xs.length (pcv xs) * (pers (evP xs) * R))) := by
  unfold outI
  rw [sat_ex_star]
  constructor
  · rintro ⟨⟨v, xs⟩, h⟩
    simp only [star_assoc] at h
    rw [sat_pur_star] at h
    obtain ⟨a, c, rfl, _, _, _⟩ := osl_shape (h.2.perm (star_left_comm _ _ _))
    exact ⟨a, c, xs, h.1, h.2⟩
  · rintro ⟨a, c, xs, h1, h2⟩
    refine ⟨(.slice a xs.length c, xs), ?_⟩
    simp only [star_assoc]
    rw [sat_pur_star]
    exact ⟨h1, h2⟩
def ScanOk (N : Nat) (s : St) (es : List En) (cnt : Nat) : Prop := (s.root = 0 ∧ es = [] ∧ cnt = 0) ∨ (s.root ≠ 0 ∧ pairsS N s 3 s.root = some (es, cnt))
theorem Scan_spec {tb : Nat} {A : Ad} {N : Nat} (le : N ≤ 1000) {s : St} {k0 c cnt : Nat} {es : List En} (hs : ScanOk N s es cnt) (hl : es.length ≤ 100) (hok : ∀ p, p < N → (s.cc p).Ok)
    (h : sat E w (trT tb A N s 0 k0 (c + cnt) * R)) (k : ∀ a c' xs w', esv xs = es → sat E w' (osl 47 2 (.slice a xs.length c') xs.length (pcv xs) * (pers (evP xs) * (trT tb A N s 0 k0 c * R))) → K (.tuple #[.slice a xs.length c', .int .i64 0]) w') :
    Calls prog 13 #[.pointer (some ⟨tb, 0, none⟩), .slice none 0 0, .slice none 0 0, .int .i64 100] w (Ret K) := by
  refine c13 ?_
  unfold B13
  refine box_sl h fun to w h => ?_
  have h : sat E w (pts to (.cells [Value.slice none 0 0].toArray 22 (0, 0)) * (trT tb A N s 0 k0 (c + cnt) * R)) := h
  refine box_sl h fun mo w h => ?_
  have h : sat E w (pts mo (.cells [Value.int .i64 100].toArray 3 (0, 0)) * (pts to (.cells [Value.slice none 0 0].toArray 22 (0, 0)) * (trT tb A N s 0 k0 (c + cnt) * R))) := h
  simp only [↓opsA, opsB, if_true, if_false, ↓reduceIte]
  refine ld_in (b := mo) (v := .int .i64 100) h rfl ?_
  simp only [↓opsA, opsB, if_true, if_false, ↓reduceIte, show decide ((100 : Int) < 0) = false from rfl]
  refine alloc_sl h fun ob w h => ?_
  have h : sat E w (pts ob (.cells [Value.slice none 0 0].toArray 43 (0, 0)) * (pts mo (.cells [Value.int .i64 100].toArray 3 (0, 0)) * (pts to (.cells [Value.slice none 0 0].toArray 22 (0, 0)) * (trT tb A N s 0 k0 (c + cnt) * R)))) := h
  refine c36 ?_
  unfold B36
  refine box_sl h fun tB w h => ?_
  have h : sat E w (pts tB (.cells [Value.pointer (some ⟨tb, 0, none⟩)].toArray 23 (0, 0)) * _) := h
  refine box_sl h fun fb w h => ?_
  have h : sat E w (pts fb (.cells [Value.slice none 0 0].toArray 22 (0, 0)) * _) := h
  refine ld_in (b := tB) (v := .pointer (some ⟨tb, 0, none⟩)) h rfl ?_
  refine pvv_of (v := .agg (vcells tb).toArray) (fun w => by kernel_rfl) ?_
  refine box_sl h fun cb w h => ?_
  have h : sat E w (pts cb (.cells (vcells tb).toArray 124 (0, 0)) * _) := h
  refine alloc_sl h fun c5 w h => ?_
  have h : sat E w (pts c5 (.cells [Value.pointer none].toArray 122 (0, 0)) * _) := h
  refine store_at (b := c5) h rfl (by simp) fun w h => ?_
  refine alloc_sl h fun bb w h => ?_
  have h : sat E w (pts bb (.cells [Value.nilFunc].toArray 146 (0, 0)) * _) := h
  refine pvv_of (v := belowF c5 fb bb) (fun w => by kernel_rfl) ?_
  refine store_at (b := bb) h rfl (by simp) fun w h => ?_
  refine pvv_of (v := .func (.func 69) #[] #[.pointer (some ⟨tB, 0, none⟩), .pointer (some ⟨bb, 0, none⟩)]) (fun w => by kernel_rfl) ?_
  refine rng_body h Tryz.func69 (by kernel_rfl) (by kernel_rfl) fun rec D D1 w h hround => ?_
  let Fx : HP := pts D (.deferred (some [])) * (pts mo (.cells [Value.int .i64 100].toArray 3 (0, 0)) * (pts to (.cells [Value.slice none 0 0].toArray 22 (0, 0)) * pts tB (.cells [Value.pointer (some ⟨tb, 0, none⟩)].toArray 23 (0, 0))))
  have hFx : Fx = pts D (.deferred (some [])) * (pts mo (.cells [Value.int .i64 100].toArray 3 (0, 0)) * (pts to (.cells [Value.slice none 0 0].toArray 22 (0, 0)) * pts tB (.cells [Value.pointer (some ⟨tb, 0, none⟩)].toArray 23 (0, 0)))) := rfl
  clear_value Fx
  let Yst : List En → HP := fun acc => pts D1 (rec .ready none) * (outI ob acc * Fx)
  have hYst : ∀ acc, Yst acc = pts D1 (rec .ready none) * (outI ob acc * Fx) := fun _ => rfl
  clear_value Yst
  have h : sat E w (pts cb (.cells (vcells tb).toArray 124 (0, 0)) * (trT tb A N s 0 k0 (c + cnt) * (bxsI cb c5 fb bb * (R * Yst [])))) := by
    have h := osl_nil h 47 2
    have h2 : sat E w (outI ob [] * (pts cb (.cells (vcells tb).toArray 124 (0, 0)) * (trT tb A N s 0 k0 (c + cnt) * (bxsI cb c5 fb bb * (R * (pts D1 (rec .ready none) * Fx)))))) := by
      refine sat_outI.2 ⟨none, 0, [], rfl, ?_⟩
      refine (h.perm (show _ = pts ob (.cells [Value.slice none 0 0].toArray 43 (0, 0)) * (osl 47 2 (.slice none 0 0) 0 [] * (pts cb (.cells (vcells tb).toArray 124 (0, 0)) * (trT tb A N s 0 k0 (c + cnt) * (bxsI cb c5 fb bb * (R * (pts D1 (rec .ready none) * Fx)))))) by unfold bxsI; rw [hFx]; ac_rfl)).mono fun I h' hp' => ?_
      rw [show (pts ob (.cells [Value.slice none ([] : List Ev).length 0].toArray 43 (0, 0)) * (osl 47 2 (.slice none ([] : List Ev).length 0) ([] : List Ev).length (pcv []) * (pers (evP []) * (pts cb (.cells (vcells tb).toArray 124 (0, 0)) * (trT tb A N s 0 k0 (c + cnt) * (bxsI cb c5 fb bb * (R * (pts D1 (rec .ready none) * Fx)))))))) = pers (evP []) * (pts ob (.cells [Value.slice none 0 0].toArray 43 (0, 0)) * (osl 47 2 (.slice none 0 0) 0 [] * (pts cb (.cells (vcells tb).toArray 124 (0, 0)) * (trT tb A N s 0 k0 (c + cnt) * (bxsI cb c5 fb bb * (R * (pts D1 (rec .ready none) * Fx))))))) by
        show (pts ob (.cells [Value.slice none 0 0].toArray 43 (0, 0)) * (osl 47 2 (.slice none 0 0) 0 [] * _)) = _; ac_rfl]
      rw [pers_star_p]
      exact ⟨fun x hx => by simp at hx, hp'⟩
    rw [hYst]
    exact h2.perm (by ac_rfl)
  have hy : ∀ {w : World} {K : Value → World → Prop} {acc : List En} {x : Ev} {Z : HP}, acc.length < 100 → x.e.k.length ≤ 1000 → x.e.v.length ≤ 1000 → sat E w (pers (evP [x]) * (Z * Yst acc)) → (∀ w', sat E w' (Z * Yst (acc ++ [x.e])) → K (.bool true) w') → ef prog (oCall (.func (.yield D1) #[] #[]) #[x.kv, x.vv]) w K := by
    intro w K acc x Z hal hxk hxv h kk
    rw [hYst] at h
    have h := h.perm (show _ = outI ob acc * (pts D1 (rec .ready none) * (Fx * (pers (evP [x]) * Z))) by ac_rfl)
    obtain ⟨oa, oc, xs, hxs, h⟩ := sat_outI.1 h
    have hxl : xs.length = acc.length := by rw [← hxs, esv_len]
    rw [hFx] at h
    refine hround [x.kv, x.vv] w K rfl h.has ?_
    simp only [↓opsA, opsB, if_true, if_false, ↓reduceIte]
    refine ⟨h.has, ?_⟩
    have h := (h.own D1).set (rec .busy none)
    generalize w.putObj D1 (rec .busy none) = w at h ⊢
    refine ld_in (b := ob) (v := .slice oa xs.length oc) h rfl ?_
    simp only [↓opsA, opsB, if_true, if_false, ↓reduceIte]
    refine ld_in (b := mo) (v := .int .i64 100) h rfl ?_
    have h100 : ¬ (xs.length : Int) = 100 := by omega
    simp only [h100, ↓opsA, opsB, if_true, if_false, ↓reduceIte]
    refine ld_in (b := to) (v := .slice none 0 0) h rfl ?_
    simp only [↓opsA, opsB, if_true, if_false, ↓reduceIte, show decide ((0 : Int) < ((0 : Nat) : Int)) = false from rfl]
    refine dr_sl h fun w h _ => ?_
    refine ld_in (b := ob) (v := .slice oa xs.length oc) h rfl ?_
    have hxr : ∀ {Y1 Y2 Y3 Y4 Y5 Y6 Y7 Y8 Y9 : HP}, EvR (Y1 * (Y2 * (Y3 * (Y4 * (Y5 * (Y6 * (Y7 * (Y8 * (pers (evP [x]) * Y9))))))))) x := (evP_R x (by simp)).left.right.right.right.right.right.right.right.right
    have h := h.perm (show _ = pers (evP [x]) * (pts ob (.cells [Value.slice oa xs.length oc].toArray 43 (0, 0)) * (pts D1 (rec .busy none) * (osl 47 2 (.slice oa xs.length oc) xs.length (pcv xs) * (pers (evP xs) * (pts D (.deferred (some [])) * (pts mo (.cells [Value.int .i64 100].toArray 3 (0, 0)) * (pts to (.cells [Value.slice none 0 0].toArray 22 (0, 0)) * (pts tB (.cells [Value.pointer (some ⟨tb, 0, none⟩)].toArray 23 (0, 0)) * Z)))))))) by ac_rfl)
    refine CloneB_spec h ((evP_R (xs := [x]) x (by simp)).left.k) (by omega) fun k' w h => ?_
    obtain ⟨ka, kc, rfl, _, _, _⟩ := osl_shape h
    have h := osl_freeze h
    refine st_in (b := ob) (xs := [Value.slice oa xs.length oc]) h rfl ?_
    refine CloneB_spec h (((evP_R (xs := [x]) x (by simp)).left.right).v) (by omega) fun v' w h => ?_
    obtain ⟨va, vc, rfl, _, _, _⟩ := osl_shape h
    have h := osl_freeze h
    refine st_in (b := ob) (xs := [Value.slice oa xs.length oc]) h rfl ?_
    let y : Ev := ⟨ka, kc, va, vc, x.e⟩
    refine pvv_of (v := .agg (qcells y).toArray) (fun w => by kernel_rfl) ?_
    refine buildSlice_sl (e := 47) (cs := (qcells y).toArray) h (fun w => by kernel_rfl) fun b3 w h => ?_
    refine st_in (b := ob) (xs := [Value.slice oa xs.length oc]) h rfl ?_
    have hwn : win (hp w) (some ⟨b3, 0, none⟩) (qcells y) := .inr ⟨b3, 0, _, 47, (0, 0), rfl, h.pts_get, fun j u hj => by simpa using hj⟩
    have h := h.owns (.slice oa xs.length oc)
    refine append_sl h (qcells y) rfl hwn (by simp [qcells, Ev.kv, Ev.vv, Value.oneCell']) (by omega) (by omega) fun o2 w h => ?_
    obtain ⟨oa2, oc2, rfl, _, _, _⟩ := osl_shape h
    have h := h.own ob
    refine store_at (b := ob) h rfl (by simp) fun w h => ?_
    refine ⟨h.has, kk _ ?_⟩
    have h := (h.own D1).set (rec .ready none)
    rw [hYst]
    have h := h.perm (show _ = pts b3 (.cells (qcells y).toArray 47 (0, 0)) * (pers (evP [x]) * ((pers (immS (.slice ka x.e.k.length kc) x.e.k.length (x.e.k.map bv)) * (pers (immS (.slice va x.e.v.length vc) x.e.v.length (x.e.v.map bv)) * pers (evP xs))) * (pts ob (.cells [Value.slice oa2 (xs.length + 1) oc2].toArray 43 (0, 0)) * (osl 47 2 (.slice oa2 (xs.length + 1) oc2) (xs.length + 1) (pcv xs ++ qcells y) * (pts D1 (rec .ready none) * (pts D (.deferred (some [])) * (pts mo (.cells [Value.int .i64 100].toArray 3 (0, 0)) * (pts to (.cells [Value.slice none 0 0].toArray 22 (0, 0)) * (pts tB (.cells [Value.pointer (some ⟨tb, 0, none⟩)].toArray 23 (0, 0)) * Z))))))))) by ac_rfl)
    have h := h.drop.drop
    rw [pers_and, pers_and] at h
    have h := h.pers_mono (ψ := evP (xs ++ [y])) fun I hI z hz => by
      rcases List.mem_append.1 hz with hz | hz
      · exact hI.2.2 z hz
      · simp at hz; subst hz; exact ⟨hI.1, hI.2.1⟩
    have h2 : sat E (w.putObj D1 (rec .ready none)) (outI ob (acc ++ [x.e]) * (Z * (pts D1 (rec .ready none) * Fx))) := by
      refine sat_outI.2 ⟨oa2, oc2, xs ++ [y], by unfold esv; rw [List.map_append]; show esv xs ++ [x.e] = _; rw [hxs], ?_⟩
      rw [pcv_app, List.length_append, show pcv [y] = qcells y by simp [pcv], hFx]
      exact h.perm (show _ = pts ob (.cells [Value.slice oa2 (xs.length + 1) oc2].toArray 43 (0, 0)) * (osl 47 2 (.slice oa2 (xs.length + 1) oc2) (xs.length + 1) (pcv xs ++ qcells y) * (pers (evP (xs ++ [y])) * (Z * (pts D1 (rec .ready none) * (pts D (.deferred (some [])) * (pts mo (.cells [Value.int .i64 100].toArray 3 (0, 0)) * (pts to (.cells [Value.slice none 0 0].toArray 22 (0, 0)) * pts tB (.cells [Value.pointer (some ⟨tb, 0, none⟩)].toArray 23 (0, 0))))))))) by ac_rfl)
    exact h2.perm (by ac_rfl)
  have hend : ∀ {w : World}, sat E w (trT tb A N s 0 k0 c * (bxsI cb c5 fb bb * (R * Yst es))) → ∃ st p, w.heap[D1]? = some (rec st p) ∧ st ≠ .busy ∧ jump (
      ldv prog (Instr.loadAt 43 (.pointer (some ⟨ob, 0, none⟩))) (w.putObj D1 (rec .exhausted p)) fun t_40 w =>
      und [D] w fun w => K (.tuple #[t_40, .int .i64 0]) w) (
      und [D] (w.putObj D1 (rec .exhausted p)) fun w => K (.tuple #[.slice none 0 0, .int .i64 0]) w) [(1, ldv prog (Instr.loadAt 43 (.pointer (some ⟨ob, 0, none⟩))) (w.putObj D1 (rec .exhausted p)) fun t_41 w =>
      und [D] w fun w => K (.tuple #[t_41, .int .i64 0]) w)] p := fun {w} h => by
    rw [hYst] at h
    have h := h.perm (show _ = outI ob es * (pts D1 (rec .ready none) * (Fx * (trT tb A N s 0 k0 c * (bxsI cb c5 fb bb * R)))) by ac_rfl)
    obtain ⟨oa, oc, xs, hxs, h⟩ := sat_outI.1 h
    rw [hFx] at h
    refine ⟨.ready, none, h.has, by simp, ?_⟩
    have h := (h.own D1).set (rec .exhausted none)
    simp only [jump]
    refine ld_in (b := ob) (v := .slice oa xs.length oc) h rfl ?_
    refine ⟨h.has, ?_⟩
    have h := (h.own D).set (.deferred none)
    refine k oa oc xs _ hxs ?_
    have h := h.perm (show _ = pts D (.deferred none) * (pts D1 (rec .exhausted none) * (pts ob (.cells [Value.slice oa xs.length oc].toArray 43 (0, 0)) * (pts mo (.cells [Value.int .i64 100].toArray 3 (0, 0)) * (pts to (.cells [Value.slice none 0 0].toArray 22 (0, 0)) * (pts tB (.cells [Value.pointer (some ⟨tb, 0, none⟩)].toArray 23 (0, 0)) * (bxsI cb c5 fb bb * (osl 47 2 (.slice oa xs.length oc) xs.length (pcv xs) * (pers (evP xs) * (trT tb A N s 0 k0 c * R))))))))) by ac_rfl)
    exact h.drop.drop.drop.drop.drop.drop.drop
  refine c69 ?_
  unfold B69
  have htB : ∀ {w : World} {Y : HP} {acc : List En}, sat E w (Y * (bxsI cb c5 fb bb * (R * Yst acc))) → sat E w (pts tB (.cells [Value.pointer (some ⟨tb, 0, none⟩)].toArray 23 (0, 0)) * (pts bb (.cells [belowF c5 fb bb].toArray 146 (0, 0)) * (Y * (pts c5 (.cells [Value.pointer (some ⟨cb, 0, none⟩)].toArray 122 (0, 0)) * (pts fb (.cells [Value.slice none 0 0].toArray 22 (0, 0)) * (R * (pts D1 (rec .ready none) * (outI ob acc * (pts D (.deferred (some [])) * (pts mo (.cells [Value.int .i64 100].toArray 3 (0, 0)) * pts to (.cells [Value.slice none 0 0].toArray 22 (0, 0)))))))))))) := fun h => by
    rw [hYst, hFx] at h
    exact h.perm (by unfold bxsI; ac_rfl)
  have htt : ∀ {w : World} {Y1 Y2 : HP} {c' : Nat}, sat E w (Y1 * (trT tb A N s 0 k0 c' * Y2)) → sat E w (pts tb (.cells [Value.int .i64 s.root, .int .i64 s.free, .int .i64 s.fresh, .pointer (some ⟨A.q, 0, none⟩)].toArray 73 (0, 0)) * (pX A N s.cc 0 k0 c' * (Y1 * Y2))) := fun h => h.perm (by unfold trT; ac_rfl)
  refine ld_in (b := tB) (v := .pointer (some ⟨tb, 0, none⟩)) (htB (h.perm (star_assoc _ _ _).symm)) rfl ?_
  rw [o_nil, o_field, o_field]
  refine ld_in (b := tb) (v := .int .i64 s.root) (htt h) rfl ?_
  rw [o_neInt]
  rcases hs with ⟨h0, hes, hcnt⟩ | ⟨h0, hp⟩
  · have h0' : (s.root : Int) = 0 := by omega
    simp only [h0', decide_true, Bool.not_true, cd_false]
    subst hes; subst hcnt
    exact hend h.drop
  · have h0' : ¬ (s.root : Int) = 0 := by omega
    simp only [h0', decide_false, Bool.not_false, cd_true]
    refine dr_sl h fun w h _ => ?_
    try simp only [↓opsA, opsB, if_true, if_false, ↓reduceIte]
    refine ld_in (b := bb) (v := belowF c5 fb bb) (htB (h.perm (star_assoc _ _ _).symm)) rfl ?_
    refine ld_in (b := tB) (v := .pointer (some ⟨tb, 0, none⟩)) (htB (h.perm (star_assoc _ _ _).symm)) rfl ?_
    try simp only [↓opsA, opsB, if_true, if_false, ↓reduceIte]
    refine ld_in (b := tb) (v := .int .i64 s.root) (htt h) rfl ?_
    have h := to_view le hok h
    refine oCall_body Tryz.func68 (by kernel_rfl) (by kernel_rfl) ?_
    refine pairs1_spec le hy 3 (acc := []) hp (by simpa using hl) h fun w h => ?_
    have h := of_view h
    refine st_in (b := tB) (xs := [Value.pointer (some ⟨tb, 0, none⟩)]) (htB h) rfl ?_
    exact hend h
end Go.Proofs.YtfaeklinhchidaaGreat

/-
  A key is put among sorted keys. No program in sight.
-/
set_option linter.all false
set_option maxRecDepth 100000
namespace Go.Proofs.YtfaeklinhchidaaGreat
open Go Hold
theorem srt_cut {key : Bs} : ∀ {l : List En}, Srt l → Cutat l key (l.countP fun e => lexB e.k key) (l.countP fun e => lexB e.k key)
  | [], _ => ⟨by simp, by simp, fun m hm => by simp at hm, fun m hm => by simp at hm⟩
  | e :: l, h => by
    have h1 : ∀ x ∈ l, lexB e.k x.k = true := (List.pairwise_cons.1 h).1
    have h2 : Srt l := (List.pairwise_cons.1 h).2
    have ih := srt_cut (key := key) h2
    cases he : lexB e.k key
    · have h0 : l.countP (fun e => lexB e.k key) = 0 := List.countP_eq_zero.2 fun x hx hk => by
        have := lexB_trans _ _ _ (h1 x hx) hk
        rw [he] at this; cases this
      have hc : (e :: l).countP (fun e => lexB e.k key) = 0 := by rw [List.countP_cons, h0, he]; rfl
      rw [hc]
      refine ⟨Nat.le_refl _, by simp, fun m hm hlt => by omega, fun m hm _ => ?_⟩
      cases m with
      | zero => exact he
      | succ m =>
        have hm2 : m < l.length := by simpa using hm
        have := List.countP_eq_zero.1 h0 l[m] (List.getElem_mem _)
        simpa using this
    · have hc : (e :: l).countP (fun e => lexB e.k key) = l.countP (fun e => lexB e.k key) + 1 := by rw [List.countP_cons, he]; rfl
      rw [hc]
      refine ⟨Nat.le_refl _, by have := ih.hj; simp; omega, fun m hm hlt => ?_, fun m hm hle => ?_⟩
      · cases m with
        | zero => exact he
        | succ m => exact ih.a m (by simpa using hm) (by omega)
      · cases m with
        | zero => omega
        | succ m => exact ih.b m (by simpa using hm) (by omega)
def insL (key val : Bs) (es : List En) : List En := (putF key val ⟨true, es⟩).l
theorem insL_eq {key val : Bs} {es : List En} : insL key val es = es.take (es.countP fun e => lexB e.k key) ++ [⟨key, val, 0⟩] ++ es.drop ((es.countP fun e => lexB e.k key) + if (es.any fun e => e.k == key) then 1 else 0) ∨ (es.any fun e => e.k == key) = true ∧ es.length ≤ es.countP fun e => lexB e.k key := by
  unfold insL putF findP
  simp only [Bool.not_true, Bool.false_and, Bool.false_eq_true, if_false]
  cases ht : es.any fun e => e.k == key
  · left
    simp only [Bool.false_eq_true, if_false, Nat.add_zero]
  · by_cases hlt : (es.countP fun e => lexB e.k key) < es.length
    · left
      simp only [if_true]
      rw [List.set_eq_take_append_cons_drop, if_pos hlt]
      simp
    · right; exact ⟨rfl, by omega⟩
/-- How the list is cut by a key. -/
theorem ins_cut {key val : Bs} {es : List En} (h : Srt es) : ∃ A M B, es = A ++ M ++ B ∧ insL key val es = A ++ [⟨key, val, 0⟩] ++ B ∧ (∀ e ∈ A, lexB e.k key = true) ∧ (∀ e ∈ B, lexB key e.k = true) ∧ (M = [] ∨ ∃ e, M = [e] ∧ e.k = key) := by
  have cu := srt_cut (key := key) h
  have hth := cu.there h
  rcases insL_eq (key := key) (val := val) (es := es) with he | ⟨ht, hle⟩
  · generalize (es.countP fun e => lexB e.k key) = i at *
    have hA : ∀ e ∈ es.take i, lexB e.k key = true := fun e hm => by
      obtain ⟨j, hj, rfl⟩ := List.getElem_of_mem hm
      rw [List.length_take] at hj
      rw [List.getElem_take]; exact cu.a j (by omega) (by omega)
    cases ht : es.any fun e => e.k == key
    · rw [ht] at he hth
      refine ⟨es.take i, [], es.drop i, by simp, by simpa using he, hA, fun e hm => ?_, .inl rfl⟩
      obtain ⟨j, hj, rfl⟩ := List.getElem_of_mem hm
      rw [List.length_drop] at hj
      rw [List.getElem_drop]
      refine lexB_total (cu.b _ (by omega) (by omega)) fun e => ?_
      have : (es.any fun e => e.k == key) = true := List.any_eq_true.2 ⟨es[i + j], List.getElem_mem _, by simpa using e⟩
      rw [ht] at this; cases this
    · rw [ht] at he hth
      have hlt : i < es.length := by
        refine Classical.byContradiction fun hn => ?_
        rw [dif_neg hn] at hth; cases hth
      rw [dif_pos hlt] at hth
      have hk : es[i].k = key := by simpa using hth.symm
      refine ⟨es.take i, [es[i]], es.drop (i + 1), ?_, by simpa using he, hA, fun e hm => ?_, .inr ⟨es[i], rfl, hk⟩⟩
      · rw [List.append_assoc]
        show es = es.take i ++ (es[i] :: es.drop (i + 1))
        rw [← List.drop_eq_getElem_cons hlt, List.take_append_drop]
      · obtain ⟨j, hj, rfl⟩ := List.getElem_of_mem hm
        rw [List.length_drop] at hj
        rw [List.getElem_drop, ← hk]
        exact srt_lt h (by omega) (by omega)
  · rw [ht] at hth
    rw [dif_neg (by omega)] at hth; cases hth
theorem ins_srt {key val : Bs} {es : List En} (h : Srt es) : Srt (insL key val es) := by
  obtain ⟨A, M, B, he, hi, hA, hB, _⟩ := ins_cut (key := key) (val := val) h
  rw [hi]
  rw [he] at h
  have hab : Srt (A ++ B) := by
    refine h.sublist ?_
    rw [List.append_assoc]
    exact List.Sublist.append (List.Sublist.refl A) (List.sublist_append_right M B)
  unfold Srt at hab ⊢
  rw [List.pairwise_append] at hab
  rw [List.append_assoc, List.pairwise_append]
  refine ⟨hab.1, ?_, ?_⟩
  · show List.Pairwise _ (⟨key, val, 0⟩ :: B)
    exact List.pairwise_cons.2 ⟨hB, hab.2.1⟩
  · intro a ha b hb
    rcases List.mem_cons.1 hb with rfl | hb
    · exact hA a ha
    · exact hab.2.2 a ha b hb
theorem ins_mem {key val : Bs} {es : List En} (h : Srt es) {e : En} (hm : e ∈ insL key val es) : e = ⟨key, val, 0⟩ ∨ e ∈ es := by
  obtain ⟨A, M, B, he, hi, _, _, _⟩ := ins_cut (key := key) (val := val) h
  rw [hi] at hm
  rw [he]
  simp only [List.mem_append, List.mem_singleton] at hm ⊢
  rcases hm with (hm | hm) | hm
  · exact .inr (.inl (.inl hm))
  · exact .inl hm
  · exact .inr (.inr hm)
theorem ins_new {key val : Bs} {es : List En} (h : Srt es) : (⟨key, val, 0⟩ : En) ∈ insL key val es := by
  obtain ⟨A, M, B, he, hi, _, _, _⟩ := ins_cut (key := key) (val := val) h
  rw [hi]; simp
theorem ins_old {key val : Bs} {es : List En} (h : Srt es) {e : En} (hm : e ∈ es) (hk : e.k ≠ key) : e ∈ insL key val es := by
  obtain ⟨A, M, B, he, hi, _, _, hM⟩ := ins_cut (key := key) (val := val) h
  rw [he] at hm
  rw [hi]
  simp only [List.mem_append, List.mem_singleton] at hm ⊢
  rcases hm with (hm | hm) | hm
  · exact .inl (.inl hm)
  · rcases hM with rfl | ⟨e', rfl, hk'⟩
    · simp at hm
    · simp at hm; subst hm; exact absurd hk' hk
  · exact .inr hm
theorem ins_len {key val : Bs} {es : List En} (h : Srt es) : es.length ≤ (insL key val es).length ∧ (insL key val es).length ≤ es.length + 1 ∧ 1 ≤ (insL key val es).length := by
  obtain ⟨A, M, B, he, hi, _, _, hM⟩ := ins_cut (key := key) (val := val) h
  rw [hi, he]
  rcases hM with rfl | ⟨e', rfl, _⟩ <;> simp <;> omega
theorem ins_mid {key val : Bs} {A es B : List En} (h : Srt (A ++ es ++ B)) (hA : ∀ e ∈ A, lexB e.k key = true) (hB : ∀ e ∈ B, lexB key e.k = true) : insL key val (A ++ es ++ B) = A ++ insL key val es ++ B := by
  have h1 : (A ++ es ++ B).countP (fun e => lexB e.k key) = A.length + es.countP (fun e => lexB e.k key) := by
    have e3 : B.countP (fun e => lexB e.k key) = 0 := List.countP_eq_zero.2 fun x hx hk => by have := lexB_asym (hB x hx); rw [hk] at this; cases this
    rw [List.countP_append, List.countP_append, List.countP_eq_length.2 hA, e3]
    rfl
  have h2 : ((A ++ es ++ B).any fun e => e.k == key) = (es.any fun e => e.k == key) := by
    rw [List.any_append, List.any_append]
    have a1 : (A.any fun e => e.k == key) = false := List.any_eq_false.2 fun x hx hk => by
      have := hA x hx
      have hk : x.k = key := by simpa using hk
      rw [hk, lexB_irrefl] at this; cases this
    have a2 : (B.any fun e => e.k == key) = false := List.any_eq_false.2 fun x hx hk => by
      have := hB x hx
      have hk : x.k = key := by simpa using hk
      rw [hk, lexB_irrefl] at this; cases this
    rw [a1, a2]; simp
  have hes : Srt es := (List.pairwise_append.1 (List.pairwise_append.1 h).1).2.1
  have cu := srt_cut (key := key) hes
  have hci := cu.hj
  unfold insL putF findP
  simp only [Bool.not_true, Bool.false_and, Bool.false_eq_true, if_false]
  rw [h1, h2]
  generalize es.countP (fun e => lexB e.k key) = i at *
  cases ht : es.any fun e => e.k == key
  · simp only [Bool.false_eq_true, if_false]
    rw [List.append_assoc A es B, List.take_append, List.drop_append, List.take_of_length_le (by omega), List.drop_eq_nil_of_le (by omega), show A.length + i - A.length = i by omega, List.take_append_of_le_length hci, List.drop_append_of_le_length hci]
    simp
  · simp only [if_true]
    have hth := cu.there hes
    rw [ht] at hth
    have hlt : i < es.length := by
      refine Classical.byContradiction fun hn => ?_
      rw [dif_neg hn] at hth; cases hth
    rw [List.append_assoc A es B, List.set_append_right _ _ (by omega), show A.length + i - A.length = i by omega, List.set_append_left _ _ hlt, List.append_assoc]
/-- Where a key belongs among pages below. -/
theorem find_in {l : List En} {key : Bs} (h : Srt l) (h0 : ∀ e, l.head? = some e → lexB key e.k = false) (hne : l ≠ []) :
    (findP ⟨false, l⟩ key).1 < l.length ∧ (∀ (j : Nat) (hj : j < l.length), j ≤ (findP ⟨false, l⟩ key).1 → lexB key l[j].k = false) ∧ (∀ (j : Nat) (hj : j < l.length), (findP ⟨false, l⟩ key).1 < j → lexB key l[j].k = true) := by
  have cu := srt_cut (key := key) h
  have hth := cu.there h
  have hpos : 0 < l.length := List.length_pos_iff.2 hne
  unfold findP
  simp only [Bool.not_false, Bool.true_and]
  generalize (l.countP fun e => lexB e.k key) = i at *
  cases ht : l.any fun e => e.k == key
  · rw [ht] at hth
    simp only [Bool.not_false, if_true]
    have hle := cu.hj
    have hnek : ∀ (j : Nat) (hj : j < l.length), l[j].k ≠ key := fun j hj e => by
      have : (l.any fun e => e.k == key) = true := List.any_eq_true.2 ⟨l[j], List.getElem_mem _, by simpa using e⟩
      rw [ht] at this; cases this
    have hi0 : 0 < i := by
      refine Nat.pos_of_ne_zero fun e => ?_
      subst e
      have h1 := cu.b 0 hpos (Nat.le_refl _)
      have h2 := h0 l[0] (by rw [List.head?_eq_getElem?, List.getElem?_eq_getElem hpos])
      have := lexB_total h2 (fun e => hnek 0 hpos e.symm)
      rw [h1] at this; cases this
    refine ⟨by omega, fun j hj hle => lexB_asym (cu.a j hj (by omega)), fun j hj hlt => lexB_total (cu.b j hj (by omega)) (hnek j hj)⟩
  · rw [ht] at hth
    simp only [Bool.not_true, Bool.false_eq_true, if_false]
    have hlt : i < l.length := by
      refine Classical.byContradiction fun hn => ?_
      rw [dif_neg hn] at hth; cases hth
    rw [dif_pos hlt] at hth
    have hk : l[i].k = key := by simpa using hth.symm
    refine ⟨hlt, fun j hj hle => ?_, fun j hj hl => ?_⟩
    · by_cases e : j = i
      · subst e; rw [hk]; exact lexB_irrefl _
      · exact lexB_asym (cu.a j hj (by omega))
    · rw [← hk]; exact srt_lt h hl hj
end Go.Proofs.YtfaeklinhchidaaGreat

/-
  Pages that are free; leaves of entries that are alike in length. No program in sight.
-/
set_option linter.all false
set_option maxRecDepth 100000
namespace Go.Proofs.YtfaeklinhchidaaGreat
open Go Hold
/-- The chain of free pages. -/
def Chain (cc : Nat → PgC) : Nat → List Nat → Prop
  | n, [] => n = 0
  | n, p :: l => n = p ∧ ∃ nx, cc p = .free nx ∧ Chain cc nx l
theorem Chain.upd {cc : Nat → PgC} {p : Nat} {x : PgC} : ∀ {n : Nat} {l : List Nat}, p ∉ l → Chain cc n l → Chain (upd cc p x) n l
  | n, [], _, h => h
  | n, q :: l, hp, ⟨h1, nx, h2, h3⟩ => by
    refine ⟨h1, nx, ?_, Chain.upd (fun hm => hp (List.mem_cons_of_mem _ hm)) h3⟩
    unfold Go.Proofs.YtfaeklinhchidaaGreat.upd
    rw [if_neg (fun e => hp (by rw [← e]; simp))]
    exact h2
structure FrOk (s : St) (used fr : List Nat) : Prop where
  c : Chain s.cc s.free fr
  d : (used ++ fr).Nodup
  m : ∀ p ∈ used ++ fr, 1 ≤ p ∧ p < s.fresh
  n : used.length + fr.length + 1 = s.fresh
theorem FrOk.put {s : St} {used fr : List Nat} (h : FrOk s used fr) {p : Nat} (hp : p ∉ fr) {x : PgC} {w r : Nat} : FrOk ⟨r, s.free, s.fresh, w, upd s.cc p x⟩ used fr := ⟨h.c.upd hp, h.d, h.m, h.n⟩
theorem FrOk.re {s : St} {used fr : List Nat} (h : FrOk s used fr) {w r : Nat} : FrOk ⟨r, s.free, s.fresh, w, s.cc⟩ used fr := ⟨h.c, h.d, h.m, h.n⟩
theorem FrOk.perm {s : St} {used used' fr : List Nat} (h : FrOk s used fr) (hp : used.Perm used') : FrOk s used' fr :=
  ⟨h.c, ((hp.append_right fr).nodup_iff).1 h.d, fun p hm => h.m p ((hp.append_right fr).mem_iff.2 hm), by rw [← hp.length_eq]; exact h.n⟩
theorem FrOk.not0 {s : St} {used fr : List Nat} (h : FrOk s used fr) : 0 ∉ fr := fun hm => by have := (h.m 0 (List.mem_append_right _ hm)).1; omega
theorem FrOk.notin {s : St} {used fr : List Nat} (h : FrOk s used fr) {p : Nat} (hp : p ∈ used) : p ∉ fr := fun hm => (List.nodup_append.1 h.d).2.2 p hp p hm rfl
theorem FrOk.take {N : Nat} {s : St} {used fr : List Nat} (h : FrOk s used fr) (hN : s.fresh < N) : ∃ o s' fr', takeS N s = some (o, s') ∧ s'.cc = s.cc ∧ s'.root = s.root ∧ s'.w = s.w ∧ o ∉ used ∧ 1 ≤ o ∧ o < N ∧ FrOk s' (o :: used) fr' ∧ s'.fresh ≤ s.fresh + 1 ∧ fr'.length ≤ fr.length ∧ (fr = [] → fr' = []) := by
  have hc := h.c; have hn := h.n; have hd := h.d
  cases fr with
  | nil =>
    have h0 : s.free = 0 := hc
    refine ⟨s.fresh, { s with fresh := s.fresh + 1 }, [], ?_, rfl, rfl, rfl, ?_, by omega, hN, ⟨hc, ?_, ?_, ?_⟩, Nat.le_refl _, Nat.le_refl _, fun _ => rfl⟩
    · unfold takeS; rw [if_neg (by simpa using h0), if_pos hN]
    · intro hm; have := (h.m s.fresh (List.mem_append_left _ hm)).2; omega
    · rw [List.append_nil] at hd ⊢
      refine List.nodup_cons.2 ⟨fun hm => ?_, hd⟩
      have := (h.m s.fresh (List.mem_append_left _ hm)).2; omega
    · intro p hm
      rw [List.append_nil] at hm
      rcases List.mem_cons.1 hm with rfl | hm
      · exact ⟨by omega, Nat.lt_succ_self _⟩
      · have := h.m p (List.mem_append_left _ hm)
        exact ⟨this.1, Nat.lt_succ_of_lt this.2⟩
    · show (s.fresh :: used).length + 0 + 1 = s.fresh + 1
      simp only [List.length_cons, List.length_nil] at hn ⊢; omega
  | cons o fr =>
    obtain ⟨h1, nx, h2, h3⟩ := hc
    have hom := h.m o (by simp)
    refine ⟨o, { s with free := nx }, fr, ?_, rfl, rfl, rfl, ?_, hom.1, by omega, ⟨h3, ?_, ?_, ?_⟩, Nat.le_succ _, by simp, fun e => by cases e⟩
    · unfold takeS
      rw [h1]
      rw [if_pos (by omega), if_pos (by omega)]
      simp only [h2]
    · intro hm; exact (List.nodup_append.1 hd).2.2 o hm o (by simp) rfl
    · exact (List.perm_middle.nodup_iff).1 hd
    · intro p hm
      exact h.m p (List.perm_middle.mem_iff.2 hm)
    · show (o :: used).length + fr.length + 1 = s.fresh
      simp only [List.length_cons] at hn ⊢; omega
/-! ### Entries that are alike in length -/
structure Uz where
  kl : Nat
  vl : Nat
  cap : Nat
  lo : Nat
  z1 : cap * (kl + vl + 2) ≤ 253
  z2 : 253 < (cap + 1) * (kl + vl + 2)
  z3 : 56 ≤ lo * (kl + vl + 2)
  l1 : 1 ≤ lo
  l2 : lo ≤ cap + 1 - lo
  l3 : cap + 1 - lo ≤ cap
  k1 : kl ≤ 64
  v1 : vl ≤ 72
  hf : ∀ es : List En, es.length = cap + 1 → (∀ e ∈ es, e.k.length = kl ∧ e.v.length = vl) → halfP ⟨true, es⟩ = lo
structure EnU (U : Uz) (e : En) : Prop where
  k : e.k.length = U.kl
  v : e.v.length = U.vl
  p : e.pg = 0
theorem bytes_uni {U : Uz} : ∀ {es : List En}, (∀ e ∈ es, EnU U e) → (⟨true, es⟩ : Nd).bytes = es.length * (U.kl + U.vl + 2)
  | [], _ => by simp [Nd.bytes]
  | e :: es, h => by
    have ih := bytes_uni (es := es) (fun x hx => h x (List.mem_cons_of_mem _ hx))
    have he := h e (by simp)
    have ho : (⟨true, e :: es⟩ : Nd).one e = U.kl + U.vl + 2 := by unfold Nd.one; simp [he.k, he.v]
    unfold Nd.bytes at ih ⊢
    rw [List.map_cons, List.sum_cons, ho]
    have : (es.map (⟨true, e :: es⟩ : Nd).one).sum = (es.map (⟨true, es⟩ : Nd).one).sum := rfl
    rw [this, ih, List.length_cons, Nat.add_mul]; omega
theorem leaf_ok {U : Uz} {es : List En} (he : ∀ e ∈ es, EnU U e) (hs : Srt es) (hl : es.length ≤ U.cap) : NdOk ⟨true, es⟩ := by
  refine ⟨fun e hm => ?_, hs, ?_⟩
  · have := he e hm; have := U.k1; have := U.v1
    exact ⟨by rw [(he e hm).k]; omega, by rw [(he e hm).v]; omega, by rw [(he e hm).p]; omega, fun h => Bool.noConfusion h, fun _ => (he e hm).p⟩
  · rw [bytes_uni he]
    exact Nat.le_trans (Nat.mul_le_mul_right _ hl) U.z1
theorem leaf_rich {U : Uz} {es : List En} (he : ∀ e ∈ es, EnU U e) (hl : U.lo ≤ es.length) : (⟨true, es⟩ : Nd).poor = false := by
  unfold Nd.poor
  have h1 := Nat.mul_le_mul_right (U.kl + U.vl + 2) hl
  have := U.z3
  rw [bytes_uni he]
  simp; omega
theorem putS_eq {N : Nat} {s : St} {p : Nat} {y : PgC} (hp : p < N) (hy : y.Ok) : putS N s p y = some { s with w := s.w + 1, cc := upd s.cc p y } := by
  unfold putS; rw [if_pos ⟨hp, hy⟩]
theorem leaf_one {U : Uz} {N p : Nat} {s : St} {low : Bs} {es : List En} (he : ∀ e ∈ es, EnU U e) (hs : Srt es) (hl : es.length ≤ U.cap) (hp : p < N) :
    writeS N s p low ⟨true, es⟩ = some ([⟨low, [], p⟩], { s with w := s.w + 1, cc := upd s.cc p (.node ⟨true, es⟩) }) := by
  unfold writeS
  have ok := leaf_ok he hs hl
  rw [if_pos ok.b, putS_eq (y := .node ⟨true, es⟩) hp ok]
  rfl
theorem leaf_two {U : Uz} {N p o : Nat} {s s1 : St} {low : Bs} {es : List En} (he : ∀ e ∈ es, EnU U e) (hs : Srt es) (hl : es.length = U.cap + 1) (hp : p < N) (ho : o < N) (ht : takeS N s = some (o, s1)) :
    ∃ e5 : En, e5 ∈ es.drop U.lo ∧ (es.drop U.lo).head? = some e5 ∧ writeS N s p low ⟨true, es⟩ = some ([⟨low, [], p⟩, ⟨e5.k, [], o⟩], { s1 with w := s1.w + 2, cc := upd (upd s1.cc p (.node ⟨true, es.take U.lo⟩)) o (.node ⟨true, es.drop U.lo⟩) }) := by
  have h1 := U.l1; have h2 := U.l2; have h3 := U.l3
  have hlt : U.lo < es.length := by omega
  have hd := List.drop_eq_getElem_cons hlt
  have ok1 := leaf_ok (U := U) (es := es.take U.lo) (fun e hm => he e (List.mem_of_mem_take hm)) (hs.sublist (List.take_sublist _ _)) (by rw [List.length_take]; omega)
  have ok2 := leaf_ok (U := U) (es := es.drop U.lo) (fun e hm => he e (List.mem_of_mem_drop hm)) (hs.sublist (List.drop_sublist _ _)) (by rw [List.length_drop]; omega)
  refine ⟨es[U.lo], by rw [hd]; exact List.mem_cons_self, by rw [hd]; rfl, ?_⟩
  unfold writeS
  have hb : ¬ (⟨true, es⟩ : Nd).bytes ≤ 253 := by
    rw [bytes_uni he, hl]; have := U.z2; omega
  rw [if_neg hb, U.hf es hl (fun e hm => ⟨(he e hm).k, (he e hm).v⟩), ht]
  simp only [Option.bind_eq_bind, Option.bind_some]
  rw [hd]
  simp only
  rw [← hd, putS_eq (y := .node ⟨true, es.take U.lo⟩) hp ok1]
  simp only [Option.bind_some]
  rw [putS_eq (y := .node ⟨true, es.drop U.lo⟩) ho ok2]
  rfl
end Go.Proofs.YtfaeklinhchidaaGreat

/-
  Check.
-/
set_option linter.all false
set_option maxRecDepth 100000
namespace Go.Proofs.YtfaeklinhchidaaGreat
open Go Hold
variable {E : World0} {w : World} {H R X : HP} {K : Value → World → Prop}
structure CheckOk (N : Nat) (s : St) (ps fr : List Nat) : Prop where
  t : (s.root = 0 ∧ ps = []) ∨ (s.root ≠ 0 ∧ ∃ high last, lookS N s.root s.fresh s.cc 3 s.root ([], none) = some (high, (ps, last)))
  c : Chain s.cc s.free fr
  m : ∀ p ∈ fr, p ≠ 0 ∧ p < s.fresh
  d : (ps ++ fr).Nodup
  n : ps.length + fr.length + 1 = s.fresh
  f : s.fresh ≤ N
theorem nv3_iv (ps : List Nat) : ps.map nv3 = (ps.map (fun p : Nat => (p : Int))).map iv := by rw [List.map_map]; rfl
theorem seenM_len (ps : List Nat) : (seenM ps).length = ps.length := by unfold seenM pinsM; simp
/-- A list of numbers that grows. -/
theorem push_int {v : Value} {a : Option Addr} {ps : List Nat} {c p : Nat} (hv : v = .slice a ps.length c) (hp : ps.length ≤ 100000) (h : sat E w (osl 3 1 v ps.length (ps.map nv3) * R))
    (k : ∀ a' c' w', sat E w' (osl 3 1 (.slice a' (ps ++ [p]).length c') (ps ++ [p]).length ((ps ++ [p]).map nv3) * R) → K (.slice a' (ps ++ [p]).length c') w') :
    efv prog (Instr.buildSlice 29 1 #[(0, .int .i64 p)]) w fun t_4 w => ef prog (oBi .append #[29, 29] 29 #[false, false] #[v, t_4]) w K := by
  refine buildSlice_sl (e := 3) (cs := [Value.int .i64 p].toArray) h (fun w => by kernel_rfl) fun b3 w h => ?_
  have h := h.owns v
  refine append_sl h [nv3 p] rfl (.inr ⟨b3, 0, _, 3, (0, 0), rfl, h.drop.pts_get, fun j u hj => by simpa [nv3] using hj⟩) (by simp [nv3, Value.oneCell']) (by omega) (by omega) fun pv w h => ?_
  obtain ⟨pa, pc, rfl, _, _, _⟩ := osl_shape h
  have h := (h.perm (star_left_comm _ _ _)).drop
  have := k pa pc w
  rw [List.length_append, List.map_append] at this
  exact this h
theorem CheckT_spec {tb : Nat} {A : Ad} {N : Nat} (le : N ≤ 1000) {s : St} {k0 c : Nat} {ps fr : List Nat} (ck : CheckOk N s ps fr) (hok : ∀ p, p < N → (s.cc p).Ok) (h : sat E w (trT tb A N s 0 k0 (c + (ps.length + fr.length)) * R))
    (k : ∀ hg a c' v2 v3 l w', v2.oneCell' = true → v3.oneCell' = true → sat E w' (trT tb A N s 0 k0 c * R) → K (.tuple #[.agg [Value.int .i64 hg, .slice a ps.length c', v2, v3, .int .i64 l].toArray, .int .i64 0]) w') : Calls prog 8 #[.pointer (some ⟨tb, 0, none⟩)] w (Ret K) := by
  have hfs := ck.f; have hn := ck.n
  refine c8 ?_
  unfold B8
  refine alloc_sl h fun rb w h => ?_
  have h : sat E w (pts rb (.cells [Value.int .i64 0, .slice none 0 0, .slice none 0 0, .slice none 0 0, .int .i64 0].toArray 31 (0, 0)) * _) := h
  refine alloc_sl h fun eb w h => ?_
  have h : sat E w (pts eb (.cells [Value.int .i64 0].toArray 24 (0, 0)) * _) := h
  rw [o_eqPtr, Option.isNone_some, cd_false]
  refine pvv_of (v := .func (.func 24) #[] #[.pointer (some ⟨rb, 0, none⟩), .pointer (some ⟨eb, 0, none⟩)]) (fun w => by kernel_rfl) ?_
  refine ⟨trivial, ?_⟩
  refine make_map h fun sm w h => ?_
  refine alloc_sl h fun lb w h => ?_
  have h : sat E w (boxS lb (.slice none 0 0) * (omap sm [] * (pts eb (.cells [Value.int .i64 0].toArray 24 (0, 0)) * (pts rb (.cells [Value.int .i64 0, .slice none 0 0, .slice none 0 0, .slice none 0 0, .int .i64 0].toArray 31 (0, 0)) * (trT tb A N s 0 k0 (c + (ps.length + fr.length)) * R))))) := h
  have h := h.perm (show _ = pts rb (.cells [Value.int .i64 0, .slice none 0 0, .slice none 0 0, .slice none 0 0, .int .i64 0].toArray 31 (0, 0)) * (boxS lb (.slice none 0 0) * (omap sm [] * (pts eb (.cells [Value.int .i64 0].toArray 24 (0, 0)) * (trT tb A N s 0 k0 (c + (ps.length + fr.length)) * R)))) by ac_rfl)
  have h := osl_nil h 3 1
  have h : sat E w (rpI rb 0 [] * (boxS lb (.slice none 0 0) * (omap sm [] * (pts eb (.cells [Value.int .i64 0].toArray 24 (0, 0)) * (trT tb A N s 0 k0 (c + (ps.length + fr.length)) * R))))) := sat_rpI.2 ⟨none, 0, 0, by omega, h.perm (star_left_comm _ _ _)⟩
  have h : sat E w (lkI tb A N s k0 (c + (ps.length + fr.length)) rb lb sm 0 ([], none) * (pts eb (.cells [Value.int .i64 0].toArray 24 (0, 0)) * R)) := h.perm (by unfold lkI lsI seenM pinsM; show rpI rb 0 [] * (boxS lb (.slice none 0 0) * (omap sm [] * _)) = _; simp only [List.map_nil]; ac_rfl)
  refine jn_cut (fun σ w => ∃ hg last, σ = [] ∧ sat E w (lkI tb A N s k0 (c + fr.length) rb lb sm hg (ps, last) * (pts eb (.cells [Value.int .i64 0].toArray 24 (0, 0)) * R))) ?_ ?_
  · intro kk hk
    have htb := h.perm (show _ = pts tb (.cells [Value.int .i64 s.root, .int .i64 s.free, .int .i64 s.fresh, .pointer (some ⟨A.q, 0, none⟩)].toArray 73 (0, 0)) * (pX A N s.cc 0 k0 (c + (ps.length + fr.length)) * (rpI rb 0 [] * (lsI lb none * (omap sm (seenM []) * (pts eb (.cells [Value.int .i64 0].toArray 24 (0, 0)) * R))))) by unfold lkI trT; ac_rfl)
    rw [o_nil, o_field, o_field]
    refine ld_in (b := tb) (v := .int .i64 s.root) htb rfl ?_
    rcases ck.t with ⟨h0, hps⟩ | ⟨h0, high, last, hlk⟩
    · have h0' : (s.root : Int) = 0 := by omega
      simp only [h0', decide_true, ↓opsA, opsB, if_true, if_false, ↓reduceIte]
      refine hk _ _ ⟨0, none, rfl, ?_⟩
      rw [hps] at h ⊢
      simp only [List.length_nil, Nat.zero_add] at h
      exact h
    · have h0' : ¬ (s.root : Int) = 0 := by omega
      simp only [h0', ↓opsA, opsB, if_true, if_false, ↓reduceIte]
      refine ld_in (b := tb) (v := .int .i64 s.root) htb rfl ?_
      have h : sat E w (lkI tb A N s k0 ((c + fr.length) + (ps.length - ([] : List Nat).length)) rb lb sm 0 ([], none) * (pts eb (.cells [Value.int .i64 0].toArray 24 (0, 0)) * R)) := by
        rw [show (c + fr.length) + (ps.length - ([] : List Nat).length) = c + (ps.length + fr.length) by simp; omega]; exact h
      refine below_spec le (B := ps.length) (by omega) (by omega) hok 3 (by omega) hlk (Nat.le_refl _) h fun w hhi h => ?_
      simp only at h hhi
      rw [Nat.sub_self, Nat.add_zero] at h
      obtain ⟨ra, rc, l, hl, h⟩ := sat_rpI.1 (h.perm (show _ = rpI rb 0 ps * (trT tb A N s 0 k0 (c + fr.length) * (lsI lb last * (omap sm (seenM ps) * (pts eb (.cells [Value.int .i64 0].toArray 24 (0, 0)) * R)))) by unfold lkI; ac_rfl))
      refine store_at (b := rb) h rfl (by simp) fun w h => ?_
      refine hk _ _ ⟨high, last, rfl, ?_⟩
      exact (sat_rpI.2 ⟨ra, rc, l, hl, h⟩).perm (by unfold lkI; ac_rfl)
  clear h
  rintro σ w ⟨hg, last, rfl, h⟩
  rw [fin_nil]
  obtain ⟨ra, rc, l, hl, h⟩ := sat_rpI.1 (h.perm (show _ = rpI rb hg ps * (trT tb A N s 0 k0 (c + fr.length) * (lsI lb last * (omap sm (seenM ps) * (pts eb (.cells [Value.int .i64 0].toArray 24 (0, 0)) * R)))) by unfold lkI; ac_rfl))
  have htb : ∀ {w : World} {Y1 Y2 : HP} {c' : Nat}, sat E w (Y1 * (trT tb A N s 0 k0 c' * Y2)) → sat E w (pts tb (.cells [Value.int .i64 s.root, .int .i64 s.free, .int .i64 s.fresh, .pointer (some ⟨A.q, 0, none⟩)].toArray 73 (0, 0)) * (pX A N s.cc 0 k0 c' * (Y1 * Y2))) := fun h => h.perm (by unfold trT; ac_rfl)
  have htb' : ∀ {w : World} {Y1 Y2 : HP} {c' : Nat}, sat E w (pX A N s.cc 0 k0 c' * (pts tb (.cells [Value.int .i64 s.root, .int .i64 s.free, .int .i64 s.fresh, .pointer (some ⟨A.q, 0, none⟩)].toArray 73 (0, 0)) * (Y1 * Y2))) → sat E w (Y1 * (trT tb A N s 0 k0 c' * Y2)) := fun h => h.perm (by unfold trT; ac_rfl)
  rw [o_nil, o_field, o_field]
  have hq := h.perm (show _ = (pts rb (.cells [Value.int .i64 hg, .slice ra ps.length rc, .slice none 0 0, .slice none 0 0, .int .i64 (l : Nat)].toArray 31 (0, 0)) * osl 3 1 (.slice ra ps.length rc) ps.length (ps.map nv3)) * (trT tb A N s 0 k0 (c + fr.length) * (lsI lb last * (omap sm (seenM ps) * (pts eb (.cells [Value.int .i64 0].toArray 24 (0, 0)) * R)))) by ac_rfl)
  refine ld_in (b := tb) (v := .int .i64 s.free) (htb hq) rfl ?_
  refine lp_nat (fun q σ w => ∃ (done rest : List Nat) (n : Nat) (fa : Option Addr) (fc : Nat), σ = [.int .i64 n] ∧ q = rest.length ∧ fr = done ++ rest ∧ Chain s.cc n rest ∧
    sat E w ((pts rb (.cells [Value.int .i64 hg, .slice ra ps.length rc, .slice fa done.length fc, .slice none 0 0, .int .i64 (l : Nat)].toArray 31 (0, 0)) * (osl 3 1 (.slice ra ps.length rc) ps.length (ps.map nv3) * osl 3 1 (.slice fa done.length fc) done.length (done.map nv3))) * (trT tb A N s 0 k0 (c + rest.length) * (omap sm (seenM (ps ++ done)) * (pts eb (.cells [Value.int .i64 0].toArray 24 (0, 0)) * R))))) fr.length ⟨[], fr, s.free, none, 0, rfl, rfl, rfl, ck.c, ?_⟩ ?_
  · rw [List.append_nil]
    have h := h.perm (show _ = lsI lb last * ((pts rb (.cells [Value.int .i64 hg, .slice ra ps.length rc, .slice none 0 0, .slice none 0 0, .int .i64 (l : Nat)].toArray 31 (0, 0)) * osl 3 1 (.slice ra ps.length rc) ps.length (ps.map nv3)) * (trT tb A N s 0 k0 (c + fr.length) * (omap sm (seenM ps) * (pts eb (.cells [Value.int .i64 0].toArray 24 (0, 0)) * R)))) by ac_rfl)
    have h := osl_nil h.drop 3 1
    exact h.perm (by simp only [List.map_nil, List.length_nil]; ac_rfl)
  clear h hq
  rintro q σ w again ⟨done, rest, n, fa, fc, rfl, rfl, hfr, hch, h⟩ hag
  rw [pop_cons, fin_nil, o_neInt]
  cases rest with
  | cons p rest =>
    obtain ⟨rfl, nx, hcc, hch⟩ := hch
    have hpm := ck.m n (by rw [hfr]; simp)
    have hpN : n < N := by omega
    have hnx : nx < 65536 := by have := hok n hpN; rw [hcc] at this; exact this
    have hnd := ck.d
    rw [hfr] at hnd
    have hnin : n ∉ ps ++ done := fun hin => by
      rw [← List.append_assoc, List.nodup_append] at hnd
      exact hnd.2.2 n hin n (by simp) rfl
    have h0 : ¬ (n : Int) = 0 := by omega
    simp only [h0, decide_false, Bool.not_false, cd_true]
    have h1 : ¬ (s.fresh : Int) ≤ (n : Int) := by omega
    rw [o_nil, o_field, o_field]
    refine ld_in (b := tb) (v := .int .i64 s.fresh) (htb h) rfl ?_
    rw [o_geq]
    simp only [h1, ↓opsA, opsB, if_true, if_false, ↓reduceIte]
    refine look1_ld (b := sm) h ?_
    rw [seen_look, if_neg hnin]
    simp only [Option.getD_none, ↓opsA, opsB, if_true, if_false, ↓reduceIte]
    have h := h.perm (show _ = omap sm (seenM (ps ++ done)) * ((pts rb (.cells [Value.int .i64 hg, .slice ra ps.length rc, .slice fa done.length fc, .slice none 0 0, .int .i64 (l : Nat)].toArray 31 (0, 0)) * (osl 3 1 (.slice ra ps.length rc) ps.length (ps.map nv3) * osl 3 1 (.slice fa done.length fc) done.length (done.map nv3))) * (trT tb A N s 0 k0 (c + (n :: rest).length) * (pts eb (.cells [Value.int .i64 0].toArray 24 (0, 0)) * R))) by ac_rfl)
    refine update_sl (b := sm) h fun w h => ?_
    rw [seen_put hnin] at h
    have h := h.perm (show _ = osl 3 1 (.slice fa done.length fc) done.length (done.map nv3) * (pts rb (.cells [Value.int .i64 hg, .slice ra ps.length rc, .slice fa done.length fc, .slice none 0 0, .int .i64 (l : Nat)].toArray 31 (0, 0)) * (osl 3 1 (.slice ra ps.length rc) ps.length (ps.map nv3) * (trT tb A N s 0 k0 (c + (n :: rest).length) * (omap sm (seenM (ps ++ done ++ [n])) * (pts eb (.cells [Value.int .i64 0].toArray 24 (0, 0)) * R))))) by ac_rfl)
    refine ld_in (b := rb) (v := .slice fa done.length fc) h rfl ?_
    have hfl : fr.length = done.length + (rest.length + 1) := by rw [hfr]; simp
    refine push_int rfl (by omega) h fun a' c' w h => ?_
    try simp only [↓opsA, opsB, if_true, if_false, ↓reduceIte]
    have h := h.perm (show _ = pts rb (.cells [Value.int .i64 hg, .slice ra ps.length rc, .slice fa done.length fc, .slice none 0 0, .int .i64 (l : Nat)].toArray 31 (0, 0)) * (osl 3 1 (.slice a' (done ++ [n]).length c') (done ++ [n]).length ((done ++ [n]).map nv3) * (osl 3 1 (.slice ra ps.length rc) ps.length (ps.map nv3) * (trT tb A N s 0 k0 (c + (n :: rest).length) * (omap sm (seenM (ps ++ done ++ [n])) * (pts eb (.cells [Value.int .i64 0].toArray 24 (0, 0)) * R))))) by ac_rfl)
    refine store_at (b := rb) h rfl (by simp) fun w h => ?_
    try simp only [↓opsA, opsB, if_true, if_false, ↓reduceIte]
    have h := h.perm (show _ = (pts rb (.cells [Value.int .i64 hg, .slice ra ps.length rc, .slice a' (done ++ [n]).length c', .slice none 0 0, .int .i64 (l : Nat)].toArray 31 (0, 0)) * (osl 3 1 (.slice ra ps.length rc) ps.length (ps.map nv3) * osl 3 1 (.slice a' (done ++ [n]).length c') (done ++ [n]).length ((done ++ [n]).map nv3))) * (trT tb A N s 0 k0 (c + (n :: rest).length) * (omap sm (seenM (ps ++ done ++ [n])) * (pts eb (.cells [Value.int .i64 0].toArray 24 (0, 0)) * R))) by ac_rfl)
    refine ld_in (b := tb) (v := .pointer (some ⟨A.q, 0, none⟩)) (htb h) rfl ?_
    have h := (htb h).perm (show _ = pX A N s.cc 0 k0 (c + (n :: rest).length) * (pts tb (.cells [Value.int .i64 s.root, .int .i64 s.free, .int .i64 s.fresh, .pointer (some ⟨A.q, 0, none⟩)].toArray 73 (0, 0)) * ((pts rb (.cells [Value.int .i64 hg, .slice ra ps.length rc, .slice a' (done ++ [n]).length c', .slice none 0 0, .int .i64 (l : Nat)].toArray 31 (0, 0)) * (osl 3 1 (.slice ra ps.length rc) ps.length (ps.map nv3) * osl 3 1 (.slice a' (done ++ [n]).length c') (done ++ [n]).length ((done ++ [n]).map nv3))) * (omap sm (seenM (ps ++ done ++ [n])) * (pts eb (.cells [Value.int .i64 0].toArray 24 (0, 0)) * R)))) by ac_rfl)
    have h : sat E w (pX A N s.cc 0 k0 (c + rest.length + 1) * _) := h
    refine XRead_spec h hpN fun v w h => ?_
    rw [hcc] at h
    have hrd := (Rds.osl (e := 5) (sz := 1) (v := v) (n := 256) (xs := (PgC.free nx).bytes.map bv)).left (X := (pX A N s.cc 0 k0 (c + rest.length) * (pts tb (.cells [Value.int .i64 s.root, .int .i64 s.free, .int .i64 s.fresh, .pointer (some ⟨A.q, 0, none⟩)].toArray 73 (0, 0)) * ((pts rb (.cells [Value.int .i64 hg, .slice ra ps.length rc, .slice a' (done ++ [n]).length c', .slice none 0 0, .int .i64 (l : Nat)].toArray 31 (0, 0)) * (osl 3 1 (.slice ra ps.length rc) ps.length (ps.map nv3) * osl 3 1 (.slice a' (done ++ [n]).length c') (done ++ [n]).length ((done ++ [n]).map nv3))) * (omap sm (seenM (ps ++ done ++ [n])) * (pts eb (.cells [Value.int .i64 0].toArray 24 (0, 0)) * R))))))
    obtain ⟨va, vc, rfl, hvc, _, _⟩ := hrd.shape h
    obtain ⟨vb, vo, hab, _⟩ := win_cell (hrd.win h) (j := 0) (by rw [List.length_map, PgC.len (x := .free nx) hnx]; omega)
    subst hab
    simp only [↓opsA, opsB, if_true, if_false, ↓reduceIte]
    refine dr_sl h fun w h _ => ?_
    rw [o_index (by omega) (by omega)]
    try simp only [↓opsA, opsB, if_true, if_false, ↓reduceIte]
    rw [o_index (by omega) (by omega)]
    simp only [↓opsA, opsB, if_true, if_false, ↓reduceIte, show (1 : Int).toNat * 1 = 1 from rfl, show (2 : Int).toNat * 1 = 2 from rfl]
    refine ld_cell (v := bv (hi8 nx)) (byte_at hrd h (j := 1) rfl) ?_
    have := (hi8 nx).toNat_lt
    have := (lo8 nx).toNat_lt
    unfold bv
    simp only [↓opsA, opsB, if_true, if_false, ↓reduceIte]
    rw [i64_of (n := ((hi8 nx).toNat : Int)) (by omega) (by omega), shl16]
    refine ld_cell (v := bv (lo8 nx)) (byte_at hrd h (j := 2) rfl) ?_
    unfold bv
    simp only [↓opsA, opsB, if_true, if_false, ↓reduceIte]
    rw [i64_of (n := ((lo8 nx).toNat : Int)) (by omega) (by omega), two16 hnx]
    refine hag rest.length _ _ (by simp) ⟨done ++ [n], rest, nx, a', c', rfl, rfl, by rw [hfr]; simp, hch, ?_⟩
    rw [← List.append_assoc]
    exact htb' h.drop
  | nil =>
    have hch : n = 0 := hch
    have h0 : (n : Int) = 0 := by omega
    simp only [h0, decide_true, Bool.not_true, cd_false]
    rw [List.append_nil] at hfr
    subst hfr
    refine dr_sl h fun w h _ => ?_
    try simp only [↓opsA, opsB, if_true, if_false, ↓reduceIte]
    refine len_ld (b := sm) h ?_
    rw [seenM_len]
    refine ld_in (b := tb) (v := .int .i64 s.fresh) (htb h) rfl ?_
    try simp only [↓opsA, opsB, if_true, if_false, ↓reduceIte]
    have hl1 : ((ps ++ fr).length : Int) = (s.fresh : Int) - 1 := by rw [List.length_append]; omega
    rw [i64_of (n := (s.fresh : Int) - 1) (by omega) (by omega)]
    simp only [hl1, decide_true, ↓opsA, opsB, if_true, if_false, ↓reduceIte]
    refine ld_in (b := tb) (v := .int .i64 s.fresh) (htb h) rfl ?_
    refine lp_nat (fun q σ w => ∃ (gs : List Nat) (ga : Option Addr) (gc : Nat), σ = [.int .i64 ((s.fresh + gs.length : Nat) : Int)] ∧ q = N - (s.fresh + gs.length) ∧ s.fresh + gs.length ≤ N ∧
      sat E w ((pts rb (.cells [Value.int .i64 hg, .slice ra ps.length rc, .slice fa fr.length fc, .slice ga gs.length gc, .int .i64 (l : Nat)].toArray 31 (0, 0)) * (osl 3 1 (.slice ra ps.length rc) ps.length (ps.map nv3) * (osl 3 1 (.slice fa fr.length fc) fr.length (fr.map nv3) * osl 3 1 (.slice ga gs.length gc) gs.length (gs.map nv3)))) * (trT tb A N s 0 k0 c * (pts eb (.cells [Value.int .i64 0].toArray 24 (0, 0)) * R)))) (N - s.fresh) ⟨[], none, 0, rfl, rfl, by simpa using hfs, ?_⟩ ?_
    · have h := h.perm (show _ = omap sm (seenM (ps ++ fr)) * ((pts rb (.cells [Value.int .i64 hg, .slice ra ps.length rc, .slice fa fr.length fc, .slice none 0 0, .int .i64 (l : Nat)].toArray 31 (0, 0)) * (osl 3 1 (.slice ra ps.length rc) ps.length (ps.map nv3) * osl 3 1 (.slice fa fr.length fc) fr.length (fr.map nv3))) * (trT tb A N s 0 k0 (c + ([] : List Nat).length) * (pts eb (.cells [Value.int .i64 0].toArray 24 (0, 0)) * R))) by ac_rfl)
      have h := osl_nil h.drop 3 1
      exact h.perm (by simp only [List.map_nil, List.length_nil, Nat.add_zero]; ac_rfl)
    clear h hag
    rintro q σ w again ⟨gs, ga, gc, rfl, rfl, hgN, h⟩ hag
    try simp only [↓opsA, opsB, if_true, if_false, ↓reduceIte]
    refine ld_in (b := tb) (v := .pointer (some ⟨A.q, 0, none⟩)) (htb h) rfl ?_
    generalize hO : pts rb (.cells [Value.int .i64 hg, .slice ra ps.length rc, .slice fa fr.length fc, .slice ga gs.length gc, .int .i64 (l : Nat)].toArray 31 (0, 0)) * (osl 3 1 (.slice ra ps.length rc) ps.length (ps.map nv3) * (osl 3 1 (.slice fa fr.length fc) fr.length (fr.map nv3) * osl 3 1 (.slice ga gs.length gc) gs.length (gs.map nv3))) = O at h
    have h := (htb h).perm (show _ = pX A N s.cc 0 k0 c * (pts tb (.cells [Value.int .i64 s.root, .int .i64 s.free, .int .i64 s.fresh, .pointer (some ⟨A.q, 0, none⟩)].toArray 73 (0, 0)) * (O * (pts eb (.cells [Value.int .i64 0].toArray 24 (0, 0)) * R))) by ac_rfl)
    refine XLog_spec h ?_
    refine XPages_spec h fun w h => ?_
    have h := htb' h
    rw [← hO] at h
    try simp only [↓opsA, opsB, if_true, if_false, ↓reduceIte]
    refine cd_dec (fun hlt => ?_) (fun hge => ?_)
    · have hlt : s.fresh + gs.length < N := by omega
      have h := h.perm (show _ = osl 3 1 (.slice ga gs.length gc) gs.length (gs.map nv3) * (pts rb (.cells [Value.int .i64 hg, .slice ra ps.length rc, .slice fa fr.length fc, .slice ga gs.length gc, .int .i64 (l : Nat)].toArray 31 (0, 0)) * (osl 3 1 (.slice ra ps.length rc) ps.length (ps.map nv3) * (osl 3 1 (.slice fa fr.length fc) fr.length (fr.map nv3) * (trT tb A N s 0 k0 c * (pts eb (.cells [Value.int .i64 0].toArray 24 (0, 0)) * R))))) by ac_rfl)
      refine ld_in (b := rb) (v := .slice ga gs.length gc) h rfl ?_
      refine push_int rfl (by omega) h fun a' c' w h => ?_
      try simp only [↓opsA, opsB, if_true, if_false, ↓reduceIte]
      have h := h.perm (show _ = pts rb (.cells [Value.int .i64 hg, .slice ra ps.length rc, .slice fa fr.length fc, .slice ga gs.length gc, .int .i64 (l : Nat)].toArray 31 (0, 0)) * (osl 3 1 (.slice a' (gs ++ [s.fresh + gs.length]).length c') (gs ++ [s.fresh + gs.length]).length ((gs ++ [s.fresh + gs.length]).map nv3) * (osl 3 1 (.slice ra ps.length rc) ps.length (ps.map nv3) * (osl 3 1 (.slice fa fr.length fc) fr.length (fr.map nv3) * (trT tb A N s 0 k0 c * (pts eb (.cells [Value.int .i64 0].toArray 24 (0, 0)) * R))))) by ac_rfl)
      refine store_at (b := rb) h rfl (by simp) fun w h => ?_
      try simp only [↓opsA, opsB, if_true, if_false, ↓reduceIte]
      rw [i64_of (by omega) (by omega)]
      have hgl : (gs ++ [s.fresh + gs.length]).length = gs.length + 1 := by simp
      refine hag (N - (s.fresh + (gs.length + 1))) _ _ (by omega) ⟨gs ++ [s.fresh + gs.length], a', c', ?_, by rw [hgl], by rw [hgl]; omega, ?_⟩
      · rw [hgl]; congr 2
      · exact h.perm (by ac_rfl)
    · have h := h.perm (show _ = osl 3 1 (.slice ra ps.length rc) ps.length (ps.map nv3) * (pts rb (.cells [Value.int .i64 hg, .slice ra ps.length rc, .slice fa fr.length fc, .slice ga gs.length gc, .int .i64 (l : Nat)].toArray 31 (0, 0)) * (osl 3 1 (.slice fa fr.length fc) fr.length (fr.map nv3) * (osl 3 1 (.slice ga gs.length gc) gs.length (gs.map nv3) * (trT tb A N s 0 k0 c * (pts eb (.cells [Value.int .i64 0].toArray 24 (0, 0)) * R))))) by ac_rfl)
      refine ld_in (b := rb) (v := .slice ra ps.length rc) h rfl ?_
      have hpl : (ps.map (fun p : Nat => (p : Int))).length = ps.length := by simp
      have hfl : (fr.map (fun p : Nat => (p : Int))).length = fr.length := by simp
      rw [nv3_iv, ← hpl] at h
      rw [← hpl]
      refine KU.Sort_spec h (by rw [hpl]; omega) fun w h => ?_
      have h := h.drop
      rw [hpl] at h
      refine ld_in (b := rb) (v := .slice fa fr.length fc) h rfl ?_
      have h := h.perm (show _ = osl 3 1 (.slice fa fr.length fc) fr.length (fr.map nv3) * (pts rb (.cells [Value.int .i64 hg, .slice ra ps.length rc, .slice fa fr.length fc, .slice ga gs.length gc, .int .i64 (l : Nat)].toArray 31 (0, 0)) * (osl 3 1 (.slice ga gs.length gc) gs.length (gs.map nv3) * (trT tb A N s 0 k0 c * (pts eb (.cells [Value.int .i64 0].toArray 24 (0, 0)) * R)))) by ac_rfl)
      rw [nv3_iv, ← hfl] at h
      rw [← hfl]
      refine KU.Sort_spec h (by rw [hfl]; omega) fun w h => ?_
      have h := h.drop
      rw [hfl] at h
      refine ld_agg (b := rb) h rfl ?_
      refine store_all (b := rb) h rfl rfl (by simp [Value.oneCell']) fun w h => ?_
      refine store_at (b := eb) h rfl (by simp) fun w h => ?_
      refine dfr_check ?_
      obtain ⟨r1, hr1, e1⟩ := res_agg (P := prog) (t := 31) (b := rb) (K := fun r _ => r = .agg [Value.int .i64 hg, .slice ra ps.length rc, .slice fa fr.length fc, .slice ga gs.length gc, .int .i64 (l : Nat)].toArray) h rfl rfl
      obtain ⟨r2, hr2, e2⟩ := res_one (P := prog) (t := 24) (b := eb) (K := fun r _ => r = .int .i64 0) h rfl rfl
      refine ⟨r1, hr1, r2, hr2, ?_⟩
      rw [e1, e2]
      refine k hg ra rc _ _ (l : Nat) w rfl rfl ?_
      exact (h.perm (show _ = pts eb (.cells [Value.int .i64 0].toArray 24 (0, 0)) * (pts rb (.cells [Value.int .i64 hg, .slice ra ps.length rc, .slice fa fr.length fc, .slice ga gs.length gc, .int .i64 (l : Nat)].toArray 31 (0, 0)) * (osl 3 1 (.slice ga gs.length gc) gs.length (gs.map nv3) * (trT tb A N s 0 k0 c * R))) by ac_rfl)).drop.drop.drop
end Go.Proofs.YtfaeklinhchidaaGreat

/-
  A disk: cuts.
-/
set_option linter.all false
set_option maxRecDepth 100000
namespace Go.Proofs.YtfaeklinhchidaaGreat
open Go Hold
variable {E : World0} {w : World} {H R : HP} {K : Value → World → Prop}
end Go.Proofs.YtfaeklinhchidaaGreat
