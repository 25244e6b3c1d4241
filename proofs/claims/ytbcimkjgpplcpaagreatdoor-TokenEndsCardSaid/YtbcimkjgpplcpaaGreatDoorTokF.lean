/-
  Families and tokens: the records, and the store that holds them.
-/
import Derived.Test.YtbcimkjgpplcpaaGreatDoorNames
import Derived.Test.YtbcimkjgpplcpaaGreatDoorElems
set_option linter.all false
set_option maxRecDepth 100000
namespace Go.Proofs.YtbcimkjgpplcpaaGreatDoor.T
open Go Hold
variable {E : World0} {w : World} {H R X : HP} {K : Value → World → Prop}
structure Fam where
  id : Int
  ses : Int
  cl : List UInt8
  sc : UInt8
  nx : Int
  deriving DecidableEq
structure Tok where
  id : Int
  fam : Int
  sc : UInt8
  til : Int
  deriving DecidableEq
def fcells (x : Fam) : List Value := [.int .i64 x.id, .int .i64 x.ses, tv x.cl, bv x.sc, .int .i64 x.nx]
def kcells (x : Tok) : List Value := [.int .i64 x.id, .int .i64 x.fam, bv x.sc, .int .i64 x.til]
def fv (x : Fam) : Value := .agg (fcells x).toArray
def kv (x : Tok) : Value := .agg (kcells x).toArray
def fvs (l : List Fam) : List Value := l.flatMap fcells
def kvs (l : List Tok) : List Value := l.flatMap kcells
def zeroF : Fam := ⟨0, 0, [], 0, 0⟩
def zeroK : Tok := ⟨0, 0, 0, 0⟩
theorem fcells_one (x : Fam) : ∀ v ∈ fcells x, v.oneCell' = true := by
  intro v hv
  simp [fcells] at hv
  rcases hv with rfl | rfl | rfl | rfl | rfl <;> rfl
theorem kcells_one (x : Tok) : ∀ v ∈ kcells x, v.oneCell' = true := by
  intro v hv
  simp [kcells] at hv
  rcases hv with rfl | rfl | rfl | rfl <;> rfl
theorem fvs_length (l : List Fam) : (fvs l).length = l.length * 5 := fm_length (k := 5) (fun _ => rfl) l
theorem kvs_length (l : List Tok) : (kvs l).length = l.length * 4 := fm_length (k := 4) (fun _ => rfl) l
theorem fvs_at {l : List Fam} {i : Nat} {x : Fam} (h : l[i]? = some x) : ((fvs l).drop (i * 5)).take 5 = fcells x := fm_at (k := 5) (fun _ => rfl) h
theorem kvs_at {l : List Tok} {i : Nat} {x : Tok} (h : l[i]? = some x) : ((kvs l).drop (i * 4)).take 4 = kcells x := fm_at (k := 4) (fun _ => rfl) h
theorem fvs_append (a b : List Fam) : fvs (a ++ b) = fvs a ++ fvs b := by simp [fvs]
theorem kvs_append (a b : List Tok) : kvs (a ++ b) = kvs a ++ kvs b := by simp [kvs]
def boxF (b : Nat) (x : Fam) : HP := pts b (.cells (fcells x).toArray 35 (0, 0))
def boxK (b : Nat) (x : Tok) : HP := pts b (.cells (kcells x).toArray 49 (0, 0))
theorem fam_in (h : sat E w H) {x : Fam} {K : Value → World → Prop} (k : ∀ b w', sat E w' (pts b (.cells (fcells x).toArray 35 (0, 0)) * H) → K (.pointer (some ⟨b, 0, none⟩)) w') :
    efv prog (Instr.alloc 35 true (.tuple #[])) w fun x' w => efu prog (Instr.storeAt 35 x' (fv x)) w fun _ w => K x' w := by
  refine alloc_sl h fun b w h => ?_
  have h : sat E w (pts b (.cells (fcells zeroF).toArray 35 (0, 0)) * H) := h
  exact store_all (b := b) h (xs := fcells zeroF) (vs := fcells x) rfl rfl (fcells_one x) fun w h => k b w h
theorem tok_in (h : sat E w H) {x : Tok} {K : Value → World → Prop} (k : ∀ b w', sat E w' (pts b (.cells (kcells x).toArray 49 (0, 0)) * H) → K (.pointer (some ⟨b, 0, none⟩)) w') :
    efv prog (Instr.alloc 49 true (.tuple #[])) w fun x' w => efu prog (Instr.storeAt 49 x' (kv x)) w fun _ w => K x' w := by
  refine alloc_sl h fun b w h => ?_
  have h : sat E w (pts b (.cells (kcells zeroK).toArray 49 (0, 0)) * H) := h
  exact store_all (b := b) h (xs := kcells zeroK) (vs := kcells x) rfl rfl (kcells_one x) fun w h => k b w h
theorem fam_new (h : sat E w H) {K : Value → World → Prop} (k : ∀ b w', sat E w' (pts b (.cells (fcells zeroF).toArray 35 (0, 0)) * H) → K (.pointer (some ⟨b, 0, none⟩)) w') : efv prog (Instr.alloc 35 true (.tuple #[])) w K := by
  refine alloc_sl h fun b w h => ?_
  have h : sat E w (pts b (.cells (fcells zeroF).toArray 35 (0, 0)) * H) := h
  exact k b w h
theorem tok_new (h : sat E w H) {K : Value → World → Prop} (k : ∀ b w', sat E w' (pts b (.cells (kcells zeroK).toArray 49 (0, 0)) * H) → K (.pointer (some ⟨b, 0, none⟩)) w') : efv prog (Instr.alloc 49 true (.tuple #[])) w K := by
  refine alloc_sl h fun b w h => ?_
  have h : sat E w (pts b (.cells (kcells zeroK).toArray 49 (0, 0)) * H) := h
  exact k b w h
theorem zeroF_build {K : Value → World → Prop} (k : K (fv zeroF) w) : pvv prog (Instr.build 35 #[]) w K := pvv_of (fun w => by kernel_rfl) k
theorem zeroK_build {K : Value → World → Prop} (k : K (kv zeroK) w) : pvv prog (Instr.build 49 #[]) w K := pvv_of (fun w => by kernel_rfl) k
/-- Two variables at once: a family, a token. -/
theorem two_in (h : sat E w H) {x : Fam} {y : Tok} {K : Value → Value → World → Prop} (k : ∀ b c w', sat E w' (pts c (.cells (kcells y).toArray 49 (0, 0)) * (pts b (.cells (fcells x).toArray 35 (0, 0)) * H)) → K (.pointer (some ⟨b, 0, none⟩)) (.pointer (some ⟨c, 0, none⟩)) w') :
    efv prog (Instr.alloc 35 true (.tuple #[])) w fun x' w => efv prog (Instr.alloc 49 true (.tuple #[])) w fun y' w => efu prog (Instr.storeAt 35 x' (fv x)) w fun _ w => efu prog (Instr.storeAt 49 y' (kv y)) w fun _ w => K x' y' w := by
  refine fam_new h fun b w h => ?_
  refine tok_new h fun c w h => ?_
  refine store_all (b := b) h (xs := fcells zeroF) (vs := fcells x) rfl rfl (fcells_one x) fun w h => ?_
  refine store_all (b := c) h (xs := kcells zeroK) (vs := kcells y) rfl rfl (kcells_one y) fun w h => ?_
  exact k b c w h
/-- What is stored into the results' variables comes back. -/
theorem tok_ret (h : sat E w H) {b : Nat} {x y : Tok} {e : Int} [Own H b (.cells (kcells x).toArray 49 (0, 0)) R] (k : ∀ w', sat E w' (pts b (.cells (kcells y).toArray 49 (0, 0)) * R) → K (.tuple #[kv y, .int .i64 e]) w') :
    efu prog (Instr.storeAt 49 (.pointer (some ⟨b, 0, none⟩)) (kv y)) w fun _ w => ∃ r, (do loadVar 49 (← asAddr (.pointer (some ⟨b, 0, none⟩)))).run prog w = .ok r w ∧ K (.tuple #[r, .int .i64 e]) w := by
  refine store_all (b := b) h (xs := kcells x) (vs := kcells y) rfl rfl (kcells_one y) fun w h => ?_
  exact res_agg h (b := b) rfl (k w h)
theorem fam_ret (h : sat E w H) {b : Nat} {x y : Fam} {e : Int} [Own H b (.cells (fcells x).toArray 35 (0, 0)) R] (k : ∀ w', sat E w' (pts b (.cells (fcells y).toArray 35 (0, 0)) * R) → K (.tuple #[fv y, .int .i64 e]) w') :
    efu prog (Instr.storeAt 35 (.pointer (some ⟨b, 0, none⟩)) (fv y)) w fun _ w => ∃ r, (do loadVar 35 (← asAddr (.pointer (some ⟨b, 0, none⟩)))).run prog w = .ok r w ∧ K (.tuple #[r, .int .i64 e]) w := by
  refine store_all (b := b) h (xs := fcells x) (vs := fcells y) rfl rfl (fcells_one y) fun w h => ?_
  exact res_agg h (b := b) rfl (k w h)
theorem tok_ret1 (h : sat E w H) {b : Nat} {x y : Tok} [Own H b (.cells (kcells x).toArray 49 (0, 0)) R] (k : ∀ w', sat E w' (pts b (.cells (kcells y).toArray 49 (0, 0)) * R) → K (kv y) w') :
    efu prog (Instr.storeAt 49 (.pointer (some ⟨b, 0, none⟩)) (kv y)) w fun _ w => ∃ r, (do loadVar 49 (← asAddr (.pointer (some ⟨b, 0, none⟩)))).run prog w = .ok r w ∧ K r w := by
  refine store_all (b := b) h (xs := kcells x) (vs := kcells y) rfl rfl (kcells_one y) fun w h => ?_
  exact res_agg h (b := b) rfl (k w h)
theorem both_ret (h : sat E w H) {b c : Nat} {x x' : Fam} {y y' : Tok} {e : Int} (hp : H = pts b (.cells (fcells x).toArray 35 (0, 0)) * (pts c (.cells (kcells y).toArray 49 (0, 0)) * R)) (k : ∀ w', sat E w' R → K (.tuple #[fv x', kv y', .int .i64 e]) w') :
    efu prog (Instr.storeAt 35 (.pointer (some ⟨b, 0, none⟩)) (fv x')) w fun _ w => efu prog (Instr.storeAt 49 (.pointer (some ⟨c, 0, none⟩)) (kv y')) w fun _ w =>
    ∃ r, (do loadVar 35 (← asAddr (.pointer (some ⟨b, 0, none⟩)))).run prog w = .ok r w ∧ ∃ r2, (do loadVar 49 (← asAddr (.pointer (some ⟨c, 0, none⟩)))).run prog w = .ok r2 w ∧ K (.tuple #[r, r2, .int .i64 e]) w := by
  have h := h.perm hp
  refine store_all (b := b) h (xs := fcells x) (vs := fcells x') rfl rfl (fcells_one x') fun w h => ?_
  refine store_all (b := c) h (xs := kcells y) (vs := kcells y') rfl rfl (kcells_one y') fun w h => ?_
  refine res_agg (P := prog) (t := 35) (K := fun r w => ∃ r2, (do loadVar 49 (← asAddr (.pointer (some ⟨c, 0, none⟩)))).run prog w = .ok r2 w ∧ K (.tuple #[r, r2, .int .i64 e]) w) h (b := b) (xs := fcells x') rfl ?_
  exact res_agg (P := prog) (t := 49) (K := fun r2 w => K (.tuple #[fv x', r2, .int .i64 e]) w) h (b := c) (xs := kcells y') rfl (k w h.drop.drop)
/-! The store. -/
structure St where
  fn : Int
  kn : Int
  noted : Int
  f : List Fam
  k : List Tok
abbrev fmp (l : List Fam) : List (Int × Value) := mpG Fam.id fv l
abbrev kmp (l : List Tok) : List (Int × Value) := mpG Tok.id kv l
def stcells (s : St) (b c : Nat) : List Value := [.int .i64 s.fn, .map (some b), .int .i64 s.kn, .map (some c), .int .i64 s.noted]
abbrev sI (p : Nat) (s : St) (b c : Nat) (R : HP) : HP := pts p (.cells (stcells s b c).toArray 67 (0, 0)) * (omap b (fmp s.f) * (omap c (kmp s.k) * R))
theorem sI_in {p b c : Nat} {s : St} (h : sat E w (X * sI p s b c R)) : sat E w (sI p s b c (X * R)) := by
  unfold sI at h ⊢
  exact h.perm (by ac_rfl)
theorem sI_out {p b c : Nat} {s : St} (h : sat E w (sI p s b c (X * R))) : sat E w (X * sI p s b c R) := by
  unfold sI at h ⊢
  exact h.perm (by ac_rfl)
def newS : St := ⟨1, 1, 0, [], []⟩
structure OkF (s : St) (x : Fam) : Prop where
  id1 : 1 ≤ x.id
  id2 : x.id < s.fn
  n1 : 1 ≤ x.nx
  n2 : x.nx ≤ 1099511627776
structure OkK (s : St) (x : Tok) : Prop where
  id1 : 1 ≤ x.id
  id2 : x.id < s.kn
  t0 : 0 ≤ x.til
  t1 : x.til ≤ 1099511627776
structure OkS (s : St) (m : Nat) : Prop where
  f1 : 1 ≤ s.fn
  f2 : s.fn ≤ m + 1
  k1 : 1 ≤ s.kn
  k2 : s.kn ≤ m + 1
  t0 : 0 ≤ s.noted
  t1 : s.noted ≤ 1099511627776
  fr : Rise Fam.id s.f
  kr : Rise Tok.id s.k
  fa : ∀ x ∈ s.f, OkF s x
  ka : ∀ x ∈ s.k, OkK s x
  ff : s.f.length ≤ m
  kf : s.k.length ≤ m
theorem ok_newS : OkS newS 0 := ⟨by simp [newS], by simp [newS], by simp [newS], by simp [newS], by simp [newS], by simp [newS], List.Pairwise.nil, List.Pairwise.nil, by simp [newS], by simp [newS], by simp [newS], by simp [newS]⟩
theorem New_spec (h : sat E w R) (k : ∀ p b c w', sat E w' (sI p newS b c R) → K (.pointer (some ⟨p, 0, none⟩)) w') : Calls prog 6 #[] w (Ret K) := by
  refine c6 ?_
  unfold B6
  refine make_map h fun b w h => ?_
  refine pvv_of (v := .agg #[.int .i64 1, .map (some b)]) (fun w => by kernel_rfl) ?_
  refine make_map h fun c w h => ?_
  refine pvv_of (v := .agg #[.int .i64 1, .map (some c)]) (fun w => by kernel_rfl) ?_
  refine pvv_of (v := .agg (stcells newS b c).toArray) (fun w => by kernel_rfl) ?_
  refine box_sl h fun p w h => k p b c w ?_
  have h : sat E w (pts p (.cells (stcells newS b c).toArray 67 (0, 0)) * (omap c [] * (omap b [] * R))) := h
  unfold sI
  exact h.perm (by rw [show fmp newS.f = [] from rfl, show kmp newS.k = [] from rfl]; ac_rfl)
def timeE (s : St) (now : Int) : Int := if now < 0 ∨ 1099511627776 < now then 2 else if now < s.noted then 9 else 0
theorem time_spec {p b c : Nat} {s : St} {now : Int} (h : sat E w H) [Has H p (.cells (stcells s b c).toArray 67 (0, 0))] (k : K (.int .i64 (timeE s now)) w) : Calls prog 47 #[.pointer (some ⟨p, 0, none⟩), .int .i64 now] w (Ret K) := by
  refine c47 ?_
  unfold B47
  simp only [↓o_eqPtr, Option.isNone_some, ↓cd_false]
  rw [o_lss]
  unfold timeE at k
  by_cases h1 : now < 0
  · rw [if_pos (.inl h1)] at k
    simp only [h1, ↓o_nil, ↓o_field, ↓o_add, ↓o_sub, ↓o_mul, ↓o_lss, ↓o_leq, ↓o_gtr, ↓o_geq, ↓o_not, ↓o_pick, ↓o_eqInt, ↓o_neInt, ↓o_eqBool, ↓o_neBool, ↓o_eqPtr, ↓o_nePtr, ↓o_eqPtr', ↓o_eqSl, ↓o_neSl, ↓o_eqStr, ↓o_neStr, ↓o_len, ↓o_lenS, ↓o_min, ↓o_max, ↓o_extract, ↓o_convInt, ↓cd_true, ↓cd_false, ↓gate_tt, ↓gate_ff, ↓gate_tf, ↓gate_ft, ↓gate_undef, ↓o_bind, ↓stay_v, ↓pop_cons, ↓fin_nil, Option.isNone_none, Option.isNone_some, Bool.not_true, Bool.not_false, Nat.zero_add, decide_true, decide_false, if_true, if_false, Bool.false_eq_true, ↓reduceIte]
    exact k
  · by_cases h2 : 1099511627776 < now
    · rw [if_pos (.inr h2)] at k
      simp only [h1, h2, ↓o_nil, ↓o_field, ↓o_add, ↓o_sub, ↓o_mul, ↓o_lss, ↓o_leq, ↓o_gtr, ↓o_geq, ↓o_not, ↓o_pick, ↓o_eqInt, ↓o_neInt, ↓o_eqBool, ↓o_neBool, ↓o_eqPtr, ↓o_nePtr, ↓o_eqPtr', ↓o_eqSl, ↓o_neSl, ↓o_eqStr, ↓o_neStr, ↓o_len, ↓o_lenS, ↓o_min, ↓o_max, ↓o_extract, ↓o_convInt, ↓cd_true, ↓cd_false, ↓gate_tt, ↓gate_ff, ↓gate_tf, ↓gate_ft, ↓gate_undef, ↓o_bind, ↓stay_v, ↓pop_cons, ↓fin_nil, Option.isNone_none, Option.isNone_some, Bool.not_true, Bool.not_false, Nat.zero_add, decide_true, decide_false, if_true, if_false, Bool.false_eq_true, ↓reduceIte]
      exact k
    · rw [if_neg (by omega)] at k
      simp only [h1, h2, ↓o_nil, ↓o_field, ↓o_add, ↓o_sub, ↓o_mul, ↓o_lss, ↓o_leq, ↓o_gtr, ↓o_geq, ↓o_not, ↓o_pick, ↓o_eqInt, ↓o_neInt, ↓o_eqBool, ↓o_neBool, ↓o_eqPtr, ↓o_nePtr, ↓o_eqPtr', ↓o_eqSl, ↓o_neSl, ↓o_eqStr, ↓o_neStr, ↓o_len, ↓o_lenS, ↓o_min, ↓o_max, ↓o_extract, ↓o_convInt, ↓cd_true, ↓cd_false, ↓gate_tt, ↓gate_ff, ↓gate_tf, ↓gate_ft, ↓gate_undef, ↓o_bind, ↓stay_v, ↓pop_cons, ↓fin_nil, Option.isNone_none, Option.isNone_some, Bool.not_true, Bool.not_false, Nat.zero_add, decide_true, decide_false, if_true, if_false, Bool.false_eq_true, ↓reduceIte]
      refine ld_in (b := p) (v := .int .i64 s.noted) h rfl ?_
      rw [o_lss]
      by_cases h3 : now < s.noted
      · rw [if_pos h3] at k
        rw [decide_eq_true h3, cd_true]
        exact k
      · rw [if_neg h3] at k
        rw [decide_eq_false h3, cd_false]
        exact k
theorem time_ok {s : St} {now : Int} (h : timeE s now = 0) : 0 ≤ now ∧ now ≤ 1099511627776 ∧ s.noted ≤ now := by
  unfold timeE at h
  split at h
  · cases h
  · split at h
    · cases h
    · omega
def rowF (s : St) (b : Nat) : List Value := [.int .i64 s.fn, .map (some b)]
def rowK (s : St) (c : Nat) : List Value := [.int .i64 s.kn, .map (some c)]
theorem fullF_spec (h : sat E w H) {s : St} {b : Nat} (k : ∀ w', sat E w' H → K (.bool (decide (1099511627776 < s.fn))) w') : Calls prog 49 #[.agg (rowF s b).toArray] w (Ret K) := by
  refine c49 ?_
  unfold B49
  refine box_sl h fun rb w h => ?_
  have h : sat E w (pts rb (.cells (rowF s b).toArray 62 (0, 0)) * H) := h
  simp only [↓o_nil, ↓o_field, ↓o_add, ↓o_sub, ↓o_mul, ↓o_lss, ↓o_leq, ↓o_gtr, ↓o_geq, ↓o_not, ↓o_pick, ↓o_eqInt, ↓o_neInt, ↓o_eqBool, ↓o_neBool, ↓o_eqPtr, ↓o_nePtr, ↓o_eqPtr', ↓o_eqSl, ↓o_neSl, ↓o_eqStr, ↓o_neStr, ↓o_len, ↓o_lenS, ↓o_min, ↓o_max, ↓o_extract, ↓o_convInt, ↓cd_true, ↓cd_false, ↓gate_tt, ↓gate_ff, ↓gate_tf, ↓gate_ft, ↓gate_undef, ↓o_bind, ↓stay_v, ↓pop_cons, ↓fin_nil, Option.isNone_none, Option.isNone_some, Bool.not_true, Bool.not_false, Nat.zero_add, decide_true, decide_false, if_true, if_false, Bool.false_eq_true, ↓reduceIte]
  refine ld_in (b := rb) (v := .int .i64 s.fn) h rfl ?_
  rw [o_gtr]
  exact k w h.drop
theorem fullK_spec (h : sat E w H) {s : St} {c : Nat} (k : ∀ w', sat E w' H → K (.bool (decide (1099511627776 < s.kn))) w') : Calls prog 50 #[.agg (rowK s c).toArray] w (Ret K) := by
  refine c50 ?_
  unfold B50
  refine box_sl h fun rb w h => ?_
  have h : sat E w (pts rb (.cells (rowK s c).toArray 65 (0, 0)) * H) := h
  simp only [↓o_nil, ↓o_field, ↓o_add, ↓o_sub, ↓o_mul, ↓o_lss, ↓o_leq, ↓o_gtr, ↓o_geq, ↓o_not, ↓o_pick, ↓o_eqInt, ↓o_neInt, ↓o_eqBool, ↓o_neBool, ↓o_eqPtr, ↓o_nePtr, ↓o_eqPtr', ↓o_eqSl, ↓o_neSl, ↓o_eqStr, ↓o_neStr, ↓o_len, ↓o_lenS, ↓o_min, ↓o_max, ↓o_extract, ↓o_convInt, ↓cd_true, ↓cd_false, ↓gate_tt, ↓gate_ff, ↓gate_tf, ↓gate_ft, ↓gate_undef, ↓o_bind, ↓stay_v, ↓pop_cons, ↓fin_nil, Option.isNone_none, Option.isNone_some, Bool.not_true, Bool.not_false, Nat.zero_add, decide_true, decide_false, if_true, if_false, Bool.false_eq_true, ↓reduceIte]
  refine ld_in (b := rb) (v := .int .i64 s.kn) h rfl ?_
  rw [o_gtr]
  exact k w h.drop
def findF (s : St) (id : Int) : Fam × Int :=
  if id < 1 ∨ s.fn ≤ id then (zeroF, 4) else match findG Fam.id s.f id with | some x => (x, 0) | none => (zeroF, 12)
def findK (s : St) (id : Int) : Tok × Int :=
  if id < 1 ∨ s.kn ≤ id then (zeroK, 4) else match findG Tok.id s.k id with | some x => (x, 0) | none => (zeroK, 12)
theorem findF_spec {p b c : Nat} {s : St} {id : Int} (h : sat E w (sI p s b c R)) (k : ∀ w', sat E w' (sI p s b c R) → K (.tuple #[fv (findF s id).1, .int .i64 (findF s id).2]) w') : Calls prog 37 #[.agg (rowF s b).toArray, .int .i64 id] w (Ret K) := by
  refine c37 ?_
  unfold B37
  refine box_sl h fun rb w h => ?_
  have h : sat E w (pts rb (.cells (rowF s b).toArray 62 (0, 0)) * sI p s b c R) := h
  refine fam_new h fun xb w h => ?_
  rw [o_lss]
  unfold findF at k
  by_cases h1 : id < 1
  · rw [if_pos (.inl h1)] at k
    simp only [h1, ↓o_nil, ↓o_field, ↓o_add, ↓o_sub, ↓o_mul, ↓o_lss, ↓o_leq, ↓o_gtr, ↓o_geq, ↓o_not, ↓o_pick, ↓o_eqInt, ↓o_neInt, ↓o_eqBool, ↓o_neBool, ↓o_eqPtr, ↓o_nePtr, ↓o_eqPtr', ↓o_eqSl, ↓o_neSl, ↓o_eqStr, ↓o_neStr, ↓o_len, ↓o_lenS, ↓o_min, ↓o_max, ↓o_extract, ↓o_convInt, ↓cd_true, ↓cd_false, ↓gate_tt, ↓gate_ff, ↓gate_tf, ↓gate_ft, ↓gate_undef, ↓o_bind, ↓stay_v, ↓pop_cons, ↓fin_nil, Option.isNone_none, Option.isNone_some, Bool.not_true, Bool.not_false, Nat.zero_add, decide_true, decide_false, if_true, if_false, Bool.false_eq_true, ↓reduceIte]
    refine ld_agg (b := xb) (xs := fcells zeroF) h rfl ?_
    exact fam_ret (b := xb) (x := zeroF) (y := zeroF) h fun w h => k w h.drop.drop
  simp only [h1, ↓o_nil, ↓o_field, ↓o_add, ↓o_sub, ↓o_mul, ↓o_lss, ↓o_leq, ↓o_gtr, ↓o_geq, ↓o_not, ↓o_pick, ↓o_eqInt, ↓o_neInt, ↓o_eqBool, ↓o_neBool, ↓o_eqPtr, ↓o_nePtr, ↓o_eqPtr', ↓o_eqSl, ↓o_neSl, ↓o_eqStr, ↓o_neStr, ↓o_len, ↓o_lenS, ↓o_min, ↓o_max, ↓o_extract, ↓o_convInt, ↓cd_true, ↓cd_false, ↓gate_tt, ↓gate_ff, ↓gate_tf, ↓gate_ft, ↓gate_undef, ↓o_bind, ↓stay_v, ↓pop_cons, ↓fin_nil, Option.isNone_none, Option.isNone_some, Bool.not_true, Bool.not_false, Nat.zero_add, decide_true, decide_false, if_true, if_false, Bool.false_eq_true, ↓reduceIte]
  refine ld_in (b := rb) (v := .int .i64 s.fn) h rfl ?_
  try simp only [↓o_nil, ↓o_field, ↓o_add, ↓o_sub, ↓o_mul, ↓o_lss, ↓o_leq, ↓o_gtr, ↓o_geq, ↓o_not, ↓o_pick, ↓o_eqInt, ↓o_neInt, ↓o_eqBool, ↓o_neBool, ↓o_eqPtr, ↓o_nePtr, ↓o_eqPtr', ↓o_eqSl, ↓o_neSl, ↓o_eqStr, ↓o_neStr, ↓o_len, ↓o_lenS, ↓o_min, ↓o_max, ↓o_extract, ↓o_convInt, ↓cd_true, ↓cd_false, ↓gate_tt, ↓gate_ff, ↓gate_tf, ↓gate_ft, ↓gate_undef, ↓o_bind, ↓stay_v, ↓pop_cons, ↓fin_nil, Option.isNone_none, Option.isNone_some, Bool.not_true, Bool.not_false, Nat.zero_add, decide_true, decide_false, if_true, if_false, Bool.false_eq_true, ↓reduceIte]
  by_cases h2 : s.fn ≤ id
  · rw [if_pos (.inr h2)] at k
    simp only [h2, ↓o_nil, ↓o_field, ↓o_add, ↓o_sub, ↓o_mul, ↓o_lss, ↓o_leq, ↓o_gtr, ↓o_geq, ↓o_not, ↓o_pick, ↓o_eqInt, ↓o_neInt, ↓o_eqBool, ↓o_neBool, ↓o_eqPtr, ↓o_nePtr, ↓o_eqPtr', ↓o_eqSl, ↓o_neSl, ↓o_eqStr, ↓o_neStr, ↓o_len, ↓o_lenS, ↓o_min, ↓o_max, ↓o_extract, ↓o_convInt, ↓cd_true, ↓cd_false, ↓gate_tt, ↓gate_ff, ↓gate_tf, ↓gate_ft, ↓gate_undef, ↓o_bind, ↓stay_v, ↓pop_cons, ↓fin_nil, Option.isNone_none, Option.isNone_some, Bool.not_true, Bool.not_false, Nat.zero_add, decide_true, decide_false, if_true, if_false, Bool.false_eq_true, ↓reduceIte]
    refine ld_agg (b := xb) (xs := fcells zeroF) h rfl ?_
    exact fam_ret (b := xb) (x := zeroF) (y := zeroF) h fun w h => k w h.drop.drop
  rw [if_neg (by omega)] at k
  simp only [h2, ↓o_nil, ↓o_field, ↓o_add, ↓o_sub, ↓o_mul, ↓o_lss, ↓o_leq, ↓o_gtr, ↓o_geq, ↓o_not, ↓o_pick, ↓o_eqInt, ↓o_neInt, ↓o_eqBool, ↓o_neBool, ↓o_eqPtr, ↓o_nePtr, ↓o_eqPtr', ↓o_eqSl, ↓o_neSl, ↓o_eqStr, ↓o_neStr, ↓o_len, ↓o_lenS, ↓o_min, ↓o_max, ↓o_extract, ↓o_convInt, ↓cd_true, ↓cd_false, ↓gate_tt, ↓gate_ff, ↓gate_tf, ↓gate_ft, ↓gate_undef, ↓o_bind, ↓stay_v, ↓pop_cons, ↓fin_nil, Option.isNone_none, Option.isNone_some, Bool.not_true, Bool.not_false, Nat.zero_add, decide_true, decide_false, if_true, if_false, Bool.false_eq_true, ↓reduceIte]
  refine ld_in (b := rb) (v := .map (some b)) h rfl ?_
  refine look_ld (b := b) h ?_
  rw [lookM_mpG]
  cases hf : findG Fam.id s.f id with
  | none =>
    rw [hf] at k
    simp only [Option.map_none]
    rw [o_extract, o_extract]
    refine store_all (b := xb) h (xs := fcells zeroF) (vs := fcells zeroF) rfl rfl (fcells_one zeroF) fun w h => ?_
    rw [o_not, Bool.not_false, cd_true]
    refine ld_agg (b := xb) (xs := fcells zeroF) h rfl ?_
    exact fam_ret (b := xb) (x := zeroF) (y := zeroF) h fun w h => k w h.drop.drop
  | some x =>
    rw [hf] at k
    simp only [Option.map_some]
    rw [o_extract, o_extract]
    refine store_all (b := xb) h (xs := fcells zeroF) (vs := fcells x) rfl rfl (fcells_one x) fun w h => ?_
    rw [o_not, Bool.not_true, cd_false]
    refine ld_agg (b := xb) (xs := fcells x) h rfl ?_
    exact fam_ret (b := xb) (x := x) (y := x) h fun w h => k w h.drop.drop
theorem findK_spec {p b c : Nat} {s : St} {id : Int} (h : sat E w (sI p s b c R)) (k : ∀ w', sat E w' (sI p s b c R) → K (.tuple #[kv (findK s id).1, .int .i64 (findK s id).2]) w') : Calls prog 53 #[.agg (rowK s c).toArray, .int .i64 id] w (Ret K) := by
  refine c53 ?_
  unfold B53
  refine box_sl h fun rb w h => ?_
  have h : sat E w (pts rb (.cells (rowK s c).toArray 65 (0, 0)) * sI p s b c R) := h
  refine tok_new h fun xb w h => ?_
  rw [o_lss]
  unfold findK at k
  by_cases h1 : id < 1
  · rw [if_pos (.inl h1)] at k
    simp only [h1, ↓o_nil, ↓o_field, ↓o_add, ↓o_sub, ↓o_mul, ↓o_lss, ↓o_leq, ↓o_gtr, ↓o_geq, ↓o_not, ↓o_pick, ↓o_eqInt, ↓o_neInt, ↓o_eqBool, ↓o_neBool, ↓o_eqPtr, ↓o_nePtr, ↓o_eqPtr', ↓o_eqSl, ↓o_neSl, ↓o_eqStr, ↓o_neStr, ↓o_len, ↓o_lenS, ↓o_min, ↓o_max, ↓o_extract, ↓o_convInt, ↓cd_true, ↓cd_false, ↓gate_tt, ↓gate_ff, ↓gate_tf, ↓gate_ft, ↓gate_undef, ↓o_bind, ↓stay_v, ↓pop_cons, ↓fin_nil, Option.isNone_none, Option.isNone_some, Bool.not_true, Bool.not_false, Nat.zero_add, decide_true, decide_false, if_true, if_false, Bool.false_eq_true, ↓reduceIte]
    refine ld_agg (b := xb) (xs := kcells zeroK) h rfl ?_
    exact tok_ret (b := xb) (x := zeroK) (y := zeroK) h fun w h => k w h.drop.drop
  simp only [h1, ↓o_nil, ↓o_field, ↓o_add, ↓o_sub, ↓o_mul, ↓o_lss, ↓o_leq, ↓o_gtr, ↓o_geq, ↓o_not, ↓o_pick, ↓o_eqInt, ↓o_neInt, ↓o_eqBool, ↓o_neBool, ↓o_eqPtr, ↓o_nePtr, ↓o_eqPtr', ↓o_eqSl, ↓o_neSl, ↓o_eqStr, ↓o_neStr, ↓o_len, ↓o_lenS, ↓o_min, ↓o_max, ↓o_extract, ↓o_convInt, ↓cd_true, ↓cd_false, ↓gate_tt, ↓gate_ff, ↓gate_tf, ↓gate_ft, ↓gate_undef, ↓o_bind, ↓stay_v, ↓pop_cons, ↓fin_nil, Option.isNone_none, Option.isNone_some, Bool.not_true, Bool.not_false, Nat.zero_add, decide_true, decide_false, if_true, if_false, Bool.false_eq_true, ↓reduceIte]
  refine ld_in (b := rb) (v := .int .i64 s.kn) h rfl ?_
  try simp only [↓o_nil, ↓o_field, ↓o_add, ↓o_sub, ↓o_mul, ↓o_lss, ↓o_leq, ↓o_gtr, ↓o_geq, ↓o_not, ↓o_pick, ↓o_eqInt, ↓o_neInt, ↓o_eqBool, ↓o_neBool, ↓o_eqPtr, ↓o_nePtr, ↓o_eqPtr', ↓o_eqSl, ↓o_neSl, ↓o_eqStr, ↓o_neStr, ↓o_len, ↓o_lenS, ↓o_min, ↓o_max, ↓o_extract, ↓o_convInt, ↓cd_true, ↓cd_false, ↓gate_tt, ↓gate_ff, ↓gate_tf, ↓gate_ft, ↓gate_undef, ↓o_bind, ↓stay_v, ↓pop_cons, ↓fin_nil, Option.isNone_none, Option.isNone_some, Bool.not_true, Bool.not_false, Nat.zero_add, decide_true, decide_false, if_true, if_false, Bool.false_eq_true, ↓reduceIte]
  by_cases h2 : s.kn ≤ id
  · rw [if_pos (.inr h2)] at k
    simp only [h2, ↓o_nil, ↓o_field, ↓o_add, ↓o_sub, ↓o_mul, ↓o_lss, ↓o_leq, ↓o_gtr, ↓o_geq, ↓o_not, ↓o_pick, ↓o_eqInt, ↓o_neInt, ↓o_eqBool, ↓o_neBool, ↓o_eqPtr, ↓o_nePtr, ↓o_eqPtr', ↓o_eqSl, ↓o_neSl, ↓o_eqStr, ↓o_neStr, ↓o_len, ↓o_lenS, ↓o_min, ↓o_max, ↓o_extract, ↓o_convInt, ↓cd_true, ↓cd_false, ↓gate_tt, ↓gate_ff, ↓gate_tf, ↓gate_ft, ↓gate_undef, ↓o_bind, ↓stay_v, ↓pop_cons, ↓fin_nil, Option.isNone_none, Option.isNone_some, Bool.not_true, Bool.not_false, Nat.zero_add, decide_true, decide_false, if_true, if_false, Bool.false_eq_true, ↓reduceIte]
    refine ld_agg (b := xb) (xs := kcells zeroK) h rfl ?_
    exact tok_ret (b := xb) (x := zeroK) (y := zeroK) h fun w h => k w h.drop.drop
  rw [if_neg (by omega)] at k
  simp only [h2, ↓o_nil, ↓o_field, ↓o_add, ↓o_sub, ↓o_mul, ↓o_lss, ↓o_leq, ↓o_gtr, ↓o_geq, ↓o_not, ↓o_pick, ↓o_eqInt, ↓o_neInt, ↓o_eqBool, ↓o_neBool, ↓o_eqPtr, ↓o_nePtr, ↓o_eqPtr', ↓o_eqSl, ↓o_neSl, ↓o_eqStr, ↓o_neStr, ↓o_len, ↓o_lenS, ↓o_min, ↓o_max, ↓o_extract, ↓o_convInt, ↓cd_true, ↓cd_false, ↓gate_tt, ↓gate_ff, ↓gate_tf, ↓gate_ft, ↓gate_undef, ↓o_bind, ↓stay_v, ↓pop_cons, ↓fin_nil, Option.isNone_none, Option.isNone_some, Bool.not_true, Bool.not_false, Nat.zero_add, decide_true, decide_false, if_true, if_false, Bool.false_eq_true, ↓reduceIte]
  refine ld_in (b := rb) (v := .map (some c)) h rfl ?_
  refine look_ld (b := c) h ?_
  rw [lookM_mpG]
  cases hf : findG Tok.id s.k id with
  | none =>
    rw [hf] at k
    simp only [Option.map_none]
    rw [o_extract, o_extract]
    refine store_all (b := xb) h (xs := kcells zeroK) (vs := kcells zeroK) rfl rfl (kcells_one zeroK) fun w h => ?_
    rw [o_not, Bool.not_false, cd_true]
    refine ld_agg (b := xb) (xs := kcells zeroK) h rfl ?_
    exact tok_ret (b := xb) (x := zeroK) (y := zeroK) h fun w h => k w h.drop.drop
  | some x =>
    rw [hf] at k
    simp only [Option.map_some]
    rw [o_extract, o_extract]
    refine store_all (b := xb) h (xs := kcells zeroK) (vs := kcells x) rfl rfl (kcells_one x) fun w h => ?_
    rw [o_not, Bool.not_true, cd_false]
    refine ld_agg (b := xb) (xs := kcells x) h rfl ?_
    exact tok_ret (b := xb) (x := x) (y := x) h fun w h => k w h.drop.drop
end Go.Proofs.YtbcimkjgpplcpaaGreatDoor.T

/-
  Families of a session; tokens cut down; a family dropped; a fresh token.
-/
set_option linter.all false
set_option maxRecDepth 100000
namespace Go.Proofs.YtbcimkjgpplcpaaGreatDoor.T
open Go Hold
variable {E : World0} {w : World} {H R X : HP} {K : Value → World → Prop}
theorem o_andNotB {P : Program} {t : TypeId} {a b : UInt8} : pvv P (binOp .andNot t (bv a) (bv b)) w K = K (bv (a &&& ~~~b)) w := pvv_eq fun _ => by
  simp only [binOp, Op.intBits, bv, IntKind.bits, ofInt8]
  simp
  exact (wrapB (a &&& ~~~b)).trans (by simp)
theorem allF_spec {b : Nat} {l : List Fam} {n : Int} {f : Value} {pr : Fam → Bool} (hr : Rise Fam.id l) (hl : l.length ≤ 1000000) (h : sat E w (omap b (fmp l) * H))
    (hf : ∀ (x : Fam) (X : HP) (w : World) (K' : Value → World → Prop), x ∈ l → sat E w (X * (omap b (fmp l) * H)) → (∀ w', sat E w' (X * (omap b (fmp l) * H)) → K' (.bool (pr x)) w') → ef prog (oCall f #[fv x]) w K')
    (k : ∀ u w', sat E w' (osl 35 5 u (l.filter pr).length (fvs (l.filter pr)) * (omap b (fmp l) * H)) → K u w') : Calls prog 41 #[.agg #[.int .i64 n, .map (some b)], f] w (Ret K) := by
  refine c41 ?_
  unfold B41
  refine box_sl h fun rb w h => ?_
  have h : sat E w (pts rb (.cells [Value.int .i64 n, .map (some b)].toArray 62 (0, 0)) * (omap b (fmp l) * H)) := h
  simp only [↓o_nil, ↓o_field, ↓o_add, ↓o_sub, ↓o_mul, ↓o_lss, ↓o_leq, ↓o_gtr, ↓o_geq, ↓o_not, ↓o_pick, ↓o_eqInt, ↓o_neInt, ↓o_eqBool, ↓o_neBool, ↓o_eqPtr, ↓o_nePtr, ↓o_eqPtr', ↓o_eqSl, ↓o_neSl, ↓o_eqStr, ↓o_neStr, ↓o_len, ↓o_lenS, ↓o_min, ↓o_max, ↓o_extract, ↓o_convInt, ↓cd_true, ↓cd_false, ↓gate_tt, ↓gate_ff, ↓gate_tf, ↓gate_ft, ↓gate_undef, ↓o_bind, ↓stay_v, ↓pop_cons, ↓fin_nil, Option.isNone_none, Option.isNone_some, Bool.not_true, Bool.not_false, Nat.zero_add, decide_true, decide_false, if_true, if_false, Bool.false_eq_true, ↓reduceIte]
  refine ld_in (b := rb) (v := .map (some b)) h rfl ?_
  refine KF.SortedKeys_spec (l := fmp l) (by rw [mpG_length]; omega) (h.perm (show _ = omap b (fmp l) * (pts rb (.cells [Value.int .i64 n, .map (some b)].toArray 62 (0, 0)) * H) by ac_rfl)) fun u ss w hp hs h => ?_
  have hss : ss = l.map (·.id) := by
    refine KF.sorted_unique (by rw [← mpG_keys (val := fv)]; exact hp) hs ?_
    rw [List.pairwise_map]
    exact hr
  subst hss
  rw [List.length_map] at h
  have h : sat E w (osl 3 1 u l.length ((l.map (·.id)).map iv) * (pts rb (.cells [Value.int .i64 n, .map (some b)].toArray 62 (0, 0)) * (omap b (fmp l) * H))) := h.perm (by ac_rfl)
  obtain ⟨ua, uc, rfl, huc, _, hpos⟩ := osl_shape h
  rw [o_len]
  refine lp_nat (fun q σ w => ∃ (i : Nat) (out : Value), σ = [out, .int .i64 (i : Int)] ∧ q = l.length - i ∧ i ≤ l.length ∧
      sat E w (osl 35 5 out ((l.take i).filter pr).length (fvs ((l.take i).filter pr)) * (osl 3 1 (.slice ua l.length uc) l.length ((l.map (·.id)).map iv) * (pts rb (.cells [Value.int .i64 n, .map (some b)].toArray 62 (0, 0)) * (omap b (fmp l) * H))))) l.length
    ⟨0, _, rfl, by omega, by omega, by simpa [fvs] using osl_nil h 35 5⟩ ?_
  clear h
  rintro q σ w again ⟨i, out, rfl, rfl, hi, h⟩ hag
  have hlf : ((l.take i).filter pr).length ≤ i := Nat.le_trans (List.length_filter_le _ _) (by simp; omega)
  rw [pop_cons, pop_cons, fin_nil, o_lss]
  refine cd_dec (fun hlt => ?_) (fun hge => ?_)
  · have hi1 : i < l.length := by omega
    have hx : l[i]? = some l[i] := List.getElem?_eq_getElem hi1
    have hmem : l[i] ∈ l := List.getElem_mem hi1
    have htk : l.take (i + 1) = l.take i ++ [l[i]] := List.take_succ_eq_append_getElem hi1
    generalize l[i] = x at hx hmem htk
    have hlook : lookM (fmp l) x.id = some (fv x) := by rw [lookM_mpG, findG_at hr hx]; rfl
    obtain ⟨ub, hub⟩ := hpos (by omega)
    subst hub
    refine jn_cut (fun σ w => ∃ out', σ = [out'] ∧ sat E w (osl 35 5 out' ((l.take (i + 1)).filter pr).length (fvs ((l.take (i + 1)).filter pr)) * (osl 3 1 (.slice (some ⟨ub, 0, none⟩) l.length uc) l.length ((l.map (·.id)).map iv) * (pts rb (.cells [Value.int .i64 n, .map (some b)].toArray 62 (0, 0)) * (omap b (fmp l) * H))))) (fun kj hkj => ?_) ?_
    · rw [o_index (by omega) (by omega)]
      have hrd : Rds (osl 35 5 out ((l.take i).filter pr).length (fvs ((l.take i).filter pr)) * (osl 3 1 (.slice (some ⟨ub, 0, none⟩) l.length uc) l.length ((l.map (·.id)).map iv) * (pts rb (.cells [Value.int .i64 n, .map (some b)].toArray 62 (0, 0)) * (omap b (fmp l) * H)))) (.slice (some ⟨ub, 0, none⟩) l.length uc) l.length ((l.map (·.id)).map iv) := Rds.osl.left.right
      refine ld_rd h hrd i (by simp) (v := .int .i64 x.id) (by rw [List.getElem?_map, List.getElem?_map, hx]; rfl) ?_
      try simp only [↓o_nil, ↓o_field, ↓o_add, ↓o_sub, ↓o_mul, ↓o_lss, ↓o_leq, ↓o_gtr, ↓o_geq, ↓o_not, ↓o_pick, ↓o_eqInt, ↓o_neInt, ↓o_eqBool, ↓o_neBool, ↓o_eqPtr, ↓o_nePtr, ↓o_eqPtr', ↓o_eqSl, ↓o_neSl, ↓o_eqStr, ↓o_neStr, ↓o_len, ↓o_lenS, ↓o_min, ↓o_max, ↓o_extract, ↓o_convInt, ↓cd_true, ↓cd_false, ↓gate_tt, ↓gate_ff, ↓gate_tf, ↓gate_ft, ↓gate_undef, ↓o_bind, ↓stay_v, ↓pop_cons, ↓fin_nil, Option.isNone_none, Option.isNone_some, Bool.not_true, Bool.not_false, Nat.zero_add, decide_true, decide_false, if_true, if_false, Bool.false_eq_true, ↓reduceIte]
      refine ld_in (b := rb) (v := .map (some b)) h rfl ?_
      refine look1_ld (b := b) h ?_
      rw [hlook, Option.getD_some]
      rw [← star_assoc, ← star_assoc] at h
      refine hf x _ w _ hmem h fun w h => ?_
      rw [star_assoc, star_assoc] at h
      by_cases hpx : pr x = true
      · rw [hpx, cd_true]
        try simp only [↓o_nil, ↓o_field, ↓o_add, ↓o_sub, ↓o_mul, ↓o_lss, ↓o_leq, ↓o_gtr, ↓o_geq, ↓o_not, ↓o_pick, ↓o_eqInt, ↓o_neInt, ↓o_eqBool, ↓o_neBool, ↓o_eqPtr, ↓o_nePtr, ↓o_eqPtr', ↓o_eqSl, ↓o_neSl, ↓o_eqStr, ↓o_neStr, ↓o_len, ↓o_lenS, ↓o_min, ↓o_max, ↓o_extract, ↓o_convInt, ↓cd_true, ↓cd_false, ↓gate_tt, ↓gate_ff, ↓gate_tf, ↓gate_ft, ↓gate_undef, ↓o_bind, ↓stay_v, ↓pop_cons, ↓fin_nil, Option.isNone_none, Option.isNone_some, Bool.not_true, Bool.not_false, Nat.zero_add, decide_true, decide_false, if_true, if_false, Bool.false_eq_true, ↓reduceIte]
        refine ld_in (b := rb) (v := .map (some b)) h rfl ?_
        refine look1_ld (b := b) h ?_
        rw [hlook, Option.getD_some]
        refine buildSlice_sl (e := 35) (cs := (fcells x).toArray) h (fun w => by kernel_rfl) fun b5 w h => ?_
        refine append_sl (v := out) h (fcells x) (k' := 1) rfl (.inr ⟨b5, 0, _, _, _, rfl, h.pts_get, fun j v hj => by simpa using hj⟩) (fcells_one x) (by omega) (by omega) fun v' w h => ?_
        refine hkj _ _ ⟨v', rfl, ?_⟩
        have h := h.lose b5
        have e9 : (l.take (i + 1)).filter pr = (l.take i).filter pr ++ [x] := by rw [htk, List.filter_append]; simp [hpx]
        rw [e9, fvs_append, List.length_append]
        simpa [fvs] using h
      · have hpx : pr x = false := by simpa using hpx
        rw [hpx, cd_false]
        refine hkj _ _ ⟨out, rfl, ?_⟩
        have e9 : (l.take (i + 1)).filter pr = (l.take i).filter pr := by rw [htk, List.filter_append]; simp [hpx]
        rw [e9]
        exact h
    · clear h
      rintro σ w ⟨out', rfl, h⟩
      rw [pop_cons, fin_nil, o_add, i64_of (by omega) (by omega)]
      exact hag (l.length - (i + 1)) _ _ (by omega) ⟨i + 1, out', rfl, rfl, by omega, h⟩
  · have hi2 : i = l.length := by omega
    subst hi2
    rw [List.take_length] at h
    refine k out w ?_
    have h := h.perm (show _ = osl 3 1 (.slice ua l.length uc) l.length ((l.map (·.id)).map iv) * (pts rb (.cells [Value.int .i64 n, .map (some b)].toArray 62 (0, 0)) * (osl 35 5 out (l.filter pr).length (fvs (l.filter pr)) * (omap b (fmp l) * H))) by ac_rfl)
    exact h.drop.drop
theorem map_erase {α β : Type} (f : α → β) : ∀ (l : List α) (j : Nat), (l.map f).eraseIdx j = (l.eraseIdx j).map f
  | [], j => by simp
  | x :: l, 0 => rfl
  | x :: l, j + 1 => by simp [map_erase f l j]
/-- maps.DeleteFunc on tokens. -/
theorem DelK_spec {c : Nat} {l : List Tok} {f : Value} {pr : Tok → Bool} (hr : Rise Tok.id l) (h : sat E w (omap c (kmp l) * H))
    (hf : ∀ (x : Tok) (X : HP) (w : World) (K' : Value → World → Prop), x ∈ l → sat E w (X * H) → (∀ w', sat E w' (X * H) → K' (.bool (pr x)) w') → ef prog (oCall f #[.int .i64 x.id, kv x]) w K')
    (k : ∀ w', sat E w' (omap c (kmp (l.filter fun x => !pr x)) * H) → K (.tuple #[]) w') : Calls prog 54 #[.map (some c), f] w (Ret K) := by
  refine c54 ?_
  unfold B54
  refine range_sl h fun i w h => ?_
  refine lp_nat (fun q σ w => ∃ (rest : List Tok), σ = [] ∧ q = rest.length ∧ (∀ x ∈ rest, x ∈ l) ∧ (rest.map Tok.id).Nodup ∧
      sat E w (omit_ i c (kmp (l.filter fun x => decide (x.id ∈ rest.map Tok.id) || !pr x)) (kmp rest) * H)) l.length ⟨l, rfl, rfl, fun x hx => hx, ?_, ?_⟩ ?_
  · refine List.Pairwise.imp ?_ (List.pairwise_map.2 hr)
    intro a b h; omega
  · rw [List.filter_eq_self.2 (fun x hx => by simp; exact .inl ⟨x, hx, rfl⟩)]
    exact h
  clear h
  rintro q σ w again ⟨rest, rfl, rfl, hin, hnd, h⟩ hag
  rw [fin_nil]
  refine next_sl (i := i) (b := c) (l := kmp (l.filter fun x => decide (x.id ∈ rest.map Tok.id) || !pr x)) (rest := kmp rest) h (fun h0 => ?_) (fun j x w hj hen h => ?_)
  · have h0 : rest = [] := by simpa [mpG] using h0
    subst h0
    rw [o_extract, cd_false]
    refine k w ?_
    have h := omit_close h
    have e : (l.filter fun x => decide (x.id ∈ ([] : List Tok).map Tok.id) || !pr x) = l.filter fun x => !pr x := by simp
    rw [e] at h
    exact h
  · rw [o_extract, cd_true]
    refine efv_of hen ?_
    rw [o_extract, o_extract]
    obtain ⟨y, hy, rfl⟩ : ∃ y, rest[j]? = some y ∧ (y.id, kv y) = x := by
      unfold kmp mpG at hj
      rw [List.getElem?_map, Option.map_eq_some_iff] at hj
      exact hj
    have hlt := (List.getElem?_eq_some_iff.1 hy).1
    have hym : y ∈ rest := List.mem_of_getElem? hy
    have her : (kmp rest).eraseIdx j = kmp (rest.eraseIdx j) := map_erase _ _ _
    rw [her] at h
    have hkeys : ∀ z ∈ l, z.id ∈ (rest.eraseIdx j).map Tok.id ↔ z.id ∈ rest.map Tok.id ∧ z.id ≠ y.id := by
      have hp := (KF.erase_perm hy).map Tok.id
      have hnd2 := (hp.nodup_iff).2 hnd
      rw [List.map_cons] at hnd2 hp
      obtain ⟨n1, n2⟩ := List.nodup_cons.1 hnd2
      intro z _
      constructor
      · intro hz
        exact ⟨hp.subset (List.mem_cons_of_mem _ hz), fun e => n1 (e ▸ hz)⟩
      · rintro ⟨hz, hne⟩
        rcases List.mem_cons.1 (hp.mem_iff.2 hz) with e | hz
        · exact absurd e hne
        · exact hz
    have hnd3 : ((rest.eraseIdx j).map Tok.id).Nodup := hnd.sublist ((List.eraseIdx_sublist _ _).map _)
    have hnot : y.id ∉ (rest.eraseIdx j).map Tok.id := fun hc => ((hkeys y (hin y hym)).1 hc).2 rfl
    have hin2 : ∀ x ∈ rest.eraseIdx j, x ∈ l := fun x hx => hin x ((List.eraseIdx_sublist _ _).subset hx)
    refine tok_in (x := y) h fun vb w h => ?_
    refine ld_agg (b := vb) (xs := kcells y) h rfl ?_
    rw [← star_assoc] at h
    refine hf y _ w _ (hin y hym) h fun w h => ?_
    rw [star_assoc] at h
    have h := h.drop
    by_cases hp : pr y = true
    · rw [hp, cd_true]
      refine delete_it (i := i) (l := kmp (l.filter fun x => decide (x.id ∈ rest.map Tok.id) || !pr x)) (rest := kmp (rest.eraseIdx j)) h (fun x hx => ?_) fun w h => ?_
      · unfold kmp mpG at hx
        obtain ⟨z, hz, rfl⟩ := List.mem_map.1 hx
        exact fun e => hnot (List.mem_map.2 ⟨z, hz, e⟩)
      · rw [delM_mpG (hr.filter _)] at h
        refine hag (rest.eraseIdx j).length _ _ (by rw [List.length_eraseIdx, if_pos hlt]; omega) ⟨rest.eraseIdx j, rfl, rfl, hin2, hnd3, ?_⟩
        have e : dropG Tok.id (l.filter fun x => decide (x.id ∈ rest.map Tok.id) || !pr x) y.id = l.filter fun x => decide (x.id ∈ (rest.eraseIdx j).map Tok.id) || !pr x := by
          unfold dropG
          rw [List.filter_filter]
          refine List.filter_congr fun z hz => ?_
          have hk := hkeys z hz
          by_cases hzy : z.id = y.id
          · have : z = y := rise_inj hr hz (hin y hym) hzy
            subst this
            simp only [hp, Bool.not_true, Bool.or_false]
            rw [decide_eq_false (show ¬ (z.id ≠ z.id) by simp), Bool.false_and, decide_eq_false hnot]
          · rw [decide_eq_true hzy, Bool.true_and]
            congr 1
            rw [decide_eq_decide]
            exact ⟨fun h => hk.2 ⟨h, hzy⟩, fun h => (hk.1 h).1⟩
        rw [e] at h
        exact h
    · have hp : pr y = false := by simpa using hp
      rw [hp, cd_false]
      refine hag (rest.eraseIdx j).length _ _ (by rw [List.length_eraseIdx, if_pos hlt]; omega) ⟨rest.eraseIdx j, rfl, rfl, hin2, hnd3, ?_⟩
      have e : (l.filter fun x => decide (x.id ∈ rest.map Tok.id) || !pr x) = l.filter fun x => decide (x.id ∈ (rest.eraseIdx j).map Tok.id) || !pr x := by
        refine List.filter_congr fun z hz => ?_
        have hk := hkeys z hz
        by_cases hzy : z.id = y.id
        · have : z = y := rise_inj hr hz (hin y hym) hzy
          subst this
          simp [hp]
        · congr 1
          rw [decide_eq_decide]
          exact ⟨fun h => hk.2 ⟨h, hzy⟩, fun h => (hk.1 h).1⟩
      rw [← e]
      exact h
end Go.Proofs.YtbcimkjgpplcpaaGreatDoor.T

/-
  What a store does: dropped, fresh, granted, refreshed.
-/
set_option linter.all false
set_option maxRecDepth 100000
namespace Go.Proofs.YtbcimkjgpplcpaaGreatDoor.T
open Go Hold
variable {E : World0} {w : World} {H R X : HP} {K : Value → World → Prop}
def boxNum (nb : Nat) (n : Int) : HP := pts nb (.cells [Value.int .i64 n].toArray 3 (0, 0))
instance hasNum (nb : Nat) (n : Int) : Has (boxNum nb n) nb (.cells [Value.int .i64 n].toArray 3 (0, 0)) := ⟨fun h => (h.perm (star_emp _).symm).pts_get⟩
theorem FamsF_spec {nb : Nat} {n : Int} {x : Fam} (h : sat E w H) [Has H nb (.cells [Value.int .i64 n].toArray 3 (0, 0))]
    (k : ∀ w', sat E w' H → K (.bool (decide (x.ses = n))) w') : ef prog (oCall (.func (.func 42) #[] #[.pointer (some ⟨nb, 0, none⟩)]) #[fv x]) w K := by
  refine oCall_body Tryz.func42 (by kernel_rfl) (by kernel_rfl) ?_
  show Calls prog 42 #[fv x, .pointer (some ⟨nb, 0, none⟩)] w (Ret K)
  refine c42 ?_
  unfold B42
  refine box_sl h fun b w h => ?_
  have h : sat E w (pts b (.cells (fcells x).toArray 35 (0, 0)) * H) := h
  simp only [↓o_nil, ↓o_field, ↓o_add, ↓o_sub, ↓o_mul, ↓o_lss, ↓o_leq, ↓o_gtr, ↓o_geq, ↓o_not, ↓o_pick, ↓o_eqInt, ↓o_neInt, ↓o_eqBool, ↓o_neBool, ↓o_eqPtr, ↓o_nePtr, ↓o_eqPtr', ↓o_eqSl, ↓o_neSl, ↓o_eqStr, ↓o_neStr, ↓o_len, ↓o_lenS, ↓o_min, ↓o_max, ↓o_extract, ↓o_convInt, ↓cd_true, ↓cd_false, ↓gate_tt, ↓gate_ff, ↓gate_tf, ↓gate_ft, ↓gate_undef, ↓o_bind, ↓stay_v, ↓pop_cons, ↓fin_nil, Option.isNone_none, Option.isNone_some, Bool.not_true, Bool.not_false, Nat.zero_add, decide_true, decide_false, if_true, if_false, Bool.false_eq_true, ↓reduceIte]
  refine ld_in (b := b) (v := .int .i64 x.ses) h rfl ?_
  refine ld_in (b := nb) (v := .int .i64 n) h rfl ?_
  rw [o_eqInt]
  exact k w h.drop
theorem DropF_spec {nb : Nat} {n : Int} {x : Tok} (h : sat E w H) [Has H nb (.cells [Value.int .i64 n].toArray 3 (0, 0))]
    (k : ∀ w', sat E w' H → K (.bool (decide (x.fam = n))) w') : ef prog (oCall (.func (.func 73) #[] #[.pointer (some ⟨nb, 0, none⟩)]) #[.int .i64 x.id, kv x]) w K := by
  refine oCall_body Tryz.func73 (by kernel_rfl) (by kernel_rfl) ?_
  show Calls prog 73 #[.int .i64 x.id, kv x, .pointer (some ⟨nb, 0, none⟩)] w (Ret K)
  refine c73 ?_
  unfold B73
  refine box_sl h fun b w h => ?_
  have h : sat E w (pts b (.cells (kcells x).toArray 49 (0, 0)) * H) := h
  simp only [↓o_nil, ↓o_field, ↓o_add, ↓o_sub, ↓o_mul, ↓o_lss, ↓o_leq, ↓o_gtr, ↓o_geq, ↓o_not, ↓o_pick, ↓o_eqInt, ↓o_neInt, ↓o_eqBool, ↓o_neBool, ↓o_eqPtr, ↓o_nePtr, ↓o_eqPtr', ↓o_eqSl, ↓o_neSl, ↓o_eqStr, ↓o_neStr, ↓o_len, ↓o_lenS, ↓o_min, ↓o_max, ↓o_extract, ↓o_convInt, ↓cd_true, ↓cd_false, ↓gate_tt, ↓gate_ff, ↓gate_tf, ↓gate_ft, ↓gate_undef, ↓o_bind, ↓stay_v, ↓pop_cons, ↓fin_nil, Option.isNone_none, Option.isNone_some, Bool.not_true, Bool.not_false, Nat.zero_add, decide_true, decide_false, if_true, if_false, Bool.false_eq_true, ↓reduceIte]
  refine ld_in (b := b) (v := .int .i64 x.fam) h rfl ?_
  refine ld_in (b := nb) (v := .int .i64 n) h rfl ?_
  rw [o_eqInt]
  exact k w h.drop
def famsL (s : St) (n : Int) : List Fam := s.f.filter fun x => decide (x.ses = n)
theorem Families_spec {p b c m : Nat} {s : St} {n : Int} (ok : OkS s m) (hm : m ≤ 1000000) (h : sat E w (sI p s b c R))
    (k : ∀ u w', sat E w' (osl 35 5 u (famsL s n).length (fvs (famsL s n)) * sI p s b c R) → K u w') : Calls prog 15 #[.pointer (some ⟨p, 0, none⟩), .int .i64 n] w (Ret K) := by
  have := ok.ff
  refine c15 ?_
  unfold B15
  refine box_sl h fun nb w h => ?_
  have h : sat E w (boxNum nb n * sI p s b c R) := h
  simp only [↓o_eqPtr, Option.isNone_some, ↓cd_false]
  simp only [↓o_nil, ↓o_field, ↓o_add, ↓o_sub, ↓o_mul, ↓o_lss, ↓o_leq, ↓o_gtr, ↓o_geq, ↓o_not, ↓o_pick, ↓o_eqInt, ↓o_neInt, ↓o_eqBool, ↓o_neBool, ↓o_eqPtr, ↓o_nePtr, ↓o_eqPtr', ↓o_eqSl, ↓o_neSl, ↓o_eqStr, ↓o_neStr, ↓o_len, ↓o_lenS, ↓o_min, ↓o_max, ↓o_extract, ↓o_convInt, ↓cd_true, ↓cd_false, ↓gate_tt, ↓gate_ff, ↓gate_tf, ↓gate_ft, ↓gate_undef, ↓o_bind, ↓stay_v, ↓pop_cons, ↓fin_nil, Option.isNone_none, Option.isNone_some, Bool.not_true, Bool.not_false, Nat.zero_add, decide_true, decide_false, if_true, if_false, Bool.false_eq_true, ↓reduceIte]
  refine ld_part (b := p) h (rowF s b) rfl rfl ?_
  refine pvv_of (v := .func (.func 42) #[] #[.pointer (some ⟨nb, 0, none⟩)]) (fun _ => rfl) ?_
  have h := h.perm (show _ = omap b (fmp s.f) * (boxNum nb n * (pts p (.cells (stcells s b c).toArray 67 (0, 0)) * (omap c (kmp s.k) * R))) by unfold sI; ac_rfl)
  refine allF_spec (pr := fun x => decide (x.ses = n)) ok.fr (by omega) h (fun x X w K' hx h k' => FamsF_spec (nb := nb) h k') fun u w h => ?_
  refine k u w ?_
  have h := h.perm (show _ = boxNum nb n * (osl 35 5 u (famsL s n).length (fvs (famsL s n)) * sI p s b c R) by unfold sI famsL; ac_rfl)
  exact h.drop
def dropS (s : St) (id : Int) : St := { s with f := dropG Fam.id s.f id, k := s.k.filter fun x => !decide (x.fam = id) }
theorem drop_spec {p b c m : Nat} {s : St} {id : Int} (ok : OkS s m) (h : sat E w (sI p s b c R)) (k : ∀ w', sat E w' (sI p (dropS s id) b c R) → K (.tuple #[]) w') : Calls prog 52 #[.pointer (some ⟨p, 0, none⟩), .int .i64 id] w (Ret K) := by
  refine c52 ?_
  unfold B52
  refine box_sl h fun nb w h => ?_
  have h : sat E w (boxNum nb id * sI p s b c R) := h
  refine dr_sl h fun w h _ => ?_
  simp only [↓o_nil, ↓o_field, ↓o_add, ↓o_sub, ↓o_mul, ↓o_lss, ↓o_leq, ↓o_gtr, ↓o_geq, ↓o_not, ↓o_pick, ↓o_eqInt, ↓o_neInt, ↓o_eqBool, ↓o_neBool, ↓o_eqPtr, ↓o_nePtr, ↓o_eqPtr', ↓o_eqSl, ↓o_neSl, ↓o_eqStr, ↓o_neStr, ↓o_len, ↓o_lenS, ↓o_min, ↓o_max, ↓o_extract, ↓o_convInt, ↓cd_true, ↓cd_false, ↓gate_tt, ↓gate_ff, ↓gate_tf, ↓gate_ft, ↓gate_undef, ↓o_bind, ↓stay_v, ↓pop_cons, ↓fin_nil, Option.isNone_none, Option.isNone_some, Bool.not_true, Bool.not_false, Nat.zero_add, decide_true, decide_false, if_true, if_false, Bool.false_eq_true, ↓reduceIte]
  refine ld_in (b := p) (v := .map (some b)) h rfl ?_
  try simp only [↓o_nil, ↓o_field, ↓o_add, ↓o_sub, ↓o_mul, ↓o_lss, ↓o_leq, ↓o_gtr, ↓o_geq, ↓o_not, ↓o_pick, ↓o_eqInt, ↓o_neInt, ↓o_eqBool, ↓o_neBool, ↓o_eqPtr, ↓o_nePtr, ↓o_eqPtr', ↓o_eqSl, ↓o_neSl, ↓o_eqStr, ↓o_neStr, ↓o_len, ↓o_lenS, ↓o_min, ↓o_max, ↓o_extract, ↓o_convInt, ↓cd_true, ↓cd_false, ↓gate_tt, ↓gate_ff, ↓gate_tf, ↓gate_ft, ↓gate_undef, ↓o_bind, ↓stay_v, ↓pop_cons, ↓fin_nil, Option.isNone_none, Option.isNone_some, Bool.not_true, Bool.not_false, Nat.zero_add, decide_true, decide_false, if_true, if_false, Bool.false_eq_true, ↓reduceIte]
  refine ld_in (b := nb) (v := .int .i64 id) h rfl ?_
  refine delete_sl (b := b) h fun w h => ?_
  rw [delM_mpG ok.fr] at h
  try simp only [↓o_nil, ↓o_field, ↓o_add, ↓o_sub, ↓o_mul, ↓o_lss, ↓o_leq, ↓o_gtr, ↓o_geq, ↓o_not, ↓o_pick, ↓o_eqInt, ↓o_neInt, ↓o_eqBool, ↓o_neBool, ↓o_eqPtr, ↓o_nePtr, ↓o_eqPtr', ↓o_eqSl, ↓o_neSl, ↓o_eqStr, ↓o_neStr, ↓o_len, ↓o_lenS, ↓o_min, ↓o_max, ↓o_extract, ↓o_convInt, ↓cd_true, ↓cd_false, ↓gate_tt, ↓gate_ff, ↓gate_tf, ↓gate_ft, ↓gate_undef, ↓o_bind, ↓stay_v, ↓pop_cons, ↓fin_nil, Option.isNone_none, Option.isNone_some, Bool.not_true, Bool.not_false, Nat.zero_add, decide_true, decide_false, if_true, if_false, Bool.false_eq_true, ↓reduceIte]
  refine ld_in (b := p) (v := .map (some c)) h rfl ?_
  refine pvv_of (v := .func (.func 73) #[] #[.pointer (some ⟨nb, 0, none⟩)]) (fun _ => rfl) ?_
  have h := h.perm (show _ = omap c (kmp s.k) * (boxNum nb id * (pts p (.cells (stcells s b c).toArray 67 (0, 0)) * (omap b (mpG Fam.id fv (dropG Fam.id s.f id)) * R))) by ac_rfl)
  refine DelK_spec (pr := fun x => decide (x.fam = id)) ok.kr h (fun x X w K' hx h k' => DropF_spec (nb := nb) h k') fun w h => ?_
  refine k w ?_
  have h := h.perm (show _ = boxNum nb id * sI p (dropS s id) b c R by unfold sI dropS; simp only [stcells]; ac_rfl)
  exact h.drop
theorem ok_up {s : St} {m : Nat} (ok : OkS s m) : OkS s (m + 1) := ⟨ok.f1, by have := ok.f2; omega, ok.k1, by have := ok.k2; omega, ok.t0, ok.t1, ok.fr, ok.kr, ok.fa, ok.ka, by have := ok.ff; omega, by have := ok.kf; omega⟩
theorem ok_sub {s : St} {m : Nat} {n : Int} (ok : OkS s m) {f : List Fam} {k : List Tok} (hf : f.Sublist s.f) (hk : k.Sublist s.k) (h0 : 0 ≤ n) (h1 : n ≤ 1099511627776) : OkS ⟨s.fn, s.kn, n, f, k⟩ m :=
  ⟨ok.f1, ok.f2, ok.k1, ok.k2, h0, h1, ok.fr.sublist hf, ok.kr.sublist hk, fun x hx => let h := ok.fa x (hf.subset hx); ⟨h.id1, h.id2, h.n1, h.n2⟩, fun x hx => let h := ok.ka x (hk.subset hx); ⟨h.id1, h.id2, h.t0, h.t1⟩, Nat.le_trans hf.length_le ok.ff, Nat.le_trans hk.length_le ok.kf⟩
theorem ok_drop {s : St} {m : Nat} {id : Int} (ok : OkS s m) : OkS (dropS s id) m := ok_sub ok List.filter_sublist List.filter_sublist ok.t0 ok.t1
theorem ok_noted {s : St} {m : Nat} {now : Int} (ok : OkS s m) (h0 : 0 ≤ now) (h1 : now ≤ 1099511627776) : OkS { s with noted := now } m := ok_sub ok (List.Sublist.refl _) (List.Sublist.refl _) h0 h1
/-- A fresh token. -/
def freshK (s : St) (fam : Int) (sc : UInt8) (til : Int) : Tok := ⟨s.kn, fam, sc, min til 1099511627776⟩
def freshS (s : St) (fam : Int) (sc : UInt8) (til : Int) : St := { s with kn := s.kn + 1, k := s.k ++ [freshK s fam sc til] }
theorem ok_fresh {s : St} {m : Nat} {fam : Int} {sc : UInt8} {til : Int} (ok : OkS s m) (h0 : 0 ≤ til) : OkS (freshS s fam sc til) (m + 1) := by
  have ok1 := ok_up ok
  refine ⟨ok1.f1, ok1.f2, by have := ok.k1; simp only [freshS]; omega, by have := ok.k2; simp only [freshS]; omega, ok1.t0, ok1.t1, ok1.fr, ?_, fun x hx => let h := ok.fa x hx; ⟨h.id1, h.id2, h.n1, h.n2⟩, ?_, ok1.ff, by have := ok.kf; simp only [freshS, List.length_append, List.length_singleton]; omega⟩
  · exact rise_app ok.kr fun x hx => (ok.ka x hx).id2
  · intro x hx
    rcases List.mem_append.1 hx with hx | hx
    · have h := ok.ka x hx
      exact ⟨h.id1, by have := h.id2; simp only [freshS]; omega, h.t0, h.t1⟩
    · rw [List.mem_singleton.1 hx]
      exact ⟨ok.k1, by simp only [freshS, freshK]; omega, by simp only [freshK]; omega, by simp only [freshK]; omega⟩
theorem fresh_spec {p b c m : Nat} {s : St} {fam til : Int} {sc : UInt8} (ok : OkS s m) (hm : m ≤ 1000000) (h : sat E w (sI p s b c R)) (k : ∀ w', sat E w' (sI p (freshS s fam sc til) b c R) → K (kv (freshK s fam sc til)) w') :
    Calls prog 51 #[.pointer (some ⟨p, 0, none⟩), .int .i64 fam, bv sc, .int .i64 til] w (Ret K) := by
  have := ok.k1; have := ok.k2
  refine c51 ?_
  unfold B51
  refine tok_new h fun r w h => ?_
  simp only [↓o_nil, ↓o_field, ↓o_add, ↓o_sub, ↓o_mul, ↓o_lss, ↓o_leq, ↓o_gtr, ↓o_geq, ↓o_not, ↓o_pick, ↓o_eqInt, ↓o_neInt, ↓o_eqBool, ↓o_neBool, ↓o_eqPtr, ↓o_nePtr, ↓o_eqPtr', ↓o_eqSl, ↓o_neSl, ↓o_eqStr, ↓o_neStr, ↓o_len, ↓o_lenS, ↓o_min, ↓o_max, ↓o_extract, ↓o_convInt, ↓cd_true, ↓cd_false, ↓gate_tt, ↓gate_ff, ↓gate_tf, ↓gate_ft, ↓gate_undef, ↓o_bind, ↓stay_v, ↓pop_cons, ↓fin_nil, Option.isNone_none, Option.isNone_some, Bool.not_true, Bool.not_false, Nat.zero_add, decide_true, decide_false, if_true, if_false, Bool.false_eq_true, ↓reduceIte]
  refine ld_in (b := p) (v := .int .i64 s.kn) h rfl ?_
  try rw [o_min]
  refine pvv_of (v := kv (freshK s fam sc til)) (fun w => by kernel_rfl) ?_
  refine tok_in h fun tb w h => ?_
  refine dr_sl h fun w h _ => ?_
  try simp only [↓o_nil, ↓o_field, ↓o_add, ↓o_sub, ↓o_mul, ↓o_lss, ↓o_leq, ↓o_gtr, ↓o_geq, ↓o_not, ↓o_pick, ↓o_eqInt, ↓o_neInt, ↓o_eqBool, ↓o_neBool, ↓o_eqPtr, ↓o_nePtr, ↓o_eqPtr', ↓o_eqSl, ↓o_neSl, ↓o_eqStr, ↓o_neStr, ↓o_len, ↓o_lenS, ↓o_min, ↓o_max, ↓o_extract, ↓o_convInt, ↓cd_true, ↓cd_false, ↓gate_tt, ↓gate_ff, ↓gate_tf, ↓gate_ft, ↓gate_undef, ↓o_bind, ↓stay_v, ↓pop_cons, ↓fin_nil, Option.isNone_none, Option.isNone_some, Bool.not_true, Bool.not_false, Nat.zero_add, decide_true, decide_false, if_true, if_false, Bool.false_eq_true, ↓reduceIte]
  refine ld_in (b := p) (v := .map (some c)) h rfl ?_
  try simp only [↓o_nil, ↓o_field, ↓o_add, ↓o_sub, ↓o_mul, ↓o_lss, ↓o_leq, ↓o_gtr, ↓o_geq, ↓o_not, ↓o_pick, ↓o_eqInt, ↓o_neInt, ↓o_eqBool, ↓o_neBool, ↓o_eqPtr, ↓o_nePtr, ↓o_eqPtr', ↓o_eqSl, ↓o_neSl, ↓o_eqStr, ↓o_neStr, ↓o_len, ↓o_lenS, ↓o_min, ↓o_max, ↓o_extract, ↓o_convInt, ↓cd_true, ↓cd_false, ↓gate_tt, ↓gate_ff, ↓gate_tf, ↓gate_ft, ↓gate_undef, ↓o_bind, ↓stay_v, ↓pop_cons, ↓fin_nil, Option.isNone_none, Option.isNone_some, Bool.not_true, Bool.not_false, Nat.zero_add, decide_true, decide_false, if_true, if_false, Bool.false_eq_true, ↓reduceIte]
  refine ld_in (b := tb) (v := .int .i64 s.kn) h rfl ?_
  refine ld_agg (b := tb) (xs := kcells (freshK s fam sc til)) h rfl ?_
  refine update_sl (b := c) h fun w h => ?_
  rw [show putM (kmp s.k) s.kn (.agg (kcells (freshK s fam sc til)).toArray) = kmp (s.k ++ [freshK s fam sc til]) from putM_newG (key := Tok.id) (val := kv) (y := freshK s fam sc til) fun x hx => (ok.ka x hx).id2] at h
  try simp only [↓o_nil, ↓o_field, ↓o_add, ↓o_sub, ↓o_mul, ↓o_lss, ↓o_leq, ↓o_gtr, ↓o_geq, ↓o_not, ↓o_pick, ↓o_eqInt, ↓o_neInt, ↓o_eqBool, ↓o_neBool, ↓o_eqPtr, ↓o_nePtr, ↓o_eqPtr', ↓o_eqSl, ↓o_neSl, ↓o_eqStr, ↓o_neStr, ↓o_len, ↓o_lenS, ↓o_min, ↓o_max, ↓o_extract, ↓o_convInt, ↓cd_true, ↓cd_false, ↓gate_tt, ↓gate_ff, ↓gate_tf, ↓gate_ft, ↓gate_undef, ↓o_bind, ↓stay_v, ↓pop_cons, ↓fin_nil, Option.isNone_none, Option.isNone_some, Bool.not_true, Bool.not_false, Nat.zero_add, decide_true, decide_false, if_true, if_false, Bool.false_eq_true, ↓reduceIte]
  refine ld_in (b := p) (v := .int .i64 s.kn) h rfl ?_
  try rw [o_add]
  rw [i64_of (by omega) (by omega)]
  try simp only [↓o_nil, ↓o_field, ↓o_add, ↓o_sub, ↓o_mul, ↓o_lss, ↓o_leq, ↓o_gtr, ↓o_geq, ↓o_not, ↓o_pick, ↓o_eqInt, ↓o_neInt, ↓o_eqBool, ↓o_neBool, ↓o_eqPtr, ↓o_nePtr, ↓o_eqPtr', ↓o_eqSl, ↓o_neSl, ↓o_eqStr, ↓o_neStr, ↓o_len, ↓o_lenS, ↓o_min, ↓o_max, ↓o_extract, ↓o_convInt, ↓cd_true, ↓cd_false, ↓gate_tt, ↓gate_ff, ↓gate_tf, ↓gate_ft, ↓gate_undef, ↓o_bind, ↓stay_v, ↓pop_cons, ↓fin_nil, Option.isNone_none, Option.isNone_some, Bool.not_true, Bool.not_false, Nat.zero_add, decide_true, decide_false, if_true, if_false, Bool.false_eq_true, ↓reduceIte]
  refine store_sl (b := p) h rfl (by simp [stcells]) fun w h => ?_
  refine ld_agg (b := tb) (xs := kcells (freshK s fam sc til)) h rfl ?_
  refine tok_ret1 (b := r) (x := zeroK) (y := freshK s fam sc til) h fun w h => k w ?_
  have h := h.perm (show _ = pts r (.cells (kcells (freshK s fam sc til)).toArray 49 (0, 0)) * (pts tb (.cells (kcells (freshK s fam sc til)).toArray 49 (0, 0)) * sI p (freshS s fam sc til) b c R) by unfold sI freshS; simp only [stcells]; ac_rfl)
  exact h.drop.drop
end Go.Proofs.YtbcimkjgpplcpaaGreatDoor.T

/-
  What a store does: granted, refreshed.
-/
set_option linter.all false
set_option maxRecDepth 100000
namespace Go.Proofs.YtbcimkjgpplcpaaGreatDoor.T
open Go Hold
variable {E : World0} {w : World} {H R X : HP} {K : Value → World → Prop}
theorem row_F {s : St} {b c : Nat} : ((stcells s b c).drop 0).take 2 = rowF s b := rfl
theorem row_K {s : St} {b c : Nat} : ((stcells s b c).drop 2).take 2 = rowK s c := rfl
def grantF (s : St) (ses : Int) (cl : List UInt8) (sc : UInt8) : Fam := ⟨s.fn, ses, cl, sc, 1⟩
def grantS0 (s : St) (ses : Int) (cl : List UInt8) (sc : UInt8) (now : Int) : St := { s with fn := s.fn + 1, noted := now, f := s.f ++ [grantF s ses cl sc] }
def grantT (s : St) (ses : Int) (cl : List UInt8) (sc : UInt8) (now : Int) : St × Fam × Tok × Int :=
  if timeE s now = 2 then (s, zeroF, zeroK, 2)
  else if ses < 1 then (s, zeroF, zeroK, 2)
  else if isName cl = false then (s, zeroF, zeroK, 8)
  else if timeE s now ≠ 0 then (s, zeroF, zeroK, timeE s now)
  else if 1099511627776 < s.fn ∨ 1099511627776 < s.kn then (s, zeroF, zeroK, 7)
  else if 2 ≤ (famsL s ses).length then (s, zeroF, zeroK, 23)
  else (freshS (grantS0 s ses cl sc now) s.fn sc (now + 50), grantF s ses cl sc, freshK (grantS0 s ses cl sc now) s.fn sc (now + 50), 0)
theorem ok_grant0 {s : St} {m : Nat} {ses now : Int} {cl : List UInt8} {sc : UInt8} (ok : OkS s m) (h0 : 0 ≤ now) (h1 : now ≤ 1099511627776) : OkS (grantS0 s ses cl sc now) (m + 1) := by
  have ok1 := ok_up ok
  refine ⟨by have := ok.f1; simp only [grantS0]; omega, by have := ok.f2; simp only [grantS0]; omega, ok1.k1, ok1.k2, h0, h1, ?_, ok1.kr, ?_, fun x hx => let h := ok.ka x hx; ⟨h.id1, h.id2, h.t0, h.t1⟩, by have := ok.ff; simp only [grantS0, List.length_append, List.length_singleton]; omega, ok1.kf⟩
  · exact rise_app ok.fr fun x hx => (ok.fa x hx).id2
  · intro x hx
    rcases List.mem_append.1 hx with hx | hx
    · have h := ok.fa x hx
      exact ⟨h.id1, by have := h.id2; simp only [grantS0]; omega, h.n1, h.n2⟩
    · rw [List.mem_singleton.1 hx]
      exact ⟨ok.f1, by simp only [grantS0, grantF]; omega, by simp [grantF], by simp [grantF]⟩
theorem ok_grant {s : St} {m : Nat} {ses now : Int} {cl : List UInt8} {sc : UInt8} (ok : OkS s m) : OkS (grantT s ses cl sc now).1 (m + 2) := by
  unfold grantT
  repeat' split
  all_goals try exact ok_up (ok_up ok)
  rename_i h1 h2 h3 h4 h5 h6
  obtain ⟨a, b, _⟩ := time_ok (show timeE s now = 0 by simpa using h4)
  exact ok_fresh (ok_grant0 ok a b) (by omega)
theorem Grant_spec {p b c m : Nat} {s : St} {ses now : Int} {cl : List UInt8} {sc : UInt8} (ok : OkS s m) (hm : m ≤ 900000) (hcl : cl.length ≤ 9223372036854775807) (h : sat E w (sI p s b c R))
    (k : ∀ w', sat E w' (sI p (grantT s ses cl sc now).1 b c R) → K (.tuple #[fv (grantT s ses cl sc now).2.1, kv (grantT s ses cl sc now).2.2.1, .int .i64 (grantT s ses cl sc now).2.2.2]) w') :
    Calls prog 17 #[.pointer (some ⟨p, 0, none⟩), .int .i64 ses, tv cl, bv sc, .int .i64 now] w (Ret K) := by
  have := ok.f1; have := ok.f2; have := ok.k1; have := ok.k2
  refine c17 ?_
  unfold B17
  refine fam_new h fun fb w h => ?_
  refine tok_new h fun tb w h => ?_
  refine time_spec (s := s) (b := b) (c := c) h ?_
  have out : ∀ (w : World) (e : Int), grantT s ses cl sc now = (s, zeroF, zeroK, e) → sat E w (pts tb (.cells (kcells zeroK).toArray 49 (0, 0)) * (pts fb (.cells (fcells zeroF).toArray 35 (0, 0)) * sI p s b c R)) →
      dr w fun w =>
      bindS (vN (Instr.loadAt 35 (.pointer (some ⟨fb, 0, none⟩)))) fun m_8 => ldv prog (Instr.loadAt 35 (.pointer (some ⟨fb, 0, none⟩))) w fun t_7 w =>
      bindS (vN (Instr.loadAt 49 (.pointer (some ⟨tb, 0, none⟩)))) fun m_10 => ldv prog (Instr.loadAt 49 (.pointer (some ⟨tb, 0, none⟩))) w fun t_9 w =>
      efu prog (Instr.storeAt 35 (.pointer (some ⟨fb, 0, none⟩)) t_7) w fun u_11 w => stay prog none m_10 t_9 w <|
      efu prog (Instr.storeAt 49 (.pointer (some ⟨tb, 0, none⟩)) t_9) w fun u_12 w =>
      ∃ r_13, (do loadVar 35 (← asAddr (.pointer (some ⟨fb, 0, none⟩)))).run prog w = .ok r_13 w ∧ ∃ r_14, (do loadVar 49 (← asAddr (.pointer (some ⟨tb, 0, none⟩)))).run prog w = .ok r_14 w ∧ K (.tuple #[r_13, r_14, .int .i64 e]) w := by
    intro w e he h
    rw [he] at k
    refine dr_sl h fun w h _ => ?_
    simp only [↓o_nil, ↓o_field, ↓o_add, ↓o_sub, ↓o_mul, ↓o_lss, ↓o_leq, ↓o_gtr, ↓o_geq, ↓o_not, ↓o_pick, ↓o_eqInt, ↓o_neInt, ↓o_eqBool, ↓o_neBool, ↓o_eqPtr, ↓o_nePtr, ↓o_eqPtr', ↓o_eqSl, ↓o_neSl, ↓o_eqStr, ↓o_neStr, ↓o_len, ↓o_lenS, ↓o_min, ↓o_max, ↓o_extract, ↓o_convInt, ↓cd_true, ↓cd_false, ↓gate_tt, ↓gate_ff, ↓gate_tf, ↓gate_ft, ↓gate_undef, ↓o_bind, ↓stay_v, ↓pop_cons, ↓fin_nil, Option.isNone_none, Option.isNone_some, Bool.not_true, Bool.not_false, Nat.zero_add, decide_true, decide_false, if_true, if_false, Bool.false_eq_true, ↓reduceIte]
    refine ld_agg (b := fb) (xs := fcells zeroF) h rfl ?_
    refine ld_agg (b := tb) (xs := kcells zeroK) h rfl ?_
    refine store_all (b := fb) h (xs := fcells zeroF) (vs := fcells zeroF) rfl rfl (fcells_one zeroF) fun w h => ?_
    refine st_agg (b := tb) (xs := kcells zeroK) h rfl ?_
    refine store_all (b := tb) h (xs := kcells zeroK) (vs := kcells zeroK) rfl rfl (kcells_one zeroK) fun w h => ?_
    refine res_agg (P := prog) (t := 35) (K := fun r w => ∃ r2, (do loadVar 49 (← asAddr (.pointer (some ⟨tb, 0, none⟩)))).run prog w = .ok r2 w ∧ K (.tuple #[r, r2, .int .i64 e]) w) h (b := fb) (xs := fcells zeroF) rfl ?_
    exact res_agg (P := prog) (t := 49) (K := fun r2 w => K (.tuple #[fv zeroF, r2, .int .i64 e]) w) h (b := tb) (xs := kcells zeroK) rfl (k w h.drop.drop)
  have tE : timeE s now = 2 ∨ timeE s now = 9 ∨ timeE s now = 0 := by unfold timeE; split; exact .inl rfl; split; exact .inr (.inl rfl); exact .inr (.inr rfl)
  by_cases e2 : timeE s now = 2
  · rw [e2]
    have := out w 2 (by unfold grantT; rw [if_pos e2]) h
    simp only [show decide ((2 : Int) = 1) = false from rfl, show decide ((2 : Int) = 2) = true from rfl, ↓o_nil, ↓o_field, ↓o_add, ↓o_sub, ↓o_mul, ↓o_lss, ↓o_leq, ↓o_gtr, ↓o_geq, ↓o_not, ↓o_pick, ↓o_eqInt, ↓o_neInt, ↓o_eqBool, ↓o_neBool, ↓o_eqPtr, ↓o_nePtr, ↓o_eqPtr', ↓o_eqSl, ↓o_neSl, ↓o_eqStr, ↓o_neStr, ↓o_len, ↓o_lenS, ↓o_min, ↓o_max, ↓o_extract, ↓o_convInt, ↓cd_true, ↓cd_false, ↓gate_tt, ↓gate_ff, ↓gate_tf, ↓gate_ft, ↓gate_undef, ↓o_bind, ↓stay_v, ↓pop_cons, ↓fin_nil, Option.isNone_none, Option.isNone_some, Bool.not_true, Bool.not_false, Nat.zero_add, decide_true, decide_false, if_true, if_false, Bool.false_eq_true, ↓reduceIte] at this ⊢
    exact this
  have e1 : decide (timeE s now = 1) = false := decide_eq_false (by rcases tE with h | h | h <;> rw [h] <;> decide)
  simp only [e1, decide_eq_false e2, ↓o_nil, ↓o_field, ↓o_add, ↓o_sub, ↓o_mul, ↓o_lss, ↓o_leq, ↓o_gtr, ↓o_geq, ↓o_not, ↓o_pick, ↓o_eqInt, ↓o_neInt, ↓o_eqBool, ↓o_neBool, ↓o_eqPtr, ↓o_nePtr, ↓o_eqPtr', ↓o_eqSl, ↓o_neSl, ↓o_eqStr, ↓o_neStr, ↓o_len, ↓o_lenS, ↓o_min, ↓o_max, ↓o_extract, ↓o_convInt, ↓cd_true, ↓cd_false, ↓gate_tt, ↓gate_ff, ↓gate_tf, ↓gate_ft, ↓gate_undef, ↓o_bind, ↓stay_v, ↓pop_cons, ↓fin_nil, Option.isNone_none, Option.isNone_some, Bool.not_true, Bool.not_false, Nat.zero_add, decide_true, decide_false, if_true, if_false, Bool.false_eq_true, ↓reduceIte]
  by_cases h3 : ses < 1
  · have := out w 2 (by unfold grantT; rw [if_neg e2, if_pos h3]) h
    simp only [h3, ↓o_nil, ↓o_field, ↓o_add, ↓o_sub, ↓o_mul, ↓o_lss, ↓o_leq, ↓o_gtr, ↓o_geq, ↓o_not, ↓o_pick, ↓o_eqInt, ↓o_neInt, ↓o_eqBool, ↓o_neBool, ↓o_eqPtr, ↓o_nePtr, ↓o_eqPtr', ↓o_eqSl, ↓o_neSl, ↓o_eqStr, ↓o_neStr, ↓o_len, ↓o_lenS, ↓o_min, ↓o_max, ↓o_extract, ↓o_convInt, ↓cd_true, ↓cd_false, ↓gate_tt, ↓gate_ff, ↓gate_tf, ↓gate_ft, ↓gate_undef, ↓o_bind, ↓stay_v, ↓pop_cons, ↓fin_nil, Option.isNone_none, Option.isNone_some, Bool.not_true, Bool.not_false, Nat.zero_add, decide_true, decide_false, if_true, if_false, Bool.false_eq_true, ↓reduceIte] at this ⊢
    exact this
  simp only [h3, ↓o_nil, ↓o_field, ↓o_add, ↓o_sub, ↓o_mul, ↓o_lss, ↓o_leq, ↓o_gtr, ↓o_geq, ↓o_not, ↓o_pick, ↓o_eqInt, ↓o_neInt, ↓o_eqBool, ↓o_neBool, ↓o_eqPtr, ↓o_nePtr, ↓o_eqPtr', ↓o_eqSl, ↓o_neSl, ↓o_eqStr, ↓o_neStr, ↓o_len, ↓o_lenS, ↓o_min, ↓o_max, ↓o_extract, ↓o_convInt, ↓cd_true, ↓cd_false, ↓gate_tt, ↓gate_ff, ↓gate_tf, ↓gate_ft, ↓gate_undef, ↓o_bind, ↓stay_v, ↓pop_cons, ↓fin_nil, Option.isNone_none, Option.isNone_some, Bool.not_true, Bool.not_false, Nat.zero_add, decide_true, decide_false, if_true, if_false, Bool.false_eq_true, ↓reduceIte]
  refine IsName_spec h hcl fun w h => ?_
  by_cases hn : isName cl = true
  case neg =>
    have hn : isName cl = false := by simpa using hn
    have := out w 8 (by unfold grantT; rw [if_neg e2, if_neg h3, if_pos hn]) h
    simp only [hn, ↓o_nil, ↓o_field, ↓o_add, ↓o_sub, ↓o_mul, ↓o_lss, ↓o_leq, ↓o_gtr, ↓o_geq, ↓o_not, ↓o_pick, ↓o_eqInt, ↓o_neInt, ↓o_eqBool, ↓o_neBool, ↓o_eqPtr, ↓o_nePtr, ↓o_eqPtr', ↓o_eqSl, ↓o_neSl, ↓o_eqStr, ↓o_neStr, ↓o_len, ↓o_lenS, ↓o_min, ↓o_max, ↓o_extract, ↓o_convInt, ↓cd_true, ↓cd_false, ↓gate_tt, ↓gate_ff, ↓gate_tf, ↓gate_ft, ↓gate_undef, ↓o_bind, ↓stay_v, ↓pop_cons, ↓fin_nil, Option.isNone_none, Option.isNone_some, Bool.not_true, Bool.not_false, Nat.zero_add, decide_true, decide_false, if_true, if_false, Bool.false_eq_true, ↓reduceIte] at this ⊢
    exact this
  have hn2 : ¬ isName cl = false := by simp [hn]
  simp only [hn, ↓o_nil, ↓o_field, ↓o_add, ↓o_sub, ↓o_mul, ↓o_lss, ↓o_leq, ↓o_gtr, ↓o_geq, ↓o_not, ↓o_pick, ↓o_eqInt, ↓o_neInt, ↓o_eqBool, ↓o_neBool, ↓o_eqPtr, ↓o_nePtr, ↓o_eqPtr', ↓o_eqSl, ↓o_neSl, ↓o_eqStr, ↓o_neStr, ↓o_len, ↓o_lenS, ↓o_min, ↓o_max, ↓o_extract, ↓o_convInt, ↓cd_true, ↓cd_false, ↓gate_tt, ↓gate_ff, ↓gate_tf, ↓gate_ft, ↓gate_undef, ↓o_bind, ↓stay_v, ↓pop_cons, ↓fin_nil, Option.isNone_none, Option.isNone_some, Bool.not_true, Bool.not_false, Nat.zero_add, decide_true, decide_false, if_true, if_false, Bool.false_eq_true, ↓reduceIte]
  by_cases e0 : timeE s now = 0
  case neg =>
    have := out w _ (by unfold grantT; rw [if_neg e2, if_neg h3, if_neg hn2, if_pos e0]) h
    simp only [decide_eq_false e0, ↓o_nil, ↓o_field, ↓o_add, ↓o_sub, ↓o_mul, ↓o_lss, ↓o_leq, ↓o_gtr, ↓o_geq, ↓o_not, ↓o_pick, ↓o_eqInt, ↓o_neInt, ↓o_eqBool, ↓o_neBool, ↓o_eqPtr, ↓o_nePtr, ↓o_eqPtr', ↓o_eqSl, ↓o_neSl, ↓o_eqStr, ↓o_neStr, ↓o_len, ↓o_lenS, ↓o_min, ↓o_max, ↓o_extract, ↓o_convInt, ↓cd_true, ↓cd_false, ↓gate_tt, ↓gate_ff, ↓gate_tf, ↓gate_ft, ↓gate_undef, ↓o_bind, ↓stay_v, ↓pop_cons, ↓fin_nil, Option.isNone_none, Option.isNone_some, Bool.not_true, Bool.not_false, Nat.zero_add, decide_true, decide_false, if_true, if_false, Bool.false_eq_true, ↓reduceIte] at this ⊢
    exact this
  have e0' : ¬ timeE s now ≠ 0 := by simpa using e0
  obtain ⟨n0, n1, n2⟩ := time_ok e0
  simp only [decide_eq_true e0, ↓o_nil, ↓o_field, ↓o_add, ↓o_sub, ↓o_mul, ↓o_lss, ↓o_leq, ↓o_gtr, ↓o_geq, ↓o_not, ↓o_pick, ↓o_eqInt, ↓o_neInt, ↓o_eqBool, ↓o_neBool, ↓o_eqPtr, ↓o_nePtr, ↓o_eqPtr', ↓o_eqSl, ↓o_neSl, ↓o_eqStr, ↓o_neStr, ↓o_len, ↓o_lenS, ↓o_min, ↓o_max, ↓o_extract, ↓o_convInt, ↓cd_true, ↓cd_false, ↓gate_tt, ↓gate_ff, ↓gate_tf, ↓gate_ft, ↓gate_undef, ↓o_bind, ↓stay_v, ↓pop_cons, ↓fin_nil, Option.isNone_none, Option.isNone_some, Bool.not_true, Bool.not_false, Nat.zero_add, decide_true, decide_false, if_true, if_false, Bool.false_eq_true, ↓reduceIte]
  refine ld_part (b := p) h (rowF s b) rfl row_F ?_
  refine fullF_spec h fun w h => ?_
  have full : 1099511627776 < s.fn ∨ 1099511627776 < s.kn → grantT s ses cl sc now = (s, zeroF, zeroK, 7) := fun hf => by unfold grantT; rw [if_neg e2, if_neg h3, if_neg hn2, if_neg e0', if_pos hf]
  by_cases f1 : 1099511627776 < s.fn
  · omega
  simp only [decide_eq_false f1, ↓o_nil, ↓o_field, ↓o_add, ↓o_sub, ↓o_mul, ↓o_lss, ↓o_leq, ↓o_gtr, ↓o_geq, ↓o_not, ↓o_pick, ↓o_eqInt, ↓o_neInt, ↓o_eqBool, ↓o_neBool, ↓o_eqPtr, ↓o_nePtr, ↓o_eqPtr', ↓o_eqSl, ↓o_neSl, ↓o_eqStr, ↓o_neStr, ↓o_len, ↓o_lenS, ↓o_min, ↓o_max, ↓o_extract, ↓o_convInt, ↓cd_true, ↓cd_false, ↓gate_tt, ↓gate_ff, ↓gate_tf, ↓gate_ft, ↓gate_undef, ↓o_bind, ↓stay_v, ↓pop_cons, ↓fin_nil, Option.isNone_none, Option.isNone_some, Bool.not_true, Bool.not_false, Nat.zero_add, decide_true, decide_false, if_true, if_false, Bool.false_eq_true, ↓reduceIte]
  refine ld_part (b := p) h (rowK s c) rfl row_K ?_
  try simp only [↓o_nil, ↓o_field, ↓o_add, ↓o_sub, ↓o_mul, ↓o_lss, ↓o_leq, ↓o_gtr, ↓o_geq, ↓o_not, ↓o_pick, ↓o_eqInt, ↓o_neInt, ↓o_eqBool, ↓o_neBool, ↓o_eqPtr, ↓o_nePtr, ↓o_eqPtr', ↓o_eqSl, ↓o_neSl, ↓o_eqStr, ↓o_neStr, ↓o_len, ↓o_lenS, ↓o_min, ↓o_max, ↓o_extract, ↓o_convInt, ↓cd_true, ↓cd_false, ↓gate_tt, ↓gate_ff, ↓gate_tf, ↓gate_ft, ↓gate_undef, ↓o_bind, ↓stay_v, ↓pop_cons, ↓fin_nil, Option.isNone_none, Option.isNone_some, Bool.not_true, Bool.not_false, Nat.zero_add, decide_true, decide_false, if_true, if_false, Bool.false_eq_true, ↓reduceIte]
  refine fullK_spec h fun w h => ?_
  by_cases f2 : 1099511627776 < s.kn
  · omega
  simp only [decide_eq_false f2, ↓o_nil, ↓o_field, ↓o_add, ↓o_sub, ↓o_mul, ↓o_lss, ↓o_leq, ↓o_gtr, ↓o_geq, ↓o_not, ↓o_pick, ↓o_eqInt, ↓o_neInt, ↓o_eqBool, ↓o_neBool, ↓o_eqPtr, ↓o_nePtr, ↓o_eqPtr', ↓o_eqSl, ↓o_neSl, ↓o_eqStr, ↓o_neStr, ↓o_len, ↓o_lenS, ↓o_min, ↓o_max, ↓o_extract, ↓o_convInt, ↓cd_true, ↓cd_false, ↓gate_tt, ↓gate_ff, ↓gate_tf, ↓gate_ft, ↓gate_undef, ↓o_bind, ↓stay_v, ↓pop_cons, ↓fin_nil, Option.isNone_none, Option.isNone_some, Bool.not_true, Bool.not_false, Nat.zero_add, decide_true, decide_false, if_true, if_false, Bool.false_eq_true, ↓reduceIte]
  have h := h.perm (show _ = sI p s b c (pts tb (.cells (kcells zeroK).toArray 49 (0, 0)) * (pts fb (.cells (fcells zeroF).toArray 35 (0, 0)) * R)) by unfold sI; ac_rfl)
  refine Families_spec ok (by omega) h fun u w h => ?_
  obtain ⟨ua, uc, rfl, _, _, _⟩ := osl_shape h
  have h := h.drop
  have h := h.perm (show _ = pts tb (.cells (kcells zeroK).toArray 49 (0, 0)) * (pts fb (.cells (fcells zeroF).toArray 35 (0, 0)) * sI p s b c R) by unfold sI; ac_rfl)
  rw [o_len, o_geq]
  by_cases hf : (2 : Int) ≤ (famsL s ses).length
  · have := out w 23 (by unfold grantT; rw [if_neg e2, if_neg h3, if_neg hn2, if_neg e0', if_neg (by omega), if_pos (by omega)]) h
    rw [decide_eq_true hf, cd_true]
    try simp only [↓o_nil, ↓o_field, ↓o_add, ↓o_sub, ↓o_mul, ↓o_lss, ↓o_leq, ↓o_gtr, ↓o_geq, ↓o_not, ↓o_pick, ↓o_eqInt, ↓o_neInt, ↓o_eqBool, ↓o_neBool, ↓o_eqPtr, ↓o_nePtr, ↓o_eqPtr', ↓o_eqSl, ↓o_neSl, ↓o_eqStr, ↓o_neStr, ↓o_len, ↓o_lenS, ↓o_min, ↓o_max, ↓o_extract, ↓o_convInt, ↓cd_true, ↓cd_false, ↓gate_tt, ↓gate_ff, ↓gate_tf, ↓gate_ft, ↓gate_undef, ↓o_bind, ↓stay_v, ↓pop_cons, ↓fin_nil, Option.isNone_none, Option.isNone_some, Bool.not_true, Bool.not_false, Nat.zero_add, decide_true, decide_false, if_true, if_false, Bool.false_eq_true, ↓reduceIte] at this ⊢
    exact this
  rw [decide_eq_false hf, cd_false]
  have e : grantT s ses cl sc now = (freshS (grantS0 s ses cl sc now) s.fn sc (now + 50), grantF s ses cl sc, freshK (grantS0 s ses cl sc now) s.fn sc (now + 50), 0) := by
    unfold grantT
    rw [if_neg e2, if_neg h3, if_neg hn2, if_neg e0', if_neg (by omega), if_neg (by omega)]
  rw [e] at k
  try simp only [↓o_nil, ↓o_field, ↓o_add, ↓o_sub, ↓o_mul, ↓o_lss, ↓o_leq, ↓o_gtr, ↓o_geq, ↓o_not, ↓o_pick, ↓o_eqInt, ↓o_neInt, ↓o_eqBool, ↓o_neBool, ↓o_eqPtr, ↓o_nePtr, ↓o_eqPtr', ↓o_eqSl, ↓o_neSl, ↓o_eqStr, ↓o_neStr, ↓o_len, ↓o_lenS, ↓o_min, ↓o_max, ↓o_extract, ↓o_convInt, ↓cd_true, ↓cd_false, ↓gate_tt, ↓gate_ff, ↓gate_tf, ↓gate_ft, ↓gate_undef, ↓o_bind, ↓stay_v, ↓pop_cons, ↓fin_nil, Option.isNone_none, Option.isNone_some, Bool.not_true, Bool.not_false, Nat.zero_add, decide_true, decide_false, if_true, if_false, Bool.false_eq_true, ↓reduceIte]
  refine ld_in (b := p) (v := .int .i64 s.fn) h rfl ?_
  refine pvv_of (v := fv (grantF s ses cl sc)) (fun w => by kernel_rfl) ?_
  refine store_all (b := fb) h (xs := fcells zeroF) (vs := fcells (grantF s ses cl sc)) rfl rfl (fcells_one _) fun w h => ?_
  refine dr_sl h fun w h _ => ?_
  try simp only [↓o_nil, ↓o_field, ↓o_add, ↓o_sub, ↓o_mul, ↓o_lss, ↓o_leq, ↓o_gtr, ↓o_geq, ↓o_not, ↓o_pick, ↓o_eqInt, ↓o_neInt, ↓o_eqBool, ↓o_neBool, ↓o_eqPtr, ↓o_nePtr, ↓o_eqPtr', ↓o_eqSl, ↓o_neSl, ↓o_eqStr, ↓o_neStr, ↓o_len, ↓o_lenS, ↓o_min, ↓o_max, ↓o_extract, ↓o_convInt, ↓cd_true, ↓cd_false, ↓gate_tt, ↓gate_ff, ↓gate_tf, ↓gate_ft, ↓gate_undef, ↓o_bind, ↓stay_v, ↓pop_cons, ↓fin_nil, Option.isNone_none, Option.isNone_some, Bool.not_true, Bool.not_false, Nat.zero_add, decide_true, decide_false, if_true, if_false, Bool.false_eq_true, ↓reduceIte]
  refine ld_in (b := p) (v := .map (some b)) h rfl ?_
  try simp only [↓o_nil, ↓o_field, ↓o_add, ↓o_sub, ↓o_mul, ↓o_lss, ↓o_leq, ↓o_gtr, ↓o_geq, ↓o_not, ↓o_pick, ↓o_eqInt, ↓o_neInt, ↓o_eqBool, ↓o_neBool, ↓o_eqPtr, ↓o_nePtr, ↓o_eqPtr', ↓o_eqSl, ↓o_neSl, ↓o_eqStr, ↓o_neStr, ↓o_len, ↓o_lenS, ↓o_min, ↓o_max, ↓o_extract, ↓o_convInt, ↓cd_true, ↓cd_false, ↓gate_tt, ↓gate_ff, ↓gate_tf, ↓gate_ft, ↓gate_undef, ↓o_bind, ↓stay_v, ↓pop_cons, ↓fin_nil, Option.isNone_none, Option.isNone_some, Bool.not_true, Bool.not_false, Nat.zero_add, decide_true, decide_false, if_true, if_false, Bool.false_eq_true, ↓reduceIte]
  refine ld_in (b := fb) (v := .int .i64 s.fn) h rfl ?_
  refine ld_agg (b := fb) (xs := fcells (grantF s ses cl sc)) h rfl ?_
  refine update_sl (b := b) h fun w h => ?_
  rw [show putM (fmp s.f) s.fn (.agg (fcells (grantF s ses cl sc)).toArray) = fmp (s.f ++ [grantF s ses cl sc]) from putM_newG (key := Fam.id) (val := fv) (y := grantF s ses cl sc) fun x hx => (ok.fa x hx).id2] at h
  try simp only [↓o_nil, ↓o_field, ↓o_add, ↓o_sub, ↓o_mul, ↓o_lss, ↓o_leq, ↓o_gtr, ↓o_geq, ↓o_not, ↓o_pick, ↓o_eqInt, ↓o_neInt, ↓o_eqBool, ↓o_neBool, ↓o_eqPtr, ↓o_nePtr, ↓o_eqPtr', ↓o_eqSl, ↓o_neSl, ↓o_eqStr, ↓o_neStr, ↓o_len, ↓o_lenS, ↓o_min, ↓o_max, ↓o_extract, ↓o_convInt, ↓cd_true, ↓cd_false, ↓gate_tt, ↓gate_ff, ↓gate_tf, ↓gate_ft, ↓gate_undef, ↓o_bind, ↓stay_v, ↓pop_cons, ↓fin_nil, Option.isNone_none, Option.isNone_some, Bool.not_true, Bool.not_false, Nat.zero_add, decide_true, decide_false, if_true, if_false, Bool.false_eq_true, ↓reduceIte]
  refine ld_in (b := p) (v := .int .i64 s.fn) h rfl ?_
  try rw [o_add]
  rw [i64_of (by omega) (by omega)]
  try simp only [↓o_nil, ↓o_field, ↓o_add, ↓o_sub, ↓o_mul, ↓o_lss, ↓o_leq, ↓o_gtr, ↓o_geq, ↓o_not, ↓o_pick, ↓o_eqInt, ↓o_neInt, ↓o_eqBool, ↓o_neBool, ↓o_eqPtr, ↓o_nePtr, ↓o_eqPtr', ↓o_eqSl, ↓o_neSl, ↓o_eqStr, ↓o_neStr, ↓o_len, ↓o_lenS, ↓o_min, ↓o_max, ↓o_extract, ↓o_convInt, ↓cd_true, ↓cd_false, ↓gate_tt, ↓gate_ff, ↓gate_tf, ↓gate_ft, ↓gate_undef, ↓o_bind, ↓stay_v, ↓pop_cons, ↓fin_nil, Option.isNone_none, Option.isNone_some, Bool.not_true, Bool.not_false, Nat.zero_add, decide_true, decide_false, if_true, if_false, Bool.false_eq_true, ↓reduceIte]
  refine store_sl (b := p) h rfl (by simp [stcells]) fun w h => ?_
  try simp only [↓o_nil, ↓o_field, ↓o_add, ↓o_sub, ↓o_mul, ↓o_lss, ↓o_leq, ↓o_gtr, ↓o_geq, ↓o_not, ↓o_pick, ↓o_eqInt, ↓o_neInt, ↓o_eqBool, ↓o_neBool, ↓o_eqPtr, ↓o_nePtr, ↓o_eqPtr', ↓o_eqSl, ↓o_neSl, ↓o_eqStr, ↓o_neStr, ↓o_len, ↓o_lenS, ↓o_min, ↓o_max, ↓o_extract, ↓o_convInt, ↓cd_true, ↓cd_false, ↓gate_tt, ↓gate_ff, ↓gate_tf, ↓gate_ft, ↓gate_undef, ↓o_bind, ↓stay_v, ↓pop_cons, ↓fin_nil, Option.isNone_none, Option.isNone_some, Bool.not_true, Bool.not_false, Nat.zero_add, decide_true, decide_false, if_true, if_false, Bool.false_eq_true, ↓reduceIte]
  refine store_sl (b := p) h rfl (by simp [stcells]) fun w h => ?_
  refine dr_sl h fun w h _ => ?_
  try simp only [↓o_nil, ↓o_field, ↓o_add, ↓o_sub, ↓o_mul, ↓o_lss, ↓o_leq, ↓o_gtr, ↓o_geq, ↓o_not, ↓o_pick, ↓o_eqInt, ↓o_neInt, ↓o_eqBool, ↓o_neBool, ↓o_eqPtr, ↓o_nePtr, ↓o_eqPtr', ↓o_eqSl, ↓o_neSl, ↓o_eqStr, ↓o_neStr, ↓o_len, ↓o_lenS, ↓o_min, ↓o_max, ↓o_extract, ↓o_convInt, ↓cd_true, ↓cd_false, ↓gate_tt, ↓gate_ff, ↓gate_tf, ↓gate_ft, ↓gate_undef, ↓o_bind, ↓stay_v, ↓pop_cons, ↓fin_nil, Option.isNone_none, Option.isNone_some, Bool.not_true, Bool.not_false, Nat.zero_add, decide_true, decide_false, if_true, if_false, Bool.false_eq_true, ↓reduceIte]
  try rw [o_add]
  rw [i64_of (by omega) (by omega)]
  refine ld_agg (b := fb) (xs := fcells (grantF s ses cl sc)) h rfl ?_
  refine ld_in (b := fb) (v := .int .i64 s.fn) h rfl ?_
  have h := h.perm (show _ = sI p (grantS0 s ses cl sc now) b c (pts fb (.cells (fcells (grantF s ses cl sc)).toArray 35 (0, 0)) * (pts tb (.cells (kcells zeroK).toArray 49 (0, 0)) * R)) by unfold sI grantS0; simp only [stcells]; ac_rfl)
  refine fresh_spec (fam := s.fn) (sc := sc) (til := now + 50) (ok_grant0 ok n0 n1) (by omega) h fun w h => ?_
  refine st_agg (b := fb) (xs := fcells (grantF s ses cl sc)) h rfl ?_
  refine both_ret (b := fb) (c := tb) (x := grantF s ses cl sc) (y := zeroK) (R := sI p (freshS (grantS0 s ses cl sc now) s.fn sc (now + 50)) b c R) h (by unfold sI; ac_rfl) fun w h => k w h
def refT (s : St) (fam num now : Int) : St × Fam × Tok × Int :=
  if timeE s now ≠ 0 then (s, zeroF, zeroK, timeE s now)
  else if (findF s fam).2 ≠ 0 then (s, zeroF, zeroK, (findF s fam).2)
  else if num < 1 ∨ (findF s fam).1.nx < num then (s, zeroF, zeroK, 10)
  else if num < (findF s fam).1.nx then ({ dropS s fam with noted := now }, zeroF, zeroK, 13)
  else if 1099511627776 < s.kn ∨ 1099511627776 ≤ (findF s fam).1.nx then (s, zeroF, zeroK, 7)
  else
    let f := { (findF s fam).1 with nx := (findF s fam).1.nx + 1 }
    let s1 : St := { s with noted := now, f := putG Fam.id s.f f }
    (freshS s1 fam f.sc (now + 50), f, freshK s1 fam f.sc (now + 50), 0)
theorem findF_ok {s : St} {id : Int} (h : (findF s id).2 = 0) : (findF s id).1 ∈ s.f ∧ (findF s id).1.id = id := by
  unfold findF at h ⊢
  split at h
  · cases h
  · rename_i h1
    rw [if_neg h1]
    split at h
    · rename_i x hx
      exact findG_some hx
    · cases h
theorem findK_ok {s : St} {id : Int} (h : (findK s id).2 = 0) : (findK s id).1 ∈ s.k ∧ (findK s id).1.id = id := by
  unfold findK at h ⊢
  split at h
  · cases h
  · rename_i h1
    rw [if_neg h1]
    split at h
    · rename_i x hx
      exact findG_some hx
    · cases h
theorem ok_put {s : St} {m : Nat} {f : Fam} {now : Int} (ok : OkS s m) (h0 : 0 ≤ now) (h1 : now ≤ 1099511627776) (n1 : 1 ≤ f.nx) (n2 : f.nx ≤ 1099511627776) : OkS { s with noted := now, f := putG Fam.id s.f f } m := by
  refine ⟨ok.f1, ok.f2, ok.k1, ok.k2, h0, h1, rise_put ok.fr, ok.kr, ?_, fun x hx => let h := ok.ka x hx; ⟨h.id1, h.id2, h.t0, h.t1⟩, by unfold putG; simpa using ok.ff, ok.kf⟩
  intro x hx
  obtain ⟨z, hz, rfl⟩ := List.mem_map.1 hx
  have h := ok.fa z hz
  split
  · rename_i e
    exact ⟨by rw [← e]; exact h.id1, by rw [← e]; exact h.id2, n1, n2⟩
  · exact ⟨h.id1, h.id2, h.n1, h.n2⟩
theorem ok_ref {s : St} {m : Nat} {fam num now : Int} (ok : OkS s m) : OkS (refT s fam num now).1 (m + 1) := by
  unfold refT
  repeat' split
  all_goals try exact ok_up ok
  · rename_i h1 h2 h3 h4
    obtain ⟨a, b, _⟩ := time_ok (show timeE s now = 0 by simpa using h1)
    exact ok_up (ok_noted (ok_drop ok) a b)
  · rename_i h1 h2 h3 h4 h5
    obtain ⟨a, b, _⟩ := time_ok (show timeE s now = 0 by simpa using h1)
    have hm := findF_ok (s := s) (id := fam) (by simpa using h2)
    have := (ok.fa _ hm.1).n1
    exact ok_fresh (ok_put ok a b (by simp only; omega) (by simp only; omega)) (by omega)
theorem Refresh_spec {p b c m : Nat} {s : St} {fam num now : Int} (ok : OkS s m) (hm : m ≤ 900000) (h : sat E w (sI p s b c R))
    (k : ∀ w', sat E w' (sI p (refT s fam num now).1 b c R) → K (.tuple #[fv (refT s fam num now).2.1, kv (refT s fam num now).2.2.1, .int .i64 (refT s fam num now).2.2.2]) w') :
    Calls prog 18 #[.pointer (some ⟨p, 0, none⟩), .int .i64 fam, .int .i64 num, .int .i64 now] w (Ret K) := by
  have := ok.f1; have := ok.f2; have := ok.k1; have := ok.k2
  refine c18 ?_
  unfold B18
  refine fam_new h fun ab w h => ?_
  refine tok_new h fun tb w h => ?_
  refine time_spec (s := s) (b := b) (c := c) h ?_
  refine fam_new h fun fb w h => ?_
  -- behind the look for the family
  refine jn_cut (fun σ w => ∃ (e : Int) (x : Fam), σ = [.int .i64 e] ∧ ((timeE s now ≠ 0 ∧ e = timeE s now) ∨ (timeE s now = 0 ∧ e = (findF s fam).2 ∧ x = (findF s fam).1)) ∧
      sat E w (pts fb (.cells (fcells x).toArray 35 (0, 0)) * (pts tb (.cells (kcells zeroK).toArray 49 (0, 0)) * (pts ab (.cells (fcells zeroF).toArray 35 (0, 0)) * sI p s b c R)))) (fun kj hkj => ?_) ?_
  · rw [o_eqInt]
    by_cases he : timeE s now = 0
    · rw [decide_eq_true he, cd_true]
      simp only [↓o_nil, ↓o_field, ↓o_add, ↓o_sub, ↓o_mul, ↓o_lss, ↓o_leq, ↓o_gtr, ↓o_geq, ↓o_not, ↓o_pick, ↓o_eqInt, ↓o_neInt, ↓o_eqBool, ↓o_neBool, ↓o_eqPtr, ↓o_nePtr, ↓o_eqPtr', ↓o_eqSl, ↓o_neSl, ↓o_eqStr, ↓o_neStr, ↓o_len, ↓o_lenS, ↓o_min, ↓o_max, ↓o_extract, ↓o_convInt, ↓cd_true, ↓cd_false, ↓gate_tt, ↓gate_ff, ↓gate_tf, ↓gate_ft, ↓gate_undef, ↓o_bind, ↓stay_v, ↓pop_cons, ↓fin_nil, Option.isNone_none, Option.isNone_some, Bool.not_true, Bool.not_false, Nat.zero_add, decide_true, decide_false, if_true, if_false, Bool.false_eq_true, ↓reduceIte]
      refine ld_part (b := p) h (rowF s b) rfl row_F ?_
      have h := h.perm (show _ = sI p s b c (pts fb (.cells (fcells zeroF).toArray 35 (0, 0)) * (pts tb (.cells (kcells zeroK).toArray 49 (0, 0)) * (pts ab (.cells (fcells zeroF).toArray 35 (0, 0)) * R))) by unfold sI; ac_rfl)
      refine findF_spec (id := fam) h fun w h => ?_
      rw [o_extract, o_extract]
      refine store_all (b := fb) h (xs := fcells zeroF) (vs := fcells (findF s fam).1) rfl rfl (fcells_one _) fun w h => ?_
      exact hkj _ _ ⟨_, _, rfl, .inr ⟨he, rfl, rfl⟩, h.perm (by unfold sI; ac_rfl)⟩
    · rw [decide_eq_false he, cd_false]
      exact hkj _ _ ⟨_, zeroF, rfl, .inl ⟨he, rfl⟩, h⟩
  · clear h
    rintro σ w ⟨e, x, rfl, hx, h⟩
    rw [pop_cons, fin_nil]
    refine jn_cut (fun σ w => ∃ (e : Int) (s' : St), σ = [.int .i64 e] ∧ ((e ≠ 0 ∧ refT s fam num now = (s', zeroF, zeroK, e)) ∨ (e = 0 ∧ s' = s ∧ timeE s now = 0 ∧ (findF s fam).2 = 0 ∧ x = (findF s fam).1 ∧ ¬ (num < 1 ∨ x.nx < num) ∧ ¬ num < x.nx ∧ ¬ 1099511627776 ≤ x.nx)) ∧
      sat E w (pts fb (.cells (fcells x).toArray 35 (0, 0)) * (pts tb (.cells (kcells zeroK).toArray 49 (0, 0)) * (pts ab (.cells (fcells zeroF).toArray 35 (0, 0)) * sI p s' b c R)))) (fun kj hkj => ?_) ?_
    · rw [o_neInt]
      by_cases he : e = 0
      case neg =>
        rw [show (!decide (e = 0)) = true by simp [he], cd_true]
        refine hkj _ _ ⟨e, s, rfl, .inl ⟨he, ?_⟩, h⟩
        unfold refT
        rcases hx with ⟨h1, rfl⟩ | ⟨h1, rfl, _⟩
        · rw [if_pos h1]
        · rw [if_neg (by simpa using h1), if_pos he]
      rw [show (!decide (e = 0)) = false by simp [he], cd_false]
      subst he
      obtain ⟨ht, hf, rfl⟩ : timeE s now = 0 ∧ (findF s fam).2 = 0 ∧ x = (findF s fam).1 := by
        rcases hx with ⟨h1, h2⟩ | ⟨h1, h2, h3⟩
        · exact absurd h2.symm h1
        · exact ⟨h1, h2.symm, h3⟩
      have ht' : ¬ timeE s now ≠ 0 := by simpa using ht
      have hf' : ¬ (findF s fam).2 ≠ 0 := by simpa using hf
      obtain ⟨n0, n1, n2⟩ := time_ok ht
      generalize hxx : (findF s fam).1 = x at h hkj
      have wr : num < 1 ∨ x.nx < num → refT s fam num now = (s, zeroF, zeroK, 10) := fun hw => by unfold refT; rw [if_neg ht', if_neg hf', hxx, if_pos hw]
      rw [o_lss]
      by_cases w1 : num < 1
      · simp only [w1, ↓o_nil, ↓o_field, ↓o_add, ↓o_sub, ↓o_mul, ↓o_lss, ↓o_leq, ↓o_gtr, ↓o_geq, ↓o_not, ↓o_pick, ↓o_eqInt, ↓o_neInt, ↓o_eqBool, ↓o_neBool, ↓o_eqPtr, ↓o_nePtr, ↓o_eqPtr', ↓o_eqSl, ↓o_neSl, ↓o_eqStr, ↓o_neStr, ↓o_len, ↓o_lenS, ↓o_min, ↓o_max, ↓o_extract, ↓o_convInt, ↓cd_true, ↓cd_false, ↓gate_tt, ↓gate_ff, ↓gate_tf, ↓gate_ft, ↓gate_undef, ↓o_bind, ↓stay_v, ↓pop_cons, ↓fin_nil, Option.isNone_none, Option.isNone_some, Bool.not_true, Bool.not_false, Nat.zero_add, decide_true, decide_false, if_true, if_false, Bool.false_eq_true, ↓reduceIte]
        exact hkj _ _ ⟨10, s, rfl, .inl ⟨by decide, wr (.inl w1)⟩, h⟩
      simp only [w1, ↓o_nil, ↓o_field, ↓o_add, ↓o_sub, ↓o_mul, ↓o_lss, ↓o_leq, ↓o_gtr, ↓o_geq, ↓o_not, ↓o_pick, ↓o_eqInt, ↓o_neInt, ↓o_eqBool, ↓o_neBool, ↓o_eqPtr, ↓o_nePtr, ↓o_eqPtr', ↓o_eqSl, ↓o_neSl, ↓o_eqStr, ↓o_neStr, ↓o_len, ↓o_lenS, ↓o_min, ↓o_max, ↓o_extract, ↓o_convInt, ↓cd_true, ↓cd_false, ↓gate_tt, ↓gate_ff, ↓gate_tf, ↓gate_ft, ↓gate_undef, ↓o_bind, ↓stay_v, ↓pop_cons, ↓fin_nil, Option.isNone_none, Option.isNone_some, Bool.not_true, Bool.not_false, Nat.zero_add, decide_true, decide_false, if_true, if_false, Bool.false_eq_true, ↓reduceIte]
      refine ld_in (b := fb) (v := .int .i64 x.nx) h rfl ?_
      try simp only [↓o_nil, ↓o_field, ↓o_add, ↓o_sub, ↓o_mul, ↓o_lss, ↓o_leq, ↓o_gtr, ↓o_geq, ↓o_not, ↓o_pick, ↓o_eqInt, ↓o_neInt, ↓o_eqBool, ↓o_neBool, ↓o_eqPtr, ↓o_nePtr, ↓o_eqPtr', ↓o_eqSl, ↓o_neSl, ↓o_eqStr, ↓o_neStr, ↓o_len, ↓o_lenS, ↓o_min, ↓o_max, ↓o_extract, ↓o_convInt, ↓cd_true, ↓cd_false, ↓gate_tt, ↓gate_ff, ↓gate_tf, ↓gate_ft, ↓gate_undef, ↓o_bind, ↓stay_v, ↓pop_cons, ↓fin_nil, Option.isNone_none, Option.isNone_some, Bool.not_true, Bool.not_false, Nat.zero_add, decide_true, decide_false, if_true, if_false, Bool.false_eq_true, ↓reduceIte]
      by_cases w2 : x.nx < num
      · simp only [w2, ↓o_nil, ↓o_field, ↓o_add, ↓o_sub, ↓o_mul, ↓o_lss, ↓o_leq, ↓o_gtr, ↓o_geq, ↓o_not, ↓o_pick, ↓o_eqInt, ↓o_neInt, ↓o_eqBool, ↓o_neBool, ↓o_eqPtr, ↓o_nePtr, ↓o_eqPtr', ↓o_eqSl, ↓o_neSl, ↓o_eqStr, ↓o_neStr, ↓o_len, ↓o_lenS, ↓o_min, ↓o_max, ↓o_extract, ↓o_convInt, ↓cd_true, ↓cd_false, ↓gate_tt, ↓gate_ff, ↓gate_tf, ↓gate_ft, ↓gate_undef, ↓o_bind, ↓stay_v, ↓pop_cons, ↓fin_nil, Option.isNone_none, Option.isNone_some, Bool.not_true, Bool.not_false, Nat.zero_add, decide_true, decide_false, if_true, if_false, Bool.false_eq_true, ↓reduceIte]
        exact hkj _ _ ⟨10, s, rfl, .inl ⟨by decide, wr (.inr w2)⟩, h⟩
      simp only [w2, ↓o_nil, ↓o_field, ↓o_add, ↓o_sub, ↓o_mul, ↓o_lss, ↓o_leq, ↓o_gtr, ↓o_geq, ↓o_not, ↓o_pick, ↓o_eqInt, ↓o_neInt, ↓o_eqBool, ↓o_neBool, ↓o_eqPtr, ↓o_nePtr, ↓o_eqPtr', ↓o_eqSl, ↓o_neSl, ↓o_eqStr, ↓o_neStr, ↓o_len, ↓o_lenS, ↓o_min, ↓o_max, ↓o_extract, ↓o_convInt, ↓cd_true, ↓cd_false, ↓gate_tt, ↓gate_ff, ↓gate_tf, ↓gate_ft, ↓gate_undef, ↓o_bind, ↓stay_v, ↓pop_cons, ↓fin_nil, Option.isNone_none, Option.isNone_some, Bool.not_true, Bool.not_false, Nat.zero_add, decide_true, decide_false, if_true, if_false, Bool.false_eq_true, ↓reduceIte]
      refine ld_in (b := fb) (v := .int .i64 x.nx) h rfl ?_
      try simp only [↓o_nil, ↓o_field, ↓o_add, ↓o_sub, ↓o_mul, ↓o_lss, ↓o_leq, ↓o_gtr, ↓o_geq, ↓o_not, ↓o_pick, ↓o_eqInt, ↓o_neInt, ↓o_eqBool, ↓o_neBool, ↓o_eqPtr, ↓o_nePtr, ↓o_eqPtr', ↓o_eqSl, ↓o_neSl, ↓o_eqStr, ↓o_neStr, ↓o_len, ↓o_lenS, ↓o_min, ↓o_max, ↓o_extract, ↓o_convInt, ↓cd_true, ↓cd_false, ↓gate_tt, ↓gate_ff, ↓gate_tf, ↓gate_ft, ↓gate_undef, ↓o_bind, ↓stay_v, ↓pop_cons, ↓fin_nil, Option.isNone_none, Option.isNone_some, Bool.not_true, Bool.not_false, Nat.zero_add, decide_true, decide_false, if_true, if_false, Bool.false_eq_true, ↓reduceIte]
      by_cases w3 : num < x.nx
      · simp only [w3, ↓o_nil, ↓o_field, ↓o_add, ↓o_sub, ↓o_mul, ↓o_lss, ↓o_leq, ↓o_gtr, ↓o_geq, ↓o_not, ↓o_pick, ↓o_eqInt, ↓o_neInt, ↓o_eqBool, ↓o_neBool, ↓o_eqPtr, ↓o_nePtr, ↓o_eqPtr', ↓o_eqSl, ↓o_neSl, ↓o_eqStr, ↓o_neStr, ↓o_len, ↓o_lenS, ↓o_min, ↓o_max, ↓o_extract, ↓o_convInt, ↓cd_true, ↓cd_false, ↓gate_tt, ↓gate_ff, ↓gate_tf, ↓gate_ft, ↓gate_undef, ↓o_bind, ↓stay_v, ↓pop_cons, ↓fin_nil, Option.isNone_none, Option.isNone_some, Bool.not_true, Bool.not_false, Nat.zero_add, decide_true, decide_false, if_true, if_false, Bool.false_eq_true, ↓reduceIte]
        have h := h.perm (show _ = sI p s b c (pts fb (.cells (fcells x).toArray 35 (0, 0)) * (pts tb (.cells (kcells zeroK).toArray 49 (0, 0)) * (pts ab (.cells (fcells zeroF).toArray 35 (0, 0)) * R))) by unfold sI; ac_rfl)
        refine drop_spec (id := fam) ok h fun w h => ?_
        try simp only [↓o_nil, ↓o_field, ↓o_add, ↓o_sub, ↓o_mul, ↓o_lss, ↓o_leq, ↓o_gtr, ↓o_geq, ↓o_not, ↓o_pick, ↓o_eqInt, ↓o_neInt, ↓o_eqBool, ↓o_neBool, ↓o_eqPtr, ↓o_nePtr, ↓o_eqPtr', ↓o_eqSl, ↓o_neSl, ↓o_eqStr, ↓o_neStr, ↓o_len, ↓o_lenS, ↓o_min, ↓o_max, ↓o_extract, ↓o_convInt, ↓cd_true, ↓cd_false, ↓gate_tt, ↓gate_ff, ↓gate_tf, ↓gate_ft, ↓gate_undef, ↓o_bind, ↓stay_v, ↓pop_cons, ↓fin_nil, Option.isNone_none, Option.isNone_some, Bool.not_true, Bool.not_false, Nat.zero_add, decide_true, decide_false, if_true, if_false, Bool.false_eq_true, ↓reduceIte]
        refine store_sl (b := p) h rfl (by simp [stcells]) fun w h => ?_
        refine hkj _ _ ⟨13, { dropS s fam with noted := now }, rfl, .inl ⟨by decide, ?_⟩, h.perm (by unfold sI; simp only [stcells]; ac_rfl)⟩
        unfold refT
        rw [if_neg ht', if_neg hf', hxx, if_neg (by omega), if_pos w3]
      simp only [w3, ↓o_nil, ↓o_field, ↓o_add, ↓o_sub, ↓o_mul, ↓o_lss, ↓o_leq, ↓o_gtr, ↓o_geq, ↓o_not, ↓o_pick, ↓o_eqInt, ↓o_neInt, ↓o_eqBool, ↓o_neBool, ↓o_eqPtr, ↓o_nePtr, ↓o_eqPtr', ↓o_eqSl, ↓o_neSl, ↓o_eqStr, ↓o_neStr, ↓o_len, ↓o_lenS, ↓o_min, ↓o_max, ↓o_extract, ↓o_convInt, ↓cd_true, ↓cd_false, ↓gate_tt, ↓gate_ff, ↓gate_tf, ↓gate_ft, ↓gate_undef, ↓o_bind, ↓stay_v, ↓pop_cons, ↓fin_nil, Option.isNone_none, Option.isNone_some, Bool.not_true, Bool.not_false, Nat.zero_add, decide_true, decide_false, if_true, if_false, Bool.false_eq_true, ↓reduceIte]
      refine ld_part (b := p) h (rowK s c) rfl row_K ?_
      refine fullK_spec h fun w h => ?_
      by_cases f2 : 1099511627776 < s.kn
      · omega
      simp only [decide_eq_false f2, ↓o_nil, ↓o_field, ↓o_add, ↓o_sub, ↓o_mul, ↓o_lss, ↓o_leq, ↓o_gtr, ↓o_geq, ↓o_not, ↓o_pick, ↓o_eqInt, ↓o_neInt, ↓o_eqBool, ↓o_neBool, ↓o_eqPtr, ↓o_nePtr, ↓o_eqPtr', ↓o_eqSl, ↓o_neSl, ↓o_eqStr, ↓o_neStr, ↓o_len, ↓o_lenS, ↓o_min, ↓o_max, ↓o_extract, ↓o_convInt, ↓cd_true, ↓cd_false, ↓gate_tt, ↓gate_ff, ↓gate_tf, ↓gate_ft, ↓gate_undef, ↓o_bind, ↓stay_v, ↓pop_cons, ↓fin_nil, Option.isNone_none, Option.isNone_some, Bool.not_true, Bool.not_false, Nat.zero_add, decide_true, decide_false, if_true, if_false, Bool.false_eq_true, ↓reduceIte]
      refine ld_in (b := fb) (v := .int .i64 x.nx) h rfl ?_
      try simp only [↓o_nil, ↓o_field, ↓o_add, ↓o_sub, ↓o_mul, ↓o_lss, ↓o_leq, ↓o_gtr, ↓o_geq, ↓o_not, ↓o_pick, ↓o_eqInt, ↓o_neInt, ↓o_eqBool, ↓o_neBool, ↓o_eqPtr, ↓o_nePtr, ↓o_eqPtr', ↓o_eqSl, ↓o_neSl, ↓o_eqStr, ↓o_neStr, ↓o_len, ↓o_lenS, ↓o_min, ↓o_max, ↓o_extract, ↓o_convInt, ↓cd_true, ↓cd_false, ↓gate_tt, ↓gate_ff, ↓gate_tf, ↓gate_ft, ↓gate_undef, ↓o_bind, ↓stay_v, ↓pop_cons, ↓fin_nil, Option.isNone_none, Option.isNone_some, Bool.not_true, Bool.not_false, Nat.zero_add, decide_true, decide_false, if_true, if_false, Bool.false_eq_true, ↓reduceIte]
      by_cases w4 : 1099511627776 ≤ x.nx
      · simp only [w4, ↓o_nil, ↓o_field, ↓o_add, ↓o_sub, ↓o_mul, ↓o_lss, ↓o_leq, ↓o_gtr, ↓o_geq, ↓o_not, ↓o_pick, ↓o_eqInt, ↓o_neInt, ↓o_eqBool, ↓o_neBool, ↓o_eqPtr, ↓o_nePtr, ↓o_eqPtr', ↓o_eqSl, ↓o_neSl, ↓o_eqStr, ↓o_neStr, ↓o_len, ↓o_lenS, ↓o_min, ↓o_max, ↓o_extract, ↓o_convInt, ↓cd_true, ↓cd_false, ↓gate_tt, ↓gate_ff, ↓gate_tf, ↓gate_ft, ↓gate_undef, ↓o_bind, ↓stay_v, ↓pop_cons, ↓fin_nil, Option.isNone_none, Option.isNone_some, Bool.not_true, Bool.not_false, Nat.zero_add, decide_true, decide_false, if_true, if_false, Bool.false_eq_true, ↓reduceIte]
        refine hkj _ _ ⟨7, s, rfl, .inl ⟨by decide, ?_⟩, h⟩
        unfold refT
        rw [if_neg ht', if_neg hf', hxx, if_neg (by omega), if_neg w3, if_pos (.inr w4)]
      simp only [w4, ↓o_nil, ↓o_field, ↓o_add, ↓o_sub, ↓o_mul, ↓o_lss, ↓o_leq, ↓o_gtr, ↓o_geq, ↓o_not, ↓o_pick, ↓o_eqInt, ↓o_neInt, ↓o_eqBool, ↓o_neBool, ↓o_eqPtr, ↓o_nePtr, ↓o_eqPtr', ↓o_eqSl, ↓o_neSl, ↓o_eqStr, ↓o_neStr, ↓o_len, ↓o_lenS, ↓o_min, ↓o_max, ↓o_extract, ↓o_convInt, ↓cd_true, ↓cd_false, ↓gate_tt, ↓gate_ff, ↓gate_tf, ↓gate_ft, ↓gate_undef, ↓o_bind, ↓stay_v, ↓pop_cons, ↓fin_nil, Option.isNone_none, Option.isNone_some, Bool.not_true, Bool.not_false, Nat.zero_add, decide_true, decide_false, if_true, if_false, Bool.false_eq_true, ↓reduceIte]
      exact hkj _ _ ⟨0, s, rfl, .inr ⟨rfl, rfl, ht, hf, rfl, by omega, w3, w4⟩, h⟩
    · clear h hx
      rintro σ w ⟨e, s', rfl, hx, h⟩
      rw [pop_cons, fin_nil, o_neInt]
      rcases hx with ⟨he, hr⟩ | ⟨rfl, rfl, ht, hf, rfl, w1, w2, w3⟩
      · rw [show (!decide (e = 0)) = true by simp [he], cd_true]
        rw [hr] at k
        refine zeroF_build ?_
        refine zeroK_build ?_
        exact both_ret (b := ab) (c := tb) (x := zeroF) (y := zeroK) (R := pts fb (.cells (fcells x).toArray 35 (0, 0)) * sI p s' b c R) h (by unfold sI; ac_rfl) fun w h => k w h.drop
      · rw [show (!decide ((0 : Int) = 0)) = false from rfl, cd_false]
        have ht' : ¬ timeE s' now ≠ 0 := by simpa using ht
        have hf' : ¬ (findF s' fam).2 ≠ 0 := by simpa using hf
        obtain ⟨n0, n1, n2⟩ := time_ok ht
        obtain ⟨hmem, hid⟩ := findF_ok hf
        have er : refT s' fam num now = (let f := { (findF s' fam).1 with nx := (findF s' fam).1.nx + 1 }
            let s1 : St := { s' with noted := now, f := putG Fam.id s'.f f }
            (freshS s1 fam f.sc (now + 50), f, freshK s1 fam f.sc (now + 50), 0)) := by
          unfold refT
          rw [if_neg ht', if_neg hf', if_neg w1, if_neg w2, if_neg (by omega)]
        rw [er] at k
        generalize (findF s' fam).1 = x at h w1 w2 w3 hmem hid k
        have hx1 := (ok.fa x hmem).n1
        simp only at k
        simp only [↓o_nil, ↓o_field, ↓o_add, ↓o_sub, ↓o_mul, ↓o_lss, ↓o_leq, ↓o_gtr, ↓o_geq, ↓o_not, ↓o_pick, ↓o_eqInt, ↓o_neInt, ↓o_eqBool, ↓o_neBool, ↓o_eqPtr, ↓o_nePtr, ↓o_eqPtr', ↓o_eqSl, ↓o_neSl, ↓o_eqStr, ↓o_neStr, ↓o_len, ↓o_lenS, ↓o_min, ↓o_max, ↓o_extract, ↓o_convInt, ↓cd_true, ↓cd_false, ↓gate_tt, ↓gate_ff, ↓gate_tf, ↓gate_ft, ↓gate_undef, ↓o_bind, ↓stay_v, ↓pop_cons, ↓fin_nil, Option.isNone_none, Option.isNone_some, Bool.not_true, Bool.not_false, Nat.zero_add, decide_true, decide_false, if_true, if_false, Bool.false_eq_true, ↓reduceIte]
        refine ld_in (b := fb) (v := .int .i64 x.nx) h rfl ?_
        try simp only [↓o_nil, ↓o_field, ↓o_add, ↓o_sub, ↓o_mul, ↓o_lss, ↓o_leq, ↓o_gtr, ↓o_geq, ↓o_not, ↓o_pick, ↓o_eqInt, ↓o_neInt, ↓o_eqBool, ↓o_neBool, ↓o_eqPtr, ↓o_nePtr, ↓o_eqPtr', ↓o_eqSl, ↓o_neSl, ↓o_eqStr, ↓o_neStr, ↓o_len, ↓o_lenS, ↓o_min, ↓o_max, ↓o_extract, ↓o_convInt, ↓cd_true, ↓cd_false, ↓gate_tt, ↓gate_ff, ↓gate_tf, ↓gate_ft, ↓gate_undef, ↓o_bind, ↓stay_v, ↓pop_cons, ↓fin_nil, Option.isNone_none, Option.isNone_some, Bool.not_true, Bool.not_false, Nat.zero_add, decide_true, decide_false, if_true, if_false, Bool.false_eq_true, ↓reduceIte]
        rw [i64_of (by omega) (by omega)]
        refine store_sl (b := fb) h rfl (by simp [fcells]) fun w h => ?_
        generalize hx' : ({ x with nx := x.nx + 1 } : Fam) = x' at k
        have hid' : x'.id = fam := by rw [← hx']; exact hid
        have hsc : x'.sc = x.sc := by rw [← hx']
        have hnx : x'.nx = x.nx + 1 := by rw [← hx']
        rw [← hsc] at k
        have hcs : (fcells x).set 4 (.int .i64 (x.nx + 1)) = fcells x' := by rw [← hx']; rfl
        rw [hcs] at h
        refine dr_sl h fun w h _ => ?_
        try simp only [↓o_nil, ↓o_field, ↓o_add, ↓o_sub, ↓o_mul, ↓o_lss, ↓o_leq, ↓o_gtr, ↓o_geq, ↓o_not, ↓o_pick, ↓o_eqInt, ↓o_neInt, ↓o_eqBool, ↓o_neBool, ↓o_eqPtr, ↓o_nePtr, ↓o_eqPtr', ↓o_eqSl, ↓o_neSl, ↓o_eqStr, ↓o_neStr, ↓o_len, ↓o_lenS, ↓o_min, ↓o_max, ↓o_extract, ↓o_convInt, ↓cd_true, ↓cd_false, ↓gate_tt, ↓gate_ff, ↓gate_tf, ↓gate_ft, ↓gate_undef, ↓o_bind, ↓stay_v, ↓pop_cons, ↓fin_nil, Option.isNone_none, Option.isNone_some, Bool.not_true, Bool.not_false, Nat.zero_add, decide_true, decide_false, if_true, if_false, Bool.false_eq_true, ↓reduceIte]
        refine ld_in (b := p) (v := .map (some b)) h rfl ?_
        refine ld_agg (b := fb) (xs := fcells x') h rfl ?_
        refine update_sl (b := b) h fun w h => ?_
        have hput : putM (fmp s'.f) fam (.agg (fcells x').toArray) = fmp (putG Fam.id s'.f x') := by
          rw [← hid']
          exact putM_oldG (key := Fam.id) (val := fv) (y := x') ok.fr ⟨x, hmem, by rw [hid', hid]⟩
        rw [hput] at h
        try simp only [↓o_nil, ↓o_field, ↓o_add, ↓o_sub, ↓o_mul, ↓o_lss, ↓o_leq, ↓o_gtr, ↓o_geq, ↓o_not, ↓o_pick, ↓o_eqInt, ↓o_neInt, ↓o_eqBool, ↓o_neBool, ↓o_eqPtr, ↓o_nePtr, ↓o_eqPtr', ↓o_eqSl, ↓o_neSl, ↓o_eqStr, ↓o_neStr, ↓o_len, ↓o_lenS, ↓o_min, ↓o_max, ↓o_extract, ↓o_convInt, ↓cd_true, ↓cd_false, ↓gate_tt, ↓gate_ff, ↓gate_tf, ↓gate_ft, ↓gate_undef, ↓o_bind, ↓stay_v, ↓pop_cons, ↓fin_nil, Option.isNone_none, Option.isNone_some, Bool.not_true, Bool.not_false, Nat.zero_add, decide_true, decide_false, if_true, if_false, Bool.false_eq_true, ↓reduceIte]
        refine store_sl (b := p) h rfl (by simp [stcells]) fun w h => ?_
        refine dr_sl h fun w h _ => ?_
        try simp only [↓o_nil, ↓o_field, ↓o_add, ↓o_sub, ↓o_mul, ↓o_lss, ↓o_leq, ↓o_gtr, ↓o_geq, ↓o_not, ↓o_pick, ↓o_eqInt, ↓o_neInt, ↓o_eqBool, ↓o_neBool, ↓o_eqPtr, ↓o_nePtr, ↓o_eqPtr', ↓o_eqSl, ↓o_neSl, ↓o_eqStr, ↓o_neStr, ↓o_len, ↓o_lenS, ↓o_min, ↓o_max, ↓o_extract, ↓o_convInt, ↓cd_true, ↓cd_false, ↓gate_tt, ↓gate_ff, ↓gate_tf, ↓gate_ft, ↓gate_undef, ↓o_bind, ↓stay_v, ↓pop_cons, ↓fin_nil, Option.isNone_none, Option.isNone_some, Bool.not_true, Bool.not_false, Nat.zero_add, decide_true, decide_false, if_true, if_false, Bool.false_eq_true, ↓reduceIte]
        try rw [o_add]
        rw [i64_of (by omega) (by omega)]
        refine ld_agg (b := fb) (xs := fcells x') h rfl ?_
        refine ld_in (b := fb) (v := bv x'.sc) h rfl ?_
        have h := h.perm (show _ = sI p { s' with noted := now, f := putG Fam.id s'.f x' } b c (pts fb (.cells (fcells x').toArray 35 (0, 0)) * (pts tb (.cells (kcells zeroK).toArray 49 (0, 0)) * (pts ab (.cells (fcells zeroF).toArray 35 (0, 0)) * R))) by unfold sI; simp only [stcells]; ac_rfl)
        refine fresh_spec (fam := fam) (sc := x'.sc) (til := now + 50) (ok_put (f := x') ok n0 n1 (by omega) (by omega)) (by omega) h fun w h => ?_
        refine st_agg (b := fb) (xs := fcells x') h rfl ?_
        have h := h.perm (show _ = pts ab (.cells (fcells zeroF).toArray 35 (0, 0)) * (pts tb (.cells (kcells zeroK).toArray 49 (0, 0)) * (pts fb (.cells (fcells x').toArray 35 (0, 0)) * sI p (freshS { s' with noted := now, f := putG Fam.id s'.f x' } fam x'.sc (now + 50)) b c R)) by unfold sI; ac_rfl)
        refine store_all (b := ab) h (xs := fcells zeroF) (vs := fcells x') rfl rfl (fcells_one _) fun w h => ?_
        refine st_in (b := fb) (v := bv x'.sc) h rfl ?_
        refine store_all (b := tb) h (xs := kcells zeroK) (vs := kcells (freshK { s' with noted := now, f := putG Fam.id s'.f x' } fam x'.sc (now + 50))) rfl rfl (kcells_one _) fun w h => ?_
        refine res_agg (P := prog) (t := 35) (K := fun r w => ∃ r2, (do loadVar 49 (← asAddr (.pointer (some ⟨tb, 0, none⟩)))).run prog w = .ok r2 w ∧ K (.tuple #[r, r2, .int .i64 0]) w) h (b := ab) (xs := fcells x') rfl ?_
        exact res_agg (P := prog) (t := 49) (K := fun r2 w => K (.tuple #[fv x', r2, .int .i64 0]) w) h (b := tb) (xs := kcells (freshK { s' with noted := now, f := putG Fam.id s'.f x' } fam x'.sc (now + 50))) rfl (k w h.drop.drop.drop)
end Go.Proofs.YtbcimkjgpplcpaaGreatDoor.T

/-
  What a store does: access, exchange, ends, sweeps.
-/
set_option linter.all false
set_option maxRecDepth 100000
namespace Go.Proofs.YtbcimkjgpplcpaaGreatDoor.T
open Go Hold
variable {E : World0} {w : World} {H R X : HP} {K : Value → World → Prop}
def accT (s : St) (id now : Int) : Tok × Int :=
  if timeE s now ≠ 0 then (zeroK, timeE s now) else if (findK s id).2 = 0 ∧ (findK s id).1.til ≤ now then (zeroK, 12) else findK s id
theorem Access_spec {p b c : Nat} {s : St} {id now : Int} (h : sat E w (sI p s b c R)) (k : ∀ w', sat E w' (sI p s b c R) → K (.tuple #[kv (accT s id now).1, .int .i64 (accT s id now).2]) w') :
    Calls prog 19 #[.pointer (some ⟨p, 0, none⟩), .int .i64 id, .int .i64 now] w (Ret K) := by
  refine c19 ?_
  unfold B19
  refine tok_new h fun r w h => ?_
  refine time_spec (s := s) (b := b) (c := c) h ?_
  rw [o_neInt]
  unfold accT at k
  by_cases he : timeE s now = 0
  case neg =>
    rw [if_pos he] at k
    rw [show (!decide (timeE s now = 0)) = true by simp [he], cd_true]
    refine zeroK_build ?_
    exact tok_ret (b := r) (x := zeroK) h fun w h => k w h.drop
  rw [if_neg (by simpa using he)] at k
  rw [show (!decide (timeE s now = 0)) = false by simp [he], cd_false]
  simp only [↓o_nil, ↓o_field, ↓o_add, ↓o_sub, ↓o_mul, ↓o_lss, ↓o_leq, ↓o_gtr, ↓o_geq, ↓o_not, ↓o_pick, ↓o_eqInt, ↓o_neInt, ↓o_eqBool, ↓o_neBool, ↓o_eqPtr, ↓o_nePtr, ↓o_eqPtr', ↓o_eqSl, ↓o_neSl, ↓o_eqStr, ↓o_neStr, ↓o_len, ↓o_lenS, ↓o_min, ↓o_max, ↓o_extract, ↓o_convInt, ↓cd_true, ↓cd_false, ↓gate_tt, ↓gate_ff, ↓gate_tf, ↓gate_ft, ↓gate_undef, ↓o_bind, ↓stay_v, ↓pop_cons, ↓fin_nil, Option.isNone_none, Option.isNone_some, Bool.not_true, Bool.not_false, Nat.zero_add, decide_true, decide_false, if_true, if_false, Bool.false_eq_true, ↓reduceIte]
  refine ld_part (b := p) h (rowK s c) rfl row_K ?_
  refine findK_spec (id := id) (sI_in h) fun w h => ?_
  rw [o_extract, o_extract]
  refine tok_in (sI_out h) fun tb w h => ?_
  have fin : ∀ w, sat E w (pts tb (.cells (kcells (findK s id).1).toArray 49 (0, 0)) * (pts r (.cells (kcells zeroK).toArray 49 (0, 0)) * sI p s b c R)) → ¬ ((findK s id).2 = 0 ∧ (findK s id).1.til ≤ now) →
      ldv prog (Instr.loadAt 49 (.pointer (some ⟨tb, 0, none⟩))) w fun t_23 w =>
      efu prog (Instr.storeAt 49 (.pointer (some ⟨r, 0, none⟩)) t_23) w fun u_24 w =>
      ∃ r_25, (do loadVar 49 (← asAddr (.pointer (some ⟨r, 0, none⟩)))).run prog w = .ok r_25 w ∧ K (.tuple #[r_25, .int .i64 (findK s id).2]) w := by
    intro w h hn
    rw [if_neg hn] at k
    refine ld_agg (b := tb) (xs := kcells (findK s id).1) h rfl ?_
    exact tok_ret (b := r) (x := zeroK) (y := (findK s id).1) h fun w h => k w h.drop.drop
  rw [o_eqInt]
  by_cases h0 : (findK s id).2 = 0
  · simp only [decide_eq_true h0, ↓o_nil, ↓o_field, ↓o_add, ↓o_sub, ↓o_mul, ↓o_lss, ↓o_leq, ↓o_gtr, ↓o_geq, ↓o_not, ↓o_pick, ↓o_eqInt, ↓o_neInt, ↓o_eqBool, ↓o_neBool, ↓o_eqPtr, ↓o_nePtr, ↓o_eqPtr', ↓o_eqSl, ↓o_neSl, ↓o_eqStr, ↓o_neStr, ↓o_len, ↓o_lenS, ↓o_min, ↓o_max, ↓o_extract, ↓o_convInt, ↓cd_true, ↓cd_false, ↓gate_tt, ↓gate_ff, ↓gate_tf, ↓gate_ft, ↓gate_undef, ↓o_bind, ↓stay_v, ↓pop_cons, ↓fin_nil, Option.isNone_none, Option.isNone_some, Bool.not_true, Bool.not_false, Nat.zero_add, decide_true, decide_false, if_true, if_false, Bool.false_eq_true, ↓reduceIte]
    refine ld_in (b := tb) (v := .int .i64 (findK s id).1.til) h rfl ?_
    try simp only [↓o_nil, ↓o_field, ↓o_add, ↓o_sub, ↓o_mul, ↓o_lss, ↓o_leq, ↓o_gtr, ↓o_geq, ↓o_not, ↓o_pick, ↓o_eqInt, ↓o_neInt, ↓o_eqBool, ↓o_neBool, ↓o_eqPtr, ↓o_nePtr, ↓o_eqPtr', ↓o_eqSl, ↓o_neSl, ↓o_eqStr, ↓o_neStr, ↓o_len, ↓o_lenS, ↓o_min, ↓o_max, ↓o_extract, ↓o_convInt, ↓cd_true, ↓cd_false, ↓gate_tt, ↓gate_ff, ↓gate_tf, ↓gate_ft, ↓gate_undef, ↓o_bind, ↓stay_v, ↓pop_cons, ↓fin_nil, Option.isNone_none, Option.isNone_some, Bool.not_true, Bool.not_false, Nat.zero_add, decide_true, decide_false, if_true, if_false, Bool.false_eq_true, ↓reduceIte]
    by_cases hu : (findK s id).1.til ≤ now
    · rw [if_pos ⟨h0, hu⟩] at k
      simp only [decide_eq_true hu, ↓o_nil, ↓o_field, ↓o_add, ↓o_sub, ↓o_mul, ↓o_lss, ↓o_leq, ↓o_gtr, ↓o_geq, ↓o_not, ↓o_pick, ↓o_eqInt, ↓o_neInt, ↓o_eqBool, ↓o_neBool, ↓o_eqPtr, ↓o_nePtr, ↓o_eqPtr', ↓o_eqSl, ↓o_neSl, ↓o_eqStr, ↓o_neStr, ↓o_len, ↓o_lenS, ↓o_min, ↓o_max, ↓o_extract, ↓o_convInt, ↓cd_true, ↓cd_false, ↓gate_tt, ↓gate_ff, ↓gate_tf, ↓gate_ft, ↓gate_undef, ↓o_bind, ↓stay_v, ↓pop_cons, ↓fin_nil, Option.isNone_none, Option.isNone_some, Bool.not_true, Bool.not_false, Nat.zero_add, decide_true, decide_false, if_true, if_false, Bool.false_eq_true, ↓reduceIte]
      refine zeroK_build ?_
      exact tok_ret (b := r) (x := zeroK) h fun w h => k w h.drop.drop
    · simp only [decide_eq_false hu, ↓o_nil, ↓o_field, ↓o_add, ↓o_sub, ↓o_mul, ↓o_lss, ↓o_leq, ↓o_gtr, ↓o_geq, ↓o_not, ↓o_pick, ↓o_eqInt, ↓o_neInt, ↓o_eqBool, ↓o_neBool, ↓o_eqPtr, ↓o_nePtr, ↓o_eqPtr', ↓o_eqSl, ↓o_neSl, ↓o_eqStr, ↓o_neStr, ↓o_len, ↓o_lenS, ↓o_min, ↓o_max, ↓o_extract, ↓o_convInt, ↓cd_true, ↓cd_false, ↓gate_tt, ↓gate_ff, ↓gate_tf, ↓gate_ft, ↓gate_undef, ↓o_bind, ↓stay_v, ↓pop_cons, ↓fin_nil, Option.isNone_none, Option.isNone_some, Bool.not_true, Bool.not_false, Nat.zero_add, decide_true, decide_false, if_true, if_false, Bool.false_eq_true, ↓reduceIte]
      exact fin w h (fun hx => hu hx.2)
  · simp only [decide_eq_false h0, ↓o_nil, ↓o_field, ↓o_add, ↓o_sub, ↓o_mul, ↓o_lss, ↓o_leq, ↓o_gtr, ↓o_geq, ↓o_not, ↓o_pick, ↓o_eqInt, ↓o_neInt, ↓o_eqBool, ↓o_neBool, ↓o_eqPtr, ↓o_nePtr, ↓o_eqPtr', ↓o_eqSl, ↓o_neSl, ↓o_eqStr, ↓o_neStr, ↓o_len, ↓o_lenS, ↓o_min, ↓o_max, ↓o_extract, ↓o_convInt, ↓cd_true, ↓cd_false, ↓gate_tt, ↓gate_ff, ↓gate_tf, ↓gate_ft, ↓gate_undef, ↓o_bind, ↓stay_v, ↓pop_cons, ↓fin_nil, Option.isNone_none, Option.isNone_some, Bool.not_true, Bool.not_false, Nat.zero_add, decide_true, decide_false, if_true, if_false, Bool.false_eq_true, ↓reduceIte]
    exact fin w h (fun hx => h0 hx.1)
def exT (s : St) (id : Int) (sc : UInt8) (now : Int) : St × Tok × Int :=
  if (accT s id now).2 ≠ 0 then (s, zeroK, (accT s id now).2)
  else if sc &&& ~~~(accT s id now).1.sc ≠ 0 then (s, zeroK, 14)
  else if 1099511627776 < s.kn then (s, zeroK, 7)
  else
    let s1 : St := { s with noted := now }
    (freshS s1 (accT s id now).1.fam sc (accT s id now).1.til, freshK s1 (accT s id now).1.fam sc (accT s id now).1.til, 0)
theorem accT_ok {s : St} {id now : Int} (h : (accT s id now).2 = 0) : timeE s now = 0 ∧ (accT s id now).1 ∈ s.k ∧ (accT s id now).1.id = id ∧ now < (accT s id now).1.til := by
  unfold accT at h ⊢
  split at h
  · rename_i h1; exact absurd h h1
  · rename_i h1
    rw [if_neg h1]
    split at h
    · cases h
    · rename_i h2
      rw [if_neg h2]
      obtain ⟨a, b⟩ := findK_ok h
      refine ⟨by simpa using h1, a, b, ?_⟩
      rcases Classical.em ((findK s id).1.til ≤ now) with h3 | h3
      · exact absurd ⟨h, h3⟩ h2
      · omega
theorem ok_ex {s : St} {m : Nat} {id now : Int} {sc : UInt8} (ok : OkS s m) : OkS (exT s id sc now).1 (m + 1) := by
  unfold exT
  repeat' split
  all_goals try exact ok_up ok
  rename_i h1 h2 h3
  obtain ⟨a, b, _, _⟩ := accT_ok (show (accT s id now).2 = 0 by simpa using h1)
  obtain ⟨n0, n1, n2⟩ := time_ok a
  exact ok_fresh (ok_noted ok n0 n1) (ok.ka _ b).t0
theorem bv_ne {t : TypeId} {a b : UInt8} {xo yo : Operand} [i : Ul prog t (.int .u8)] : pvv prog (oEq .neq t xo yo (bv a) (bv b)) w K = K (.bool (!decide (a = b))) w := by
  have := o_neInt (P := prog) (K := K) (w := w) (t := t) (xo := xo) (yo := yo) (k := .u8) (a := (a.toNat : Int)) (b := (b.toNat : Int))
  unfold bv
  rw [this]
  congr 3
  rw [decide_eq_decide]
  constructor
  · intro h; exact UInt8.toNat.inj (by omega)
  · rintro rfl; rfl
theorem Exchange_spec {p b c m : Nat} {s : St} {id now : Int} {sc : UInt8} (ok : OkS s m) (hm : m ≤ 900000) (h : sat E w (sI p s b c R)) (k : ∀ w', sat E w' (sI p (exT s id sc now).1 b c R) → K (.tuple #[kv (exT s id sc now).2.1, .int .i64 (exT s id sc now).2.2]) w') :
    Calls prog 20 #[.pointer (some ⟨p, 0, none⟩), .int .i64 id, bv sc, .int .i64 now] w (Ret K) := by
  have := ok.k2
  refine c20 ?_
  unfold B20
  refine tok_new h fun r w h => ?_
  refine Access_spec (id := id) (now := now) (sI_in h) fun w h => ?_
  rw [o_extract, o_extract]
  refine tok_in (sI_out h) fun tb w h => ?_
  have out : ∀ w, sat E w (pts tb (.cells (kcells (accT s id now).1).toArray 49 (0, 0)) * (pts r (.cells (kcells zeroK).toArray 49 (0, 0)) * sI p s b c R)) → ∀ e : Int, exT s id sc now = (s, zeroK, e) →
      pvv prog (Instr.build 49 #[]) w fun t_7 w =>
      efu prog (Instr.storeAt 49 (.pointer (some ⟨r, 0, none⟩)) t_7) w fun u_8 w =>
      ∃ r_9, (do loadVar 49 (← asAddr (.pointer (some ⟨r, 0, none⟩)))).run prog w = .ok r_9 w ∧ K (.tuple #[r_9, .int .i64 e]) w := by
    intro w h e he
    rw [he] at k
    refine zeroK_build ?_
    exact tok_ret (b := r) (x := zeroK) h fun w h => k w h.drop.drop
  rw [o_neInt]
  by_cases he : (accT s id now).2 = 0
  case neg =>
    rw [show (!decide ((accT s id now).2 = 0)) = true by simp [he], cd_true]
    exact out w h _ (by unfold exT; rw [if_pos he])
  rw [show (!decide ((accT s id now).2 = 0)) = false by simp [he], cd_false]
  have he' : ¬ (accT s id now).2 ≠ 0 := by simpa using he
  simp only [↓o_nil, ↓o_field, ↓o_add, ↓o_sub, ↓o_mul, ↓o_lss, ↓o_leq, ↓o_gtr, ↓o_geq, ↓o_not, ↓o_pick, ↓o_eqInt, ↓o_neInt, ↓o_eqBool, ↓o_neBool, ↓o_eqPtr, ↓o_nePtr, ↓o_eqPtr', ↓o_eqSl, ↓o_neSl, ↓o_eqStr, ↓o_neStr, ↓o_len, ↓o_lenS, ↓o_min, ↓o_max, ↓o_extract, ↓o_convInt, ↓cd_true, ↓cd_false, ↓gate_tt, ↓gate_ff, ↓gate_tf, ↓gate_ft, ↓gate_undef, ↓o_bind, ↓stay_v, ↓pop_cons, ↓fin_nil, Option.isNone_none, Option.isNone_some, Bool.not_true, Bool.not_false, Nat.zero_add, decide_true, decide_false, if_true, if_false, Bool.false_eq_true, ↓reduceIte]
  refine ld_in (b := tb) (v := bv (accT s id now).1.sc) h rfl ?_
  rw [o_andNotB, show (Value.int .u8 0) = bv 0 from rfl, bv_ne]
  by_cases hs : sc &&& ~~~(accT s id now).1.sc = 0
  case neg =>
    rw [show (!decide (sc &&& ~~~(accT s id now).1.sc = 0)) = true by simp [hs], cd_true]
    exact out w h _ (by unfold exT; rw [if_neg he', if_pos hs])
  rw [show (!decide (sc &&& ~~~(accT s id now).1.sc = 0)) = false by simp [hs], cd_false]
  have hs' : ¬ sc &&& ~~~(accT s id now).1.sc ≠ 0 := by simpa using hs
  try simp only [↓o_nil, ↓o_field, ↓o_add, ↓o_sub, ↓o_mul, ↓o_lss, ↓o_leq, ↓o_gtr, ↓o_geq, ↓o_not, ↓o_pick, ↓o_eqInt, ↓o_neInt, ↓o_eqBool, ↓o_neBool, ↓o_eqPtr, ↓o_nePtr, ↓o_eqPtr', ↓o_eqSl, ↓o_neSl, ↓o_eqStr, ↓o_neStr, ↓o_len, ↓o_lenS, ↓o_min, ↓o_max, ↓o_extract, ↓o_convInt, ↓cd_true, ↓cd_false, ↓gate_tt, ↓gate_ff, ↓gate_tf, ↓gate_ft, ↓gate_undef, ↓o_bind, ↓stay_v, ↓pop_cons, ↓fin_nil, Option.isNone_none, Option.isNone_some, Bool.not_true, Bool.not_false, Nat.zero_add, decide_true, decide_false, if_true, if_false, Bool.false_eq_true, ↓reduceIte]
  refine ld_part (b := p) h (rowK s c) rfl row_K ?_
  refine fullK_spec h fun w h => ?_
  have hk : ¬ 1099511627776 < s.kn := by omega
  simp only [decide_eq_false hk, ↓o_nil, ↓o_field, ↓o_add, ↓o_sub, ↓o_mul, ↓o_lss, ↓o_leq, ↓o_gtr, ↓o_geq, ↓o_not, ↓o_pick, ↓o_eqInt, ↓o_neInt, ↓o_eqBool, ↓o_neBool, ↓o_eqPtr, ↓o_nePtr, ↓o_eqPtr', ↓o_eqSl, ↓o_neSl, ↓o_eqStr, ↓o_neStr, ↓o_len, ↓o_lenS, ↓o_min, ↓o_max, ↓o_extract, ↓o_convInt, ↓cd_true, ↓cd_false, ↓gate_tt, ↓gate_ff, ↓gate_tf, ↓gate_ft, ↓gate_undef, ↓o_bind, ↓stay_v, ↓pop_cons, ↓fin_nil, Option.isNone_none, Option.isNone_some, Bool.not_true, Bool.not_false, Nat.zero_add, decide_true, decide_false, if_true, if_false, Bool.false_eq_true, ↓reduceIte]
  refine store_sl (b := p) h rfl (by simp [stcells]) fun w h => ?_
  try simp only [↓o_nil, ↓o_field, ↓o_add, ↓o_sub, ↓o_mul, ↓o_lss, ↓o_leq, ↓o_gtr, ↓o_geq, ↓o_not, ↓o_pick, ↓o_eqInt, ↓o_neInt, ↓o_eqBool, ↓o_neBool, ↓o_eqPtr, ↓o_nePtr, ↓o_eqPtr', ↓o_eqSl, ↓o_neSl, ↓o_eqStr, ↓o_neStr, ↓o_len, ↓o_lenS, ↓o_min, ↓o_max, ↓o_extract, ↓o_convInt, ↓cd_true, ↓cd_false, ↓gate_tt, ↓gate_ff, ↓gate_tf, ↓gate_ft, ↓gate_undef, ↓o_bind, ↓stay_v, ↓pop_cons, ↓fin_nil, Option.isNone_none, Option.isNone_some, Bool.not_true, Bool.not_false, Nat.zero_add, decide_true, decide_false, if_true, if_false, Bool.false_eq_true, ↓reduceIte]
  refine ld_in (b := tb) (v := .int .i64 (accT s id now).1.fam) h rfl ?_
  try simp only [↓o_nil, ↓o_field, ↓o_add, ↓o_sub, ↓o_mul, ↓o_lss, ↓o_leq, ↓o_gtr, ↓o_geq, ↓o_not, ↓o_pick, ↓o_eqInt, ↓o_neInt, ↓o_eqBool, ↓o_neBool, ↓o_eqPtr, ↓o_nePtr, ↓o_eqPtr', ↓o_eqSl, ↓o_neSl, ↓o_eqStr, ↓o_neStr, ↓o_len, ↓o_lenS, ↓o_min, ↓o_max, ↓o_extract, ↓o_convInt, ↓cd_true, ↓cd_false, ↓gate_tt, ↓gate_ff, ↓gate_tf, ↓gate_ft, ↓gate_undef, ↓o_bind, ↓stay_v, ↓pop_cons, ↓fin_nil, Option.isNone_none, Option.isNone_some, Bool.not_true, Bool.not_false, Nat.zero_add, decide_true, decide_false, if_true, if_false, Bool.false_eq_true, ↓reduceIte]
  refine ld_in (b := tb) (v := .int .i64 (accT s id now).1.til) h rfl ?_
  obtain ⟨ht, _, _, _⟩ := accT_ok he
  obtain ⟨n0, n1, n2⟩ := time_ok ht
  have e : exT s id sc now = (let s1 : St := { s with noted := now }
    (freshS s1 (accT s id now).1.fam sc (accT s id now).1.til, freshK s1 (accT s id now).1.fam sc (accT s id now).1.til, 0)) := by
    unfold exT
    rw [if_neg he', if_neg hs', if_neg hk]
  rw [e] at k
  simp only at k
  have h := h.perm (show _ = sI p { s with noted := now } b c (pts tb (.cells (kcells (accT s id now).1).toArray 49 (0, 0)) * (pts r (.cells (kcells zeroK).toArray 49 (0, 0)) * R)) by unfold sI; simp only [stcells]; ac_rfl)
  refine fresh_spec (fam := (accT s id now).1.fam) (sc := sc) (til := (accT s id now).1.til) (ok_noted ok n0 n1) (by omega) h fun w h => ?_
  refine tok_ret (b := r) (x := zeroK) (y := freshK { s with noted := now } (accT s id now).1.fam sc (accT s id now).1.til) h fun w h => k w ?_
  have h := h.perm (show _ = pts r (.cells (kcells (freshK { s with noted := now } (accT s id now).1.fam sc (accT s id now).1.til)).toArray 49 (0, 0)) * (pts tb (.cells (kcells (accT s id now).1).toArray 49 (0, 0)) * sI p (freshS { s with noted := now } (accT s id now).1.fam sc (accT s id now).1.til) b c R) by unfold sI; ac_rfl)
  exact h.drop.drop
def endT (s : St) (fam : Int) : St × Int := if (findF s fam).2 = 0 then (dropS s fam, 0) else (s, (findF s fam).2)
theorem ok_end {s : St} {m : Nat} {fam : Int} (ok : OkS s m) : OkS (endT s fam).1 m := by
  unfold endT
  split
  · exact ok_drop ok
  · exact ok
theorem End_spec {p b c m : Nat} {s : St} {fam : Int} (ok : OkS s m) (h : sat E w (sI p s b c R)) (k : ∀ w', sat E w' (sI p (endT s fam).1 b c R) → K (.int .i64 (endT s fam).2) w') : Calls prog 22 #[.pointer (some ⟨p, 0, none⟩), .int .i64 fam] w (Ret K) := by
  refine c22 ?_
  unfold B22
  simp only [↓o_eqPtr, Option.isNone_some, ↓cd_false]
  simp only [↓o_nil, ↓o_field, ↓o_add, ↓o_sub, ↓o_mul, ↓o_lss, ↓o_leq, ↓o_gtr, ↓o_geq, ↓o_not, ↓o_pick, ↓o_eqInt, ↓o_neInt, ↓o_eqBool, ↓o_neBool, ↓o_eqPtr, ↓o_nePtr, ↓o_eqPtr', ↓o_eqSl, ↓o_neSl, ↓o_eqStr, ↓o_neStr, ↓o_len, ↓o_lenS, ↓o_min, ↓o_max, ↓o_extract, ↓o_convInt, ↓cd_true, ↓cd_false, ↓gate_tt, ↓gate_ff, ↓gate_tf, ↓gate_ft, ↓gate_undef, ↓o_bind, ↓stay_v, ↓pop_cons, ↓fin_nil, Option.isNone_none, Option.isNone_some, Bool.not_true, Bool.not_false, Nat.zero_add, decide_true, decide_false, if_true, if_false, Bool.false_eq_true, ↓reduceIte]
  refine ld_part (b := p) h (rowF s b) rfl row_F ?_
  refine findF_spec (id := fam) h fun w h => ?_
  rw [o_extract, o_extract]
  refine fam_in h fun fb w h => ?_
  have h := h.drop
  refine jn_cut (fun σ w => σ = [] ∧ sat E w (sI p (endT s fam).1 b c R)) (fun kj hkj => ?_) ?_
  · rw [o_eqInt]
    unfold endT at hkj
    by_cases h0 : (findF s fam).2 = 0
    · rw [if_pos h0] at hkj
      rw [decide_eq_true h0, cd_true]
      exact drop_spec ok h fun w h => hkj _ _ ⟨rfl, h⟩
    · rw [if_neg h0] at hkj
      rw [decide_eq_false h0, cd_false]
      exact hkj _ _ ⟨rfl, h⟩
  · clear h
    rintro σ w ⟨rfl, h⟩
    rw [fin_nil]
    have := k w h
    have e : (endT s fam).2 = (findF s fam).2 := by
      unfold endT
      split
      · rename_i h; exact h.symm
      · rfl
    rw [e] at this
    exact this
def swT (s : St) (now : Int) : St := { s with noted := now, k := s.k.filter fun x => !decide (x.til ≤ now) }
theorem SwF_spec {nb : Nat} {n : Int} {x : Tok} (h : sat E w H) [Has H nb (.cells [Value.int .i64 n].toArray 3 (0, 0))]
    (k : ∀ w', sat E w' H → K (.bool (decide (x.til ≤ n))) w') : ef prog (oCall (.func (.func 55) #[] #[.pointer (some ⟨nb, 0, none⟩)]) #[.int .i64 x.id, kv x]) w K := by
  refine oCall_body Tryz.func55 (by kernel_rfl) (by kernel_rfl) ?_
  show Calls prog 55 #[.int .i64 x.id, kv x, .pointer (some ⟨nb, 0, none⟩)] w (Ret K)
  refine c55 ?_
  unfold B55
  refine box_sl h fun b w h => ?_
  have h : sat E w (pts b (.cells (kcells x).toArray 49 (0, 0)) * H) := h
  refine ld_in (b := nb) (v := .int .i64 n) h rfl ?_
  simp only [↓o_nil, ↓o_field, ↓o_add, ↓o_sub, ↓o_mul, ↓o_lss, ↓o_leq, ↓o_gtr, ↓o_geq, ↓o_not, ↓o_pick, ↓o_eqInt, ↓o_neInt, ↓o_eqBool, ↓o_neBool, ↓o_eqPtr, ↓o_nePtr, ↓o_eqPtr', ↓o_eqSl, ↓o_neSl, ↓o_eqStr, ↓o_neStr, ↓o_len, ↓o_lenS, ↓o_min, ↓o_max, ↓o_extract, ↓o_convInt, ↓cd_true, ↓cd_false, ↓gate_tt, ↓gate_ff, ↓gate_tf, ↓gate_ft, ↓gate_undef, ↓o_bind, ↓stay_v, ↓pop_cons, ↓fin_nil, Option.isNone_none, Option.isNone_some, Bool.not_true, Bool.not_false, Nat.zero_add, decide_true, decide_false, if_true, if_false, Bool.false_eq_true, ↓reduceIte]
  refine ld_in (b := b) (v := .int .i64 x.til) h rfl ?_
  rw [o_geq]
  exact k w h.drop
theorem ok_sw {s : St} {m : Nat} {now : Int} (ok : OkS s m) (h : timeE s now = 0) : OkS (swT s now) m := ok_sub ok (List.Sublist.refl _) List.filter_sublist (time_ok h).1 (time_ok h).2.1
theorem Sweep_spec {p b c m : Nat} {s : St} {now : Int} (ok : OkS s m) (hm : m ≤ 1000000) (h : sat E w (sI p s b c R))
    (k0 : timeE s now ≠ 0 → ∀ w', sat E w' (sI p s b c R) → K (.tuple #[.int .i64 0, .int .i64 (timeE s now)]) w')
    (k1 : timeE s now = 0 → ∀ (n : Int) w', sat E w' (sI p (swT s now) b c R) → K (.tuple #[.int .i64 n, .int .i64 0]) w') :
    Calls prog 21 #[.pointer (some ⟨p, 0, none⟩), .int .i64 now] w (Ret K) := by
  have hkl := ok.kf
  refine c21 ?_
  unfold B21
  refine box_sl h fun nb w h => ?_
  have h : sat E w (boxNum nb now * sI p s b c R) := h
  refine ld_in (b := nb) (v := .int .i64 now) h rfl ?_
  refine time_spec (s := s) (b := b) (c := c) h ?_
  rw [o_neInt]
  by_cases he : timeE s now = 0
  case neg =>
    rw [show (!decide (timeE s now = 0)) = true by simp [he], cd_true]
    exact k0 he w h.drop
  rw [show (!decide (timeE s now = 0)) = false by simp [he], cd_false]
  refine ld_in (b := nb) (v := .int .i64 now) h rfl ?_
  simp only [↓o_nil, ↓o_field, ↓o_add, ↓o_sub, ↓o_mul, ↓o_lss, ↓o_leq, ↓o_gtr, ↓o_geq, ↓o_not, ↓o_pick, ↓o_eqInt, ↓o_neInt, ↓o_eqBool, ↓o_neBool, ↓o_eqPtr, ↓o_nePtr, ↓o_eqPtr', ↓o_eqSl, ↓o_neSl, ↓o_eqStr, ↓o_neStr, ↓o_len, ↓o_lenS, ↓o_min, ↓o_max, ↓o_extract, ↓o_convInt, ↓cd_true, ↓cd_false, ↓gate_tt, ↓gate_ff, ↓gate_tf, ↓gate_ft, ↓gate_undef, ↓o_bind, ↓stay_v, ↓pop_cons, ↓fin_nil, Option.isNone_none, Option.isNone_some, Bool.not_true, Bool.not_false, Nat.zero_add, decide_true, decide_false, if_true, if_false, Bool.false_eq_true, ↓reduceIte]
  refine store_sl (b := p) h rfl (by simp [stcells]) fun w h => ?_
  have h : sat E w (pts p (.cells (stcells { s with noted := now } b c).toArray 67 (0, 0)) * (boxNum nb now * (omap b (fmp s.f) * (omap c (kmp s.k) * R)))) := h.perm (by simp only [stcells]; ac_rfl)
  try simp only [↓o_nil, ↓o_field, ↓o_add, ↓o_sub, ↓o_mul, ↓o_lss, ↓o_leq, ↓o_gtr, ↓o_geq, ↓o_not, ↓o_pick, ↓o_eqInt, ↓o_neInt, ↓o_eqBool, ↓o_neBool, ↓o_eqPtr, ↓o_nePtr, ↓o_eqPtr', ↓o_eqSl, ↓o_neSl, ↓o_eqStr, ↓o_neStr, ↓o_len, ↓o_lenS, ↓o_min, ↓o_max, ↓o_extract, ↓o_convInt, ↓cd_true, ↓cd_false, ↓gate_tt, ↓gate_ff, ↓gate_tf, ↓gate_ft, ↓gate_undef, ↓o_bind, ↓stay_v, ↓pop_cons, ↓fin_nil, Option.isNone_none, Option.isNone_some, Bool.not_true, Bool.not_false, Nat.zero_add, decide_true, decide_false, if_true, if_false, Bool.false_eq_true, ↓reduceIte]
  refine ld_in (b := p) (v := .map (some c)) h rfl ?_
  refine len_ld (b := c) h ?_
  try simp only [↓o_nil, ↓o_field, ↓o_add, ↓o_sub, ↓o_mul, ↓o_lss, ↓o_leq, ↓o_gtr, ↓o_geq, ↓o_not, ↓o_pick, ↓o_eqInt, ↓o_neInt, ↓o_eqBool, ↓o_neBool, ↓o_eqPtr, ↓o_nePtr, ↓o_eqPtr', ↓o_eqSl, ↓o_neSl, ↓o_eqStr, ↓o_neStr, ↓o_len, ↓o_lenS, ↓o_min, ↓o_max, ↓o_extract, ↓o_convInt, ↓cd_true, ↓cd_false, ↓gate_tt, ↓gate_ff, ↓gate_tf, ↓gate_ft, ↓gate_undef, ↓o_bind, ↓stay_v, ↓pop_cons, ↓fin_nil, Option.isNone_none, Option.isNone_some, Bool.not_true, Bool.not_false, Nat.zero_add, decide_true, decide_false, if_true, if_false, Bool.false_eq_true, ↓reduceIte]
  refine ld_in (b := p) (v := .map (some c)) h rfl ?_
  refine pvv_of (v := .func (.func 55) #[] #[.pointer (some ⟨nb, 0, none⟩)]) (fun _ => rfl) ?_
  have h := h.perm (show _ = omap c (kmp s.k) * (boxNum nb now * (pts p (.cells (stcells { s with noted := now } b c).toArray 67 (0, 0)) * (omap b (fmp s.f) * R))) by ac_rfl)
  refine DelK_spec (pr := fun x => decide (x.til ≤ now)) ok.kr h (fun x X w K' hx h k' => SwF_spec (nb := nb) h k') fun w h => ?_
  try simp only [↓o_nil, ↓o_field, ↓o_add, ↓o_sub, ↓o_mul, ↓o_lss, ↓o_leq, ↓o_gtr, ↓o_geq, ↓o_not, ↓o_pick, ↓o_eqInt, ↓o_neInt, ↓o_eqBool, ↓o_neBool, ↓o_eqPtr, ↓o_nePtr, ↓o_eqPtr', ↓o_eqSl, ↓o_neSl, ↓o_eqStr, ↓o_neStr, ↓o_len, ↓o_lenS, ↓o_min, ↓o_max, ↓o_extract, ↓o_convInt, ↓cd_true, ↓cd_false, ↓gate_tt, ↓gate_ff, ↓gate_tf, ↓gate_ft, ↓gate_undef, ↓o_bind, ↓stay_v, ↓pop_cons, ↓fin_nil, Option.isNone_none, Option.isNone_some, Bool.not_true, Bool.not_false, Nat.zero_add, decide_true, decide_false, if_true, if_false, Bool.false_eq_true, ↓reduceIte]
  refine ld_in (b := p) (v := .map (some c)) h rfl ?_
  refine len_ld (b := c) h ?_
  try rw [o_sub]
  refine k1 he _ w ?_
  have h := h.perm (show _ = boxNum nb now * sI p (swT s now) b c R by unfold sI swT; simp only [stcells]; ac_rfl)
  exact h.drop
theorem Family_spec {p b c : Nat} {s : St} {id : Int} (h : sat E w (sI p s b c R)) (k : ∀ w', sat E w' (sI p s b c R) → K (.tuple #[fv (findF s id).1, .int .i64 (findF s id).2]) w') : Calls prog 12 #[.pointer (some ⟨p, 0, none⟩), .int .i64 id] w (Ret K) := by
  refine c12 ?_
  unfold B12
  refine fam_new h fun r w h => ?_
  simp only [↓o_eqPtr, Option.isNone_some, ↓cd_false]
  simp only [↓o_nil, ↓o_field, ↓o_add, ↓o_sub, ↓o_mul, ↓o_lss, ↓o_leq, ↓o_gtr, ↓o_geq, ↓o_not, ↓o_pick, ↓o_eqInt, ↓o_neInt, ↓o_eqBool, ↓o_neBool, ↓o_eqPtr, ↓o_nePtr, ↓o_eqPtr', ↓o_eqSl, ↓o_neSl, ↓o_eqStr, ↓o_neStr, ↓o_len, ↓o_lenS, ↓o_min, ↓o_max, ↓o_extract, ↓o_convInt, ↓cd_true, ↓cd_false, ↓gate_tt, ↓gate_ff, ↓gate_tf, ↓gate_ft, ↓gate_undef, ↓o_bind, ↓stay_v, ↓pop_cons, ↓fin_nil, Option.isNone_none, Option.isNone_some, Bool.not_true, Bool.not_false, Nat.zero_add, decide_true, decide_false, if_true, if_false, Bool.false_eq_true, ↓reduceIte]
  refine ld_part (b := p) h (rowF s b) rfl row_F ?_
  refine findF_spec (id := id) (sI_in h) fun w h => ?_
  rw [o_extract, o_extract]
  exact fam_ret (b := r) (x := zeroF) (y := (findF s id).1) (sI_out h) fun w h => k w h.drop
/-! Families ended. -/
def dropAll (s : St) (l : List Fam) : St := l.foldl (fun s x => dropS s x.id) s
theorem dropAll_snoc (s : St) (l : List Fam) (x : Fam) : dropAll s (l ++ [x]) = dropS (dropAll s l) x.id := by unfold dropAll; rw [List.foldl_append]; rfl
theorem ok_dropAll {m : Nat} : ∀ (l : List Fam) {s : St}, OkS s m → OkS (dropAll s l) m
  | [], _, ok => ok
  | x :: l, s, ok => ok_dropAll l (ok_drop (id := x.id) ok)
theorem ends_spec {p b c m : Nat} {s : St} {f : Value} {pr : Fam → Bool} (ok : OkS s m) (hm : m ≤ 1000000) (h : sat E w (sI p s b c R))
    (hf : ∀ (x : Fam) (X : HP) (w : World) (K' : Value → World → Prop), x ∈ s.f → sat E w (X * sI p s b c R) → (∀ w', sat E w' (X * sI p s b c R) → K' (.bool (pr x)) w') → ef prog (oCall f #[fv x]) w K')
    (k : ∀ u w', sat E w' (osl 3 1 u (s.f.filter pr).length (((s.f.filter pr).map Fam.id).map iv) * sI p (dropAll s (s.f.filter pr)) b c R) → K u w') : Calls prog 34 #[.pointer (some ⟨p, 0, none⟩), f] w (Ret K) := by
  have hfl := ok.ff
  refine c34 ?_
  unfold B34
  simp only [↓o_eqPtr, Option.isNone_some, ↓cd_false]
  simp only [↓o_nil, ↓o_field, ↓o_add, ↓o_sub, ↓o_mul, ↓o_lss, ↓o_leq, ↓o_gtr, ↓o_geq, ↓o_not, ↓o_pick, ↓o_eqInt, ↓o_neInt, ↓o_eqBool, ↓o_neBool, ↓o_eqPtr, ↓o_nePtr, ↓o_eqPtr', ↓o_eqSl, ↓o_neSl, ↓o_eqStr, ↓o_neStr, ↓o_len, ↓o_lenS, ↓o_min, ↓o_max, ↓o_extract, ↓o_convInt, ↓cd_true, ↓cd_false, ↓gate_tt, ↓gate_ff, ↓gate_tf, ↓gate_ft, ↓gate_undef, ↓o_bind, ↓stay_v, ↓pop_cons, ↓fin_nil, Option.isNone_none, Option.isNone_some, Bool.not_true, Bool.not_false, Nat.zero_add, decide_true, decide_false, if_true, if_false, Bool.false_eq_true, ↓reduceIte]
  refine ld_part (b := p) h (rowF s b) rfl row_F ?_
  have h := h.perm (show _ = omap b (fmp s.f) * (pts p (.cells (stcells s b c).toArray 67 (0, 0)) * (omap c (kmp s.k) * R)) by unfold sI; ac_rfl)
  refine allF_spec (pr := pr) ok.fr (by omega) h (fun x X w K' hx h k' => ?_) fun v w h => ?_
  · refine hf x X w K' hx (h.perm (by unfold sI; ac_rfl)) fun w h => k' w (h.perm (by unfold sI; ac_rfl))
  have hql : (s.f.filter pr).length ≤ m := Nat.le_trans (List.length_filter_le _ _) hfl
  generalize hq : s.f.filter pr = q at k h hql
  obtain ⟨qa, qc, rfl, hqc, _, hpos⟩ := osl_shape h
  rw [o_len]
  have h : sat E w (osl 35 5 (.slice qa q.length qc) q.length (fvs q) * sI p s b c R) := h.perm (by unfold sI; ac_rfl)
  refine lp_nat (fun r σ w => ∃ (i : Nat) (out : Value), σ = [out, .int .i64 (i : Int)] ∧ r = q.length - i ∧ i ≤ q.length ∧
      sat E w (osl 3 1 out i (((q.take i).map Fam.id).map iv) * (osl 35 5 (.slice qa q.length qc) q.length (fvs q) * sI p (dropAll s (q.take i)) b c R))) q.length
    ⟨0, _, rfl, by omega, by omega, osl_nil h 3 1⟩ ?_
  clear h
  rintro r σ w again ⟨i, out, rfl, rfl, hi, h⟩ hag
  rw [pop_cons, pop_cons, fin_nil, o_lss]
  refine cd_dec (fun hlt => ?_) (fun hge => ?_)
  · have hi1 : i < q.length := by omega
    have hx : q[i]? = some q[i] := List.getElem?_eq_getElem hi1
    have htk : q.take (i + 1) = q.take i ++ [q[i]] := List.take_succ_eq_append_getElem hi1
    generalize q[i] = x at hx htk
    obtain ⟨ub, hub⟩ := hpos (by omega)
    subst hub
    rw [o_index (by omega) (by omega)]
    have hrd : Rds (osl 3 1 out i (((q.take i).map Fam.id).map iv) * (osl 35 5 (.slice (some ⟨ub, 0, none⟩) q.length qc) q.length (fvs q) * sI p (dropAll s (q.take i)) b c R)) (.slice (some ⟨ub, 0, none⟩) q.length qc) q.length (fvs q) := Rds.osl.left.right
    refine ld_el h hrd (i * 5) (by simp) (fcells x) rfl (fvs_at hx) ?_
    refine fam_in (x := x) h fun fb w h => ?_
    simp only [↓o_nil, ↓o_field, ↓o_add, ↓o_sub, ↓o_mul, ↓o_lss, ↓o_leq, ↓o_gtr, ↓o_geq, ↓o_not, ↓o_pick, ↓o_eqInt, ↓o_neInt, ↓o_eqBool, ↓o_neBool, ↓o_eqPtr, ↓o_nePtr, ↓o_eqPtr', ↓o_eqSl, ↓o_neSl, ↓o_eqStr, ↓o_neStr, ↓o_len, ↓o_lenS, ↓o_min, ↓o_max, ↓o_extract, ↓o_convInt, ↓cd_true, ↓cd_false, ↓gate_tt, ↓gate_ff, ↓gate_tf, ↓gate_ft, ↓gate_undef, ↓o_bind, ↓stay_v, ↓pop_cons, ↓fin_nil, Option.isNone_none, Option.isNone_some, Bool.not_true, Bool.not_false, Nat.zero_add, decide_true, decide_false, if_true, if_false, Bool.false_eq_true, ↓reduceIte]
    refine ld_in (b := fb) (v := .int .i64 x.id) h rfl ?_
    have h := h.perm (show _ = sI p (dropAll s (q.take i)) b c (pts fb (.cells (fcells x).toArray 35 (0, 0)) * (osl 3 1 out i (((q.take i).map Fam.id).map iv) * (osl 35 5 (.slice (some ⟨ub, 0, none⟩) q.length qc) q.length (fvs q) * R))) by unfold sI; ac_rfl)
    refine drop_spec (id := x.id) (ok_dropAll (q.take i) ok) h fun w h => ?_
    try simp only [↓o_nil, ↓o_field, ↓o_add, ↓o_sub, ↓o_mul, ↓o_lss, ↓o_leq, ↓o_gtr, ↓o_geq, ↓o_not, ↓o_pick, ↓o_eqInt, ↓o_neInt, ↓o_eqBool, ↓o_neBool, ↓o_eqPtr, ↓o_nePtr, ↓o_eqPtr', ↓o_eqSl, ↓o_neSl, ↓o_eqStr, ↓o_neStr, ↓o_len, ↓o_lenS, ↓o_min, ↓o_max, ↓o_extract, ↓o_convInt, ↓cd_true, ↓cd_false, ↓gate_tt, ↓gate_ff, ↓gate_tf, ↓gate_ft, ↓gate_undef, ↓o_bind, ↓stay_v, ↓pop_cons, ↓fin_nil, Option.isNone_none, Option.isNone_some, Bool.not_true, Bool.not_false, Nat.zero_add, decide_true, decide_false, if_true, if_false, Bool.false_eq_true, ↓reduceIte]
    refine ld_in (b := fb) (v := .int .i64 x.id) h rfl ?_
    have h := h.perm (show _ = osl 3 1 out i (((q.take i).map Fam.id).map iv) * (pts fb (.cells (fcells x).toArray 35 (0, 0)) * (osl 35 5 (.slice (some ⟨ub, 0, none⟩) q.length qc) q.length (fvs q) * sI p (dropS (dropAll s (q.take i)) x.id) b c R)) by unfold sI; ac_rfl)
    refine push_sl (v := out) h rfl rfl (by omega) (by omega) fun v2 w h => ?_
    try rw [o_add]
    rw [i64_of (by omega) (by omega)]
    refine hag (q.length - (i + 1)) _ _ (by omega) ⟨i + 1, v2, rfl, rfl, by omega, ?_⟩
    have h := h.lose fb
    rw [htk, dropAll_snoc]
    simp only [List.map_append, List.map_cons, List.map_nil]
    exact h.perm (by simp only [iv]; try (unfold sI; ac_rfl))
  · have hi2 : i = q.length := by omega
    subst hi2
    rw [List.take_length] at h
    refine k out w ?_
    have h := h.perm (show _ = osl 35 5 (.slice qa q.length qc) q.length (fvs q) * (osl 3 1 out q.length ((q.map Fam.id).map iv) * sI p (dropAll s q) b c R) by ac_rfl)
    exact h.drop
/-- slices.Contains on whole numbers. -/
theorem Contains_spec {v : Value} {l : List Int} {n : Int} (h : sat E w H) (hv : Rds H v l.length (l.map iv)) (hl : l.length ≤ 9223372036854775807) (k : ∀ w', sat E w' H → K (.bool (decide (n ∈ l))) w') : Calls prog 36 #[v, .int .i64 n] w (Ret K) := by
  obtain ⟨va, vc, rfl, hvc, hv, _⟩ := hv.shape h
  refine c36 ?_
  unfold B36
  refine c64 ?_
  unfold B64
  rw [o_len]
  refine lp_nat (fun r σ w => ∃ (i : Nat), σ = [.int .i64 (i : Int)] ∧ r = l.length - i ∧ i ≤ l.length ∧ n ∉ l.take i ∧ sat E w H) l.length ⟨0, rfl, rfl, by omega, by simp, h⟩ ?_
  clear h
  rintro r σ w again ⟨i, rfl, rfl, hi, hn, h⟩ hag
  rw [pop_cons, fin_nil, o_lss]
  refine cd_dec (fun hlt => ?_) (fun hge => ?_)
  · have hi1 : i < l.length := by omega
    have hx : l[i]? = some l[i] := List.getElem?_eq_getElem hi1
    have htk : l.take (i + 1) = l.take i ++ [l[i]] := List.take_succ_eq_append_getElem hi1
    generalize l[i] = x at hx htk
    obtain ⟨b1, o1, _, e1, _, hv⟩ := hv.opened h (by simp; omega)
    cases e1
    rw [o_index (by omega) (by omega)]
    refine ld_rd h hv i (by simp) (v := .int .i64 x) (by rw [List.getElem?_map, hx]; rfl) ?_
    rw [o_eqInt]
    by_cases hxn : n = x
    · rw [decide_eq_true hxn, cd_true]
      show pvv prog (binOp .geq 3 (.int .i64 (i : Int)) (.int .i64 0)) w _
      rw [o_geq, decide_eq_true (show (0 : Int) ≤ (i : Int) by omega)]
      have := k w h
      rw [decide_eq_true (hxn ▸ List.mem_of_getElem? hx)] at this
      exact this
    · rw [decide_eq_false hxn, cd_false]
      try rw [o_add]
      rw [i64_of (by omega) (by omega)]
      refine hag (l.length - (i + 1)) _ _ (by omega) ⟨i + 1, rfl, rfl, by omega, ?_, h⟩
      rw [htk, List.mem_append, List.mem_singleton]
      rintro (hh | hh)
      · exact hn hh
      · exact hxn hh
  · have hi2 : i = l.length := by omega
    subst hi2
    rw [List.take_length] at hn
    show pvv prog (binOp .geq 3 (.int .i64 (-1)) (.int .i64 0)) w _
    rw [o_geq]
    have := k w h
    rw [decide_eq_false hn] at this
    exact this
def boxS (sb : Nat) (v : Value) : HP := pts sb (.cells [v].toArray 23 (0, 0))
instance hasS (sb : Nat) (v : Value) : Has (boxS sb v) sb (.cells [v].toArray 23 (0, 0)) := ⟨fun h => (h.perm (star_emp _).symm).pts_get⟩
def boxT (tb : Nat) (l : List UInt8) : HP := pts tb (.cells [tv l].toArray 9 (0, 0))
instance hasT (tb : Nat) (l : List UInt8) : Has (boxT tb l) tb (.cells [tv l].toArray 9 (0, 0)) := ⟨fun h => (h.perm (star_emp _).symm).pts_get⟩
theorem EsF_spec {sb : Nat} {v : Value} {l : List Int} {x : Fam} (h : sat E w H) [Has H sb (.cells [v].toArray 23 (0, 0))] (hv : Rds H v l.length (l.map iv)) (hl : l.length ≤ 9223372036854775807)
    (k : ∀ w', sat E w' H → K (.bool (decide (x.ses ∈ l))) w') : ef prog (oCall (.func (.func 38) #[] #[.pointer (some ⟨sb, 0, none⟩)]) #[fv x]) w K := by
  refine oCall_body Tryz.func38 (by kernel_rfl) (by kernel_rfl) ?_
  show Calls prog 38 #[fv x, .pointer (some ⟨sb, 0, none⟩)] w (Ret K)
  refine c38 ?_
  unfold B38
  refine box_sl h fun b w h => ?_
  have h : sat E w (pts b (.cells (fcells x).toArray 35 (0, 0)) * H) := h
  refine ld_in (b := sb) (v := v) h rfl ?_
  simp only [↓o_nil, ↓o_field, ↓o_add, ↓o_sub, ↓o_mul, ↓o_lss, ↓o_leq, ↓o_gtr, ↓o_geq, ↓o_not, ↓o_pick, ↓o_eqInt, ↓o_neInt, ↓o_eqBool, ↓o_neBool, ↓o_eqPtr, ↓o_nePtr, ↓o_eqPtr', ↓o_eqSl, ↓o_neSl, ↓o_eqStr, ↓o_neStr, ↓o_len, ↓o_lenS, ↓o_min, ↓o_max, ↓o_extract, ↓o_convInt, ↓cd_true, ↓cd_false, ↓gate_tt, ↓gate_ff, ↓gate_tf, ↓gate_ft, ↓gate_undef, ↓o_bind, ↓stay_v, ↓pop_cons, ↓fin_nil, Option.isNone_none, Option.isNone_some, Bool.not_true, Bool.not_false, Nat.zero_add, decide_true, decide_false, if_true, if_false, Bool.false_eq_true, ↓reduceIte]
  refine ld_in (b := b) (v := .int .i64 x.ses) h rfl ?_
  exact Contains_spec h hv.right hl fun w h => k w h.drop
theorem EcF_spec {sb tb : Nat} {v : Value} {l : List Int} {cl : List UInt8} {x : Fam} (h : sat E w H) [Has H tb (.cells [tv cl].toArray 9 (0, 0))] [Has H sb (.cells [v].toArray 23 (0, 0))] (hv : Rds H v l.length (l.map iv)) (hl : l.length ≤ 9223372036854775807)
    (k : ∀ w', sat E w' H → K (.bool (decide (x.cl = cl) && decide (x.ses ∈ l))) w') : ef prog (oCall (.func (.func 35) #[] #[.pointer (some ⟨tb, 0, none⟩), .pointer (some ⟨sb, 0, none⟩)]) #[fv x]) w K := by
  refine oCall_body Tryz.func35 (by kernel_rfl) (by kernel_rfl) ?_
  show Calls prog 35 #[fv x, .pointer (some ⟨tb, 0, none⟩), .pointer (some ⟨sb, 0, none⟩)] w (Ret K)
  refine c35 ?_
  unfold B35
  refine box_sl h fun b w h => ?_
  have h : sat E w (pts b (.cells (fcells x).toArray 35 (0, 0)) * H) := h
  simp only [↓o_nil, ↓o_field, ↓o_add, ↓o_sub, ↓o_mul, ↓o_lss, ↓o_leq, ↓o_gtr, ↓o_geq, ↓o_not, ↓o_pick, ↓o_eqInt, ↓o_neInt, ↓o_eqBool, ↓o_neBool, ↓o_eqPtr, ↓o_nePtr, ↓o_eqPtr', ↓o_eqSl, ↓o_neSl, ↓o_eqStr, ↓o_neStr, ↓o_len, ↓o_lenS, ↓o_min, ↓o_max, ↓o_extract, ↓o_convInt, ↓cd_true, ↓cd_false, ↓gate_tt, ↓gate_ff, ↓gate_tf, ↓gate_ft, ↓gate_undef, ↓o_bind, ↓stay_v, ↓pop_cons, ↓fin_nil, Option.isNone_none, Option.isNone_some, Bool.not_true, Bool.not_false, Nat.zero_add, decide_true, decide_false, if_true, if_false, Bool.false_eq_true, ↓reduceIte]
  refine ld_in (b := b) (v := tv x.cl) h rfl ?_
  refine ld_in (b := tb) (v := tv cl) h rfl ?_
  rw [o_eqT]
  by_cases hc : x.cl = cl
  · have k' : ∀ w', sat E w' H → K (.bool (decide (x.ses ∈ l))) w' := fun w h => by have := k w h; rwa [decide_eq_true hc, Bool.true_and] at this
    simp only [hc, ↓o_nil, ↓o_field, ↓o_add, ↓o_sub, ↓o_mul, ↓o_lss, ↓o_leq, ↓o_gtr, ↓o_geq, ↓o_not, ↓o_pick, ↓o_eqInt, ↓o_neInt, ↓o_eqBool, ↓o_neBool, ↓o_eqPtr, ↓o_nePtr, ↓o_eqPtr', ↓o_eqSl, ↓o_neSl, ↓o_eqStr, ↓o_neStr, ↓o_len, ↓o_lenS, ↓o_min, ↓o_max, ↓o_extract, ↓o_convInt, ↓cd_true, ↓cd_false, ↓gate_tt, ↓gate_ff, ↓gate_tf, ↓gate_ft, ↓gate_undef, ↓o_bind, ↓stay_v, ↓pop_cons, ↓fin_nil, Option.isNone_none, Option.isNone_some, Bool.not_true, Bool.not_false, Nat.zero_add, decide_true, decide_false, if_true, if_false, Bool.false_eq_true, ↓reduceIte]
    refine ld_in (b := sb) (v := v) h rfl ?_
    try simp only [↓o_nil, ↓o_field, ↓o_add, ↓o_sub, ↓o_mul, ↓o_lss, ↓o_leq, ↓o_gtr, ↓o_geq, ↓o_not, ↓o_pick, ↓o_eqInt, ↓o_neInt, ↓o_eqBool, ↓o_neBool, ↓o_eqPtr, ↓o_nePtr, ↓o_eqPtr', ↓o_eqSl, ↓o_neSl, ↓o_eqStr, ↓o_neStr, ↓o_len, ↓o_lenS, ↓o_min, ↓o_max, ↓o_extract, ↓o_convInt, ↓cd_true, ↓cd_false, ↓gate_tt, ↓gate_ff, ↓gate_tf, ↓gate_ft, ↓gate_undef, ↓o_bind, ↓stay_v, ↓pop_cons, ↓fin_nil, Option.isNone_none, Option.isNone_some, Bool.not_true, Bool.not_false, Nat.zero_add, decide_true, decide_false, if_true, if_false, Bool.false_eq_true, ↓reduceIte]
    refine ld_in (b := b) (v := .int .i64 x.ses) h rfl ?_
    try simp only [↓o_nil, ↓o_field, ↓o_add, ↓o_sub, ↓o_mul, ↓o_lss, ↓o_leq, ↓o_gtr, ↓o_geq, ↓o_not, ↓o_pick, ↓o_eqInt, ↓o_neInt, ↓o_eqBool, ↓o_neBool, ↓o_eqPtr, ↓o_nePtr, ↓o_eqPtr', ↓o_eqSl, ↓o_neSl, ↓o_eqStr, ↓o_neStr, ↓o_len, ↓o_lenS, ↓o_min, ↓o_max, ↓o_extract, ↓o_convInt, ↓cd_true, ↓cd_false, ↓gate_tt, ↓gate_ff, ↓gate_tf, ↓gate_ft, ↓gate_undef, ↓o_bind, ↓stay_v, ↓pop_cons, ↓fin_nil, Option.isNone_none, Option.isNone_some, Bool.not_true, Bool.not_false, Nat.zero_add, decide_true, decide_false, if_true, if_false, Bool.false_eq_true, ↓reduceIte]
    refine Contains_spec h hv.right hl fun w h => ?_
    try simp only [↓o_nil, ↓o_field, ↓o_add, ↓o_sub, ↓o_mul, ↓o_lss, ↓o_leq, ↓o_gtr, ↓o_geq, ↓o_not, ↓o_pick, ↓o_eqInt, ↓o_neInt, ↓o_eqBool, ↓o_neBool, ↓o_eqPtr, ↓o_nePtr, ↓o_eqPtr', ↓o_eqSl, ↓o_neSl, ↓o_eqStr, ↓o_neStr, ↓o_len, ↓o_lenS, ↓o_min, ↓o_max, ↓o_extract, ↓o_convInt, ↓cd_true, ↓cd_false, ↓gate_tt, ↓gate_ff, ↓gate_tf, ↓gate_ft, ↓gate_undef, ↓o_bind, ↓stay_v, ↓pop_cons, ↓fin_nil, Option.isNone_none, Option.isNone_some, Bool.not_true, Bool.not_false, Nat.zero_add, decide_true, decide_false, if_true, if_false, Bool.false_eq_true, ↓reduceIte]
    exact k' w h.drop
  · have k' : ∀ w', sat E w' H → K (.bool false) w' := fun w h => by have := k w h; rwa [decide_eq_false hc, Bool.false_and] at this
    simp only [hc, ↓o_nil, ↓o_field, ↓o_add, ↓o_sub, ↓o_mul, ↓o_lss, ↓o_leq, ↓o_gtr, ↓o_geq, ↓o_not, ↓o_pick, ↓o_eqInt, ↓o_neInt, ↓o_eqBool, ↓o_neBool, ↓o_eqPtr, ↓o_nePtr, ↓o_eqPtr', ↓o_eqSl, ↓o_neSl, ↓o_eqStr, ↓o_neStr, ↓o_len, ↓o_lenS, ↓o_min, ↓o_max, ↓o_extract, ↓o_convInt, ↓cd_true, ↓cd_false, ↓gate_tt, ↓gate_ff, ↓gate_tf, ↓gate_ft, ↓gate_undef, ↓o_bind, ↓stay_v, ↓pop_cons, ↓fin_nil, Option.isNone_none, Option.isNone_some, Bool.not_true, Bool.not_false, Nat.zero_add, decide_true, decide_false, if_true, if_false, Bool.false_eq_true, ↓reduceIte]
    exact k' w h.drop
def esP (l : List Int) (x : Fam) : Bool := decide (x.ses ∈ l)
def ecP (cl : List UInt8) (l : List Int) (x : Fam) : Bool := decide (x.cl = cl) && decide (x.ses ∈ l)
theorem EndSessions_spec {p b c m : Nat} {s : St} {v : Value} {l : List Int} (ok : OkS s m) (hm : m ≤ 1000000) (h : sat E w (sI p s b c R)) (hv : Rds R v l.length (l.map iv)) (hl : l.length ≤ 9223372036854775807)
    (k : ∀ u w', sat E w' (osl 3 1 u (s.f.filter (esP l)).length (((s.f.filter (esP l)).map Fam.id).map iv) * sI p (dropAll s (s.f.filter (esP l))) b c R) → K u w') : Calls prog 13 #[.pointer (some ⟨p, 0, none⟩), v] w (Ret K) := by
  have hv1 : Rds (sI p s b c R) v l.length (l.map iv) := hv.right.right.right
  obtain ⟨va, vc, rfl, hvc, _, _⟩ := hv1.shape h
  refine c13 ?_
  unfold B13
  refine box_sl h fun sb w h => ?_
  have h : sat E w (boxS sb (.slice va l.length vc) * sI p s b c R) := h
  refine pvv_of (v := .func (.func 38) #[] #[.pointer (some ⟨sb, 0, none⟩)]) (fun _ => rfl) ?_
  refine ends_spec (pr := esP l) ok hm (sI_in h) (fun x X w K' hx h k' => EsF_spec (sb := sb) (v := .slice va l.length vc) (l := l) h ?_ hl k') fun u w h => k u w ?_
  · exact hv.right.right.right.right.right
  · have h := h.perm (show _ = boxS sb (.slice va l.length vc) * (osl 3 1 u (s.f.filter (esP l)).length (((s.f.filter (esP l)).map Fam.id).map iv) * sI p (dropAll s (s.f.filter (esP l))) b c R) by unfold sI; ac_rfl)
    exact h.drop
theorem EndClient_spec {p b c m : Nat} {s : St} {v : Value} {l : List Int} {cl : List UInt8} (ok : OkS s m) (hm : m ≤ 1000000) (h : sat E w (sI p s b c R)) (hv : Rds R v l.length (l.map iv)) (hl : l.length ≤ 9223372036854775807)
    (k : ∀ u w', sat E w' (osl 3 1 u (s.f.filter (ecP cl l)).length (((s.f.filter (ecP cl l)).map Fam.id).map iv) * sI p (dropAll s (s.f.filter (ecP cl l))) b c R) → K u w') : Calls prog 11 #[.pointer (some ⟨p, 0, none⟩), tv cl, v] w (Ret K) := by
  have hv1 : Rds (sI p s b c R) v l.length (l.map iv) := hv.right.right.right
  obtain ⟨va, vc, rfl, hvc, _, _⟩ := hv1.shape h
  refine c11 ?_
  unfold B11
  refine box_sl h fun tb w h => ?_
  have h : sat E w (boxT tb cl * sI p s b c R) := h
  refine box_sl h fun sb w h => ?_
  have h : sat E w (boxS sb (.slice va l.length vc) * (boxT tb cl * sI p s b c R)) := h
  refine pvv_of (v := .func (.func 35) #[] #[.pointer (some ⟨tb, 0, none⟩), .pointer (some ⟨sb, 0, none⟩)]) (fun _ => rfl) ?_
  have h := h.perm (show _ = sI p s b c (boxS sb (.slice va l.length vc) * (boxT tb cl * R)) by unfold sI; ac_rfl)
  refine ends_spec (pr := ecP cl l) ok hm h (fun x X w K' hx h k' => EcF_spec (sb := sb) (tb := tb) (v := .slice va l.length vc) (l := l) (cl := cl) h ?_ hl k') fun u w h => k u w ?_
  · exact hv.right.right.right.right.right.right
  · have h := h.perm (show _ = boxS sb (.slice va l.length vc) * (boxT tb cl * (osl 3 1 u (s.f.filter (ecP cl l)).length (((s.f.filter (ecP cl l)).map Fam.id).map iv) * sI p (dropAll s (s.f.filter (ecP cl l))) b c R)) by unfold sI; ac_rfl)
    exact h.drop.drop
end Go.Proofs.YtbcimkjgpplcpaaGreatDoor.T
